import PyProof.Rows.All
import Wide.All
import OpenK.AllK
import Wide.FinOn
import HandS.ForMost
import HandS.Deep
import HandS.TupAny
import HandS.DictComp
import HandS.Evl
import HandS.SetFor
import HandS.DictTup
import HandS.IsInst
import HandS.Conv
import HandS.Iter
import HandS.Walk
import PySem.Challenge.RW_oathledger_k69_client_counts_answers
set_option Elab.async false
set_option linter.all false
set_option maxRecDepth 100000
set_option maxHeartbeats 4000000
namespace My
open PySem L2

/-! ### data that never changes -/
mutual
inductive Tp (H : Hp) : V → PyData → Prop
  | non : Tp H .non .none
  | bl (b : Bool) : Tp H (.bl b) (.bool b)
  | int (i : Int) : Tp H (.int i) (.int i)
  | str (x : Str) : Tp H (.str x) (.str x)
  | tup {a : Addr} {xs : List V} {ds : List PyData} (h : H a = some (.tup xs)) (hs : TpA H xs ds) : Tp H (.ref a) (.tuple ds)
inductive TpA (H : Hp) : List V → List PyData → Prop
  | nil : TpA H [] []
  | cons {v : V} {vs : List V} {d : PyData} {ds : List PyData} (h : Tp H v d) (hs : TpA H vs ds) : TpA H (v :: vs) (d :: ds)
end
/-- every tuple stays -/
def TLe (H H' : Hp) : Prop := ∀ a xs, H a = some (.tup xs) → H' a = some (.tup xs)
theorem TLe.refl (H : Hp) : TLe H H := fun _ _ h => h
theorem TLe.trans {H H1 H2 : Hp} (a : TLe H H1) (b : TLe H1 H2) : TLe H H2 := fun x xs h => b x xs (a x xs h)
mutual
theorem Tp.mono {H H' : Hp} (e : TLe H H') : ∀ {v : V} {d : PyData}, Tp H v d → Tp H' v d
  | _, _, .non => .non
  | _, _, .bl b => .bl b
  | _, _, .int i => .int i
  | _, _, .str x => .str x
  | _, _, .tup h hs => .tup (e _ _ h) (TpA.mono e hs)
theorem TpA.mono {H H' : Hp} (e : TLe H H') : ∀ {vs : List V} {ds : List PyData}, TpA H vs ds → TpA H' vs ds
  | _, _, .nil => .nil
  | _, _, .cons h hs => .cons (Tp.mono e h) (TpA.mono e hs)
end
mutual
theorem Tp.dp {K : PySem.W.Frag} {H : Hp} : ∀ {v : V} {d : PyData}, Tp H v d → Dp K H v d
  | _, _, .non => .non
  | _, _, .bl b => .bl b
  | _, _, .int i => .int i
  | _, _, .str x => .str x
  | _, _, .tup h hs => .tup (SqT.of h) (TpA.dp hs)
theorem TpA.dp {K : PySem.W.Frag} {H : Hp} : ∀ {vs : List V} {ds : List PyData}, TpA H vs ds → DpAll K H vs ds
  | _, _, .nil => .nil
  | _, _, .cons h hs => .cons (Tp.dp h) (TpA.dp hs)
end
theorem TpA.len {H : Hp} : ∀ {vs : List V} {ds : List PyData}, TpA H vs ds → vs.length = ds.length
  | _, _, .nil => rfl
  | _, _, .cons _ hs => congrArg (· + 1) (TpA.len hs)
theorem TpA.get {H : Hp} : ∀ {vs : List V} {ds : List PyData} {i : Nat} {d : PyData}, TpA H vs ds → ds[i]? = some d → ∃ v, vs[i]? = some v ∧ Tp H v d
  | _, _, 0, d, .cons h _, e => by
    have e' := Option.some.inj e
    subst e'
    exact ⟨_, rfl, h⟩
  | _, _, i + 1, d, .cons _ hs, e => by
    obtain ⟨v, h1, h2⟩ := TpA.get (i := i) hs (by simpa using e)
    exact ⟨v, by simpa using h1, h2⟩
theorem TpA.getV {H : Hp} : ∀ {vs : List V} {ds : List PyData} {i : Nat} {v : V}, TpA H vs ds → vs[i]? = some v → ∃ d, ds[i]? = some d ∧ Tp H v d
  | _, _, 0, v, .cons h _, e => by
    have e' := Option.some.inj e
    subst e'
    exact ⟨_, rfl, h⟩
  | _, _, i + 1, v, .cons _ hs, e => by
    obtain ⟨d, h1, h2⟩ := TpA.getV (i := i) hs (by simpa using e)
    exact ⟨d, by simpa using h1, h2⟩
theorem TpA.app {H : Hp} : ∀ {vs ws : List V} {ds es : List PyData}, TpA H vs ds → TpA H ws es → TpA H (vs ++ ws) (ds ++ es)
  | _, _, _, _, .nil, b => b
  | _, _, _, _, .cons h hs, b => .cons h (TpA.app hs b)
theorem TpA.snoc {H : Hp} {vs : List V} {ds : List PyData} {v : V} {d : PyData} (a : TpA H vs ds) (h : Tp H v d) : TpA H (vs ++ [v]) (ds ++ [d]) := a.app (.cons h .nil)
theorem TpA.take {H : Hp} : ∀ {vs : List V} {ds : List PyData} (n : Nat), TpA H vs ds → TpA H (vs.take n) (ds.take n)
  | _, _, 0, _ => by simpa using TpA.nil
  | _, _, n + 1, .nil => .nil
  | _, _, n + 1, .cons h hs => .cons h (TpA.take n hs)
theorem TpA.drop {H : Hp} : ∀ {vs : List V} {ds : List PyData} (n : Nat), TpA H vs ds → TpA H (vs.drop n) (ds.drop n)
  | _, _, 0, a => a
  | _, _, n + 1, .nil => .nil
  | _, _, n + 1, .cons h hs => TpA.drop n hs
theorem TpA.set {H : Hp} : ∀ {vs : List V} {ds : List PyData} (n : Nat) {v : V} {d : PyData}, TpA H vs ds → Tp H v d → TpA H (vs.set n v) (ds.set n d)
  | _, _, _, _, _, .nil, _ => .nil
  | _, _, 0, _, _, .cons _ hs, h => .cons h hs
  | _, _, n + 1, _, _, .cons h0 hs, h => .cons h0 (TpA.set n hs h)
theorem tupI {H : Hp} {v : V} {ds : List PyData} (h : Tp H v (.tuple ds)) : ∃ a xs, v = .ref a ∧ H a = some (.tup xs) ∧ TpA H xs ds := by
  cases h with
  | tup h hs => exact ⟨_, _, rfl, h, hs⟩
theorem intI {H : Hp} {v : V} {i : Int} (h : Tp H v (.int i)) : v = .int i := by cases h; rfl
theorem strI {H : Hp} {v : V} {x : Str} (h : Tp H v (.str x)) : v = .str x := by cases h; rfl
theorem noneI {H : Hp} {v : V} (h : Tp H v .none) : v = .non := by cases h; rfl
theorem nilI {H : Hp} {vs : List V} (h : TpA H vs []) : vs = [] := by cases h; rfl
theorem consI {H : Hp} {vs : List V} {d : PyData} {ds : List PyData} (h : TpA H vs (d :: ds)) : ∃ v r, vs = v :: r ∧ Tp H v d ∧ TpA H r ds := by
  cases h with
  | cons h hs => exact ⟨_, _, rfl, h, hs⟩
theorem tpInts {H : Hp} : ∀ ns : List Int, TpA H (ns.map V.int) (ns.map PyData.int)
  | [] => .nil
  | n :: ns => .cons (.int n) (tpInts ns)

/-! ### a step of the heap: all but S as it was, tuples stay -/
structure Stp (S : List Addr) (H H' : Hp) : Prop where
  fx : ∀ b o, b ∉ S → H b = some o → H' b = some o
  tl : TLe H H'
theorem Stp.refl (S : List Addr) (H : Hp) : Stp S H H := ⟨fun _ _ _ h => h, .refl H⟩
theorem Stp.trans {S : List Addr} {H H1 H2 : Hp} (a : Stp S H H1) (b : Stp S H1 H2) : Stp S H H2 := ⟨fun x o n h => b.fx x o n (a.fx x o n h), a.tl.trans b.tl⟩
theorem Stp.new {S : List Addr} {H : Hp} {p : Addr} {o : HO} (h : H p = none) : Stp S H (upd H p o) :=
  ⟨fun b u _ e => by rw [upd_ne (ne_of_none e h)]; exact e, fun b u e => by rw [upd_ne (ne_of_none e h)]; exact e⟩
theorem Stp.wr {S : List Addr} {H : Hp} {l : Addr} {o u : HO} (h : H l = some u) (hu : ∀ xs, u ≠ .tup xs) (hl : l ∈ S) : Stp S H (upd H l o) :=
  ⟨fun b v n e => by rw [upd_ne (fun z => n (by rw [z]; exact hl))]; exact e, fun b xs e => by rw [upd_ne (ne_of e h (Ne.symm (hu xs)))]; exact e⟩
theorem Stp.wl {S : List Addr} {H : Hp} {l : Addr} {o : HO} {xs : List V} (h : H l = some (.lst xs)) (hl : l ∈ S) : Stp S H (upd H l o) := .wr h (fun _ z => nomatch z) hl
theorem Stp.mono {S S' : List Addr} {H H' : Hp} (a : Stp S H H') (h : ∀ b ∈ S, b ∈ S') : Stp S' H H' := ⟨fun b o n e => a.fx b o (fun z => n (h b z)) e, a.tl⟩
theorem Stp.up {S : List Addr} {H H' : Hp} (a : Stp [] H H') : Stp S H H' := a.mono fun _ z => nomatch z
/-- an object that the beginning does not know may be written -/
theorem Stp.own {S : List Addr} {H H' : Hp} {l : Addr} {o : HO} {xs : List V} (a : Stp S H H') (h0 : H l = none) (h : H' l = some (.lst xs)) : Stp S H (upd H' l o) :=
  ⟨fun b v n e => by rw [upd_ne (ne_of_none e h0)]; exact a.fx b v n e, fun b ys e => by rw [upd_ne (ne_of_none e h0)]; exact a.tl b ys e⟩
theorem Stp.ownD {S : List Addr} {H H' : Hp} {l : Addr} {o : HO} (a : Stp S H H') (h0 : H l = none) : Stp S H (upd H' l o) :=
  ⟨fun b v n e => by rw [upd_ne (ne_of_none e h0)]; exact a.fx b v n e, fun b ys e => by rw [upd_ne (ne_of_none e h0)]; exact a.tl b ys e⟩
theorem Stp.sql {K : PySem.W.Frag} {S : List Addr} {H H' : Hp} {a : Addr} {xs : List V} (e : Stp S H H') (ha : a ∉ S) (h : SqL K H a xs) : SqL K H' a xs := by
  rcases h with (h | ⟨o, h⟩) | h
  · exact .inl (.inl (e.fx _ _ ha h))
  · exact .inl (.inr ⟨o, e.fx _ _ ha h⟩)
  · exact .inr h
theorem Stp.back {S : List Addr} {H H' : Hp} {p : Addr} (e : Stp S H H') (hp : p ∉ S) (h : H' p = none) : H p = none := by
  cases q : H p with
  | none => rfl
  | some o => rw [e.fx p o hp q] at h; cases h
/-- a list that the loops leave as it is -/
def Ls (S : List Addr) (H : Hp) (a : Addr) (xs : List V) : Prop := a ∉ S ∧ H a = some (.lst xs)
theorem Ls.mono {S : List Addr} {H H' : Hp} {a : Addr} {xs : List V} (h : Ls S H a xs) (e : Stp S H H') : Ls S H' a xs := ⟨h.1, e.fx _ _ h.1 h.2⟩
theorem Ls.sql {K : PySem.W.Frag} {S : List Addr} {H : Hp} {a : Addr} {xs : List V} (h : Ls S H a xs) : SqL K H a xs := .of h.2

/-! ### a new place -/
structure Nw (H : Hp) (p : Addr) : Prop where
  h : H p = none
theorem Nw.ne1 {H : Hp} {a b : Addr} {o : HO} (n : Nw H b) (h : H a = some o) : a ≠ b := ne_of_none h n.h
theorem Nw.ne2 {H : Hp} {a b : Addr} {o : HO} (n : Nw H b) (h : H a = some o) : b ≠ a := (ne_of_none h n.h).symm
theorem Nw.ne3 {H : Hp} {a b : Addr} {o : HO} (n : Nw (upd H a o) b) : a ≠ b := ne_of_none upd_same n.h
theorem Nw.back {H : Hp} {a b : Addr} {o : HO} (n : Nw (upd H a o) b) : Nw H b := ⟨by have h := n.h; rw [upd_ne (Ne.symm n.ne3)] at h; exact h⟩
theorem Nw.bk {S : List Addr} {H H' : Hp} {p : Addr} (n : Nw H' p) (e : Stp S H H') (hp : p ∉ S) : Nw H p := ⟨e.back hp n.h⟩

/-! ### rules for a search -/
section
variable {S : List Addr} {H H1 H2 : Hp} {a b p l : Addr} {o u : HO} {xs ys : List V} {K : PySem.W.Frag}
theorem s_ne1 (h' : H b = none) (h : H a = some o) : a ≠ b := ne_of_none h h'
theorem s_ne2 (h' : H b = none) (h : H a = some o) : b ≠ a := (ne_of_none h h').symm
theorem s_ne3 (h : upd H b o a = none) : a ≠ b := fun e => by rw [e, upd_same] at h; cases h
theorem s_ne4 (h : upd H b o a = none) : b ≠ a := (s_ne3 h).symm
theorem s_ls (h : Ls (b :: S) H a xs) : a ≠ b := fun e => h.1 (by rw [e]; exact List.mem_cons_self)
theorem s_ls' (h : Ls (b :: S) H a xs) : b ≠ a := (s_ls h).symm
theorem s_hp (h : a ≠ b) (h' : H a = some o) : upd H b u a = some o := (upd_ne h).trans h'
theorem s_lsh (h : Ls S H a xs) : H a = some (.lst xs) := h.2
theorem s_fx0 (e : Stp [] H H1) (h : H a = some o) : H1 a = some o := e.fx _ _ (fun z => nomatch z) h
theorem s_fx1 (e : Stp [b] H H1) (n : a ≠ b) (h : H a = some o) : H1 a = some o := e.fx _ _ (by simpa using n) h
theorem s_tl (e : Stp S H H1) (h : H a = some (.tup xs)) : H1 a = some (.tup xs) := e.tl _ _ h
theorem s_bk (h : upd H b o a = none) : H a = none := by
  rw [upd_ne (s_ne3 h)] at h; exact h
theorem s_bk0 (e : Stp [] H H1) (h : H1 p = none) : H p = none := e.back (fun z => nomatch z) h
theorem s_bk1 (e : Stp [b] H H1) (hb : H1 b = some o) (h : H1 p = none) : H p = none := e.back (by simpa using s_ne2 h hb) h
theorem s_newN (e : Stp S H H1) (h : Nw H1 p) : Stp S H (upd H1 p o) := e.trans (.new h.h)
theorem s_ownN (e : Stp S H H1) (h0 : Nw H l) (h : H1 l = some (.lst xs)) : Stp S H (upd H1 l o) := e.own h0.h h
theorem s_ownDN (e : Stp S H H1) (h0 : Nw H l) : Stp S H (upd H1 l o) := e.ownD h0.h
theorem s_new (e : Stp S H H1) (h : H1 p = none) : Stp S H (upd H1 p o) := e.trans (.new h)
theorem s_wl (e : Stp S H H1) (h : H1 l = some (.lst xs)) (hl : l ∈ S) : Stp S H (upd H1 l o) := e.trans (.wl h hl)
theorem s_own (e : Stp S H H1) (h0 : H l = none) (h : H1 l = some (.lst xs)) : Stp S H (upd H1 l o) := e.own h0 h
theorem s_lm (h : Ls S H a xs) (e : Stp S H H1) : Ls S H1 a xs := h.mono e
theorem s_lsq (h : Ls S H a xs) : SqL K H a xs := h.sql
theorem s_sq (h : H a = some (.lst xs)) : SqL K H a xs := .of h
theorem s_sq0 (e : Stp [] H H1) (h : SqL K H a xs) : SqL K H1 a xs := e.sql (fun z => nomatch z) h
theorem s_lsi (h : H a = some (.lst xs)) (n : a ≠ b) : Ls [b] H a xs := ⟨by simpa using n, h⟩
end

/-! ### the first that is found -/
def fs {α : Type} : Nat → (Nat → Option α) → Option α
  | 0, _ => none
  | n + 1, f => match fs n f with
    | some x => some x
    | none => f n
theorem fs_none {α : Type} {f : Nat → Option α} : ∀ {n : Nat}, (∀ j, j < n → f j = none) → fs n f = none
  | 0, _ => rfl
  | n + 1, h => by
    show (match fs n f with | some x => some x | none => f n) = none
    rw [fs_none fun j hj => h j (Nat.lt_succ_of_lt hj)]
    exact h n (Nat.lt_succ_self n)
theorem fs_some {α : Type} {f : Nat → Option α} {i : Nat} {x : α} : ∀ {n : Nat}, (∀ j, j < i → f j = none) → i < n → f i = some x → fs n f = some x
  | 0, _, hi, _ => absurd hi (Nat.not_lt_zero _)
  | n + 1, h, hi, e => by
    show (match fs n f with | some x => some x | none => f n) = some x
    by_cases q : i = n
    · subst q
      rw [fs_none h]; exact e
    · rw [fs_some h (by omega) e]

/-! ### equality of data -/
theorem eqvAll_nil : PyData.eqvAll [] [] = true := by rw [PyData.eqvAll]
theorem eqvAll_cons (x y : PyData) (xs ys : List PyData) : PyData.eqvAll (x :: xs) (y :: ys) = (PyData.eqv x y && PyData.eqvAll xs ys) := by rw [PyData.eqvAll]
theorem eqv_tup (xs ys : List PyData) : PyData.eqv (.tuple xs) (.tuple ys) = PyData.eqvAll xs ys := by rw [PyData.eqv]
theorem eqv_lst (xs ys : List PyData) : PyData.eqv (.list xs) (.list ys) = PyData.eqvAll xs ys := by rw [PyData.eqv]
theorem eqv_int (i j : Int) : PyData.eqv (.int i) (.int j) = decide (i = j) := by rw [PyData.eqv]; exact Bool.beq_eq_decide_eq i j
theorem eqv_str (i j : Str) : PyData.eqv (.str i) (.str j) = decide (i = j) := by rw [PyData.eqv]; exact Bool.beq_eq_decide_eq i j
theorem shaped_of {d : PyData} (h : d.canLay0 = true) (hd : d.depth ≤ 64) : SeqAt.shaped d = true := by
  unfold SeqAt.shaped
  rw [h, decide_eq_true hd]; rfl

/-! ### the readings of built-ins, by name -/
section
variable {X : Cx}
def rLen (K : PySem.W.Frag) : List V → Hp → VK → Prop := fun xs H Q => ∃ p ys, xs = [.ref p] ∧ (SqL K H p ys ∨ SqT K H p ys) ∧ Q (.int ys.length) H
theorem c_len : CallR X (.builtin "len") (rLen X.K) := call_len_seq
def rLenS : List V → Hp → VK → Prop := fun xs H Q => ∃ z, xs = [.str z] ∧ z.length ≤ sizeLine ∧ Q (.int z.length) H
theorem c_lenS : CallR X (.builtin "len") rLenS := call_len_str
def rLenD : List V → Hp → VK → Prop := fun xs H Q => ∃ a kvs, xs = [V.ref a] ∧ H a = some (.dK kvs) ∧ Q (.int kvs.length) H
theorem c_lenD : CallR X (.builtin "len") rLenD := call_lenD
def rInt : List V → Hp → VK → Prop := fun xs H Q => (∃ i, xs = [.int i] ∧ Q (.int i) H) ∨ ∃ k, xs = [.bl k] ∧ Q (.int (if k then 1 else 0)) H
theorem c_int : CallR X (.type "int") rInt := call_int1
def rAbs : List V → Hp → VK → Prop := fun xs H Q => ∃ i, xs = [.int i] ∧ Q (.int (if i < 0 then -i else i)) H
theorem c_abs : CallR X (.builtin "abs") rAbs := call_abs
def rMax2 : List V → Hp → VK → Prop := fun xs H Q => ∃ i j, xs = [.int i, .int j] ∧ Q (.int (if j > i then j else i)) H
theorem c_max2 (hc : X.calm = true) : CallR X (.builtin "max") rMax2 := call_max2 hc
def rMin2 : List V → Hp → VK → Prop := fun xs H Q => ∃ i j, xs = [.int i, .int j] ∧ Q (.int (if j < i then j else i)) H
theorem c_min2 (hc : X.calm = true) : CallR X (.builtin "min") rMin2 := call_min2 hc
def rList (K : PySem.W.Frag) : List V → Hp → VK → Prop := fun xs H Q => ∃ p ys, xs = [.ref p] ∧ (SqL K H p ys ∨ SqT K H p ys) ∧ ∀ l, H l = none → Q (.ref l) (upd H l (.lst ys))
theorem c_list : CallR X (.type "list") (rList X.K) := call_list_of
def rIsN : R2 := fun x y H Q => y = .non ∧ Q (.bl (decide (x = .non))) H
theorem o_isN : OpR X (compareOp .Is) rIsN := op_isN
def rNotN : R2 := fun x y H Q => y = .non ∧ Q (.bl (!decide (x = .non))) H
theorem o_notN : OpR X (compareOp .IsNot) rNotN := op_notN
end

theorem hu65 {A : Around} {k : Nat} (hr : Room k A) : A.units + 65 < cLine := by have := hr.un; omega

/-! ### readings, a step at a time -/
section
variable {σ : L2.St} {H : Hp} {Q : VK} {D : Ends} {K : PySem.W.Frag}
theorem g_seq {t u : TS} (k : t { D with nx := u D } σ H) : tSeq t u D σ H := k
theorem g_set {te : TE} {i : Nat} (k : te σ H fun v H1 => D.nx (σ.set i (some v)) H1) : tAsg te (gName i) D σ H := k
theorem g_asg {te : TE} {g : TG} (k : te σ H fun v H1 => g v σ H1 D.nx) : tAsg te g D σ H := k
theorem g_ret {te : TE} (k : te σ H D.rt) : tRet te D σ H := k
theorem g_retN (k : D.rt .non H) : tRetN D σ H := k
theorem g_ifS {c : TT} {t u : TS} (k : c σ H fun b H1 => if b = true then t D σ H1 else u D σ H1) : tIfS c t u D σ H := k
theorem g_next (k : D.nx σ H) : tNext D σ H := k
theorem g_drop {te : TE} (k : te σ H fun _ H1 => D.nx σ H1) : tDrop te D σ H := k
theorem g_var {i : Nat} {v : V} (h : σ[i]? = some (some v)) (k : Q v H) : tVar i σ H Q := ⟨v, h, k⟩
theorem g_c {v : V} (k : Q v H) : tC v σ H Q := k
theorem g_op {r : R2} {ta tb : TE} (k : ta σ H fun x H1 => tb σ H1 fun y H2 => r x y H2 Q) : tOp r ta tb σ H Q := k
theorem g_un {r : V → Hp → VK → Prop} {ta : TE} (k : ta σ H fun x H1 => r x H1 Q) : tUn r ta σ H Q := k
theorem g_neg {i : Int} (k : Q (.int (-i)) H) : rU (fun i => .int (-i)) (.int i) H Q := ⟨i, rfl, k⟩
theorem g_I0 {g : Int → Int → V} {i j : Int} (k : Q (g i j) H) : rI0 g (.int i) (.int j) H Q := ⟨i, j, rfl, rfl, k⟩
theorem g_I {C : Int → Int → Prop} {g : Int → Int → V} {i j : Int} (c : C i j) (k : Q (g i j) H) : rI C g (.int i) (.int j) H Q := ⟨i, j, rfl, rfl, c, k⟩
theorem g_test {t : TE} {Q : Bool → Hp → Prop} (k : t σ H fun x H' => ∃ k, x = .bl k ∧ Q k H') : tTest t σ H Q := k
theorem g_tB {t : TE} {Q : Bool → Hp → Prop} (k : t σ H fun x H' => ∃ k, x = .bl k ∧ Q k H') : tB t σ H Q := k
theorem g_exbl {b : Bool} {Q : Bool → Prop} (k : Q b) : ∃ k, V.bl b = .bl k ∧ Q k := ⟨b, rfl, k⟩
theorem g_eqI {i j : Int} (k : Q (.bl (decide (i = j))) H) : rEq (.int i) (.int j) H Q := by
  refine ⟨rfl, ?_⟩
  have e : decide (V.int i = V.int j) = decide (i = j) := by simp
  rw [e]; exact k
theorem g_neI {i j : Int} (k : Q (.bl (!decide (i = j))) H) : rNe (.int i) (.int j) H Q := by
  refine ⟨rfl, ?_⟩
  have e : decide (V.int i = V.int j) = decide (i = j) := by simp
  rw [e]; exact k
theorem g_eqS {i j : Str} (k : Q (.bl (decide (i = j))) H) : rEq (.str i) (.str j) H Q := by
  refine ⟨rfl, ?_⟩
  have e : decide (V.str i = V.str j) = decide (i = j) := by simp
  rw [e]; exact k
theorem g_neS {i j : Str} (k : Q (.bl (!decide (i = j))) H) : rNe (.str i) (.str j) H Q := by
  refine ⟨rfl, ?_⟩
  have e : decide (V.str i = V.str j) = decide (i = j) := by simp
  rw [e]; exact k
theorem g_nil {Q : List V → Hp → Prop} (k : Q [] H) : tNil σ H Q := k
theorem g_cons {ta : TE} {tr : TA} {Q : List V → Hp → Prop} (k : ta σ H fun x H1 => tr σ H1 fun xs H2 => Q (x :: xs) H2) : tCons ta tr σ H Q := k
def rMkT : List V → Hp → VK → Prop := fun xs H1 Q => xs.length ≤ sizeLine ∧ ∀ p, H1 p = none → Q (.ref p) (upd H1 p (.tup xs))
def rMkL : List V → Hp → VK → Prop := fun xs H1 Q => xs.length ≤ sizeLine ∧ ∀ p, H1 p = none → Q (.ref p) (upd H1 p (.lst xs))
theorem g_tup {t : TA} (k : t σ H fun xs H1 => rMkT xs H1 Q) : tTup t σ H Q := k
theorem g_lst {t : TA} (k : t σ H fun xs H1 => rMkL xs H1 Q) : tLst t σ H Q := k
theorem g_mkT {xs : List V} (hz : xs.length ≤ sizeLine) (k : ∀ p, Nw H p → Q (.ref p) (upd H p (.tup xs))) : rMkT xs H Q := ⟨hz, fun p hp => k p ⟨hp⟩⟩
theorem g_mkL {xs : List V} (hz : xs.length ≤ sizeLine) (k : ∀ p, Nw H p → Q (.ref p) (upd H p (.lst xs))) : rMkL xs H Q := ⟨hz, fun p hp => k p ⟨hp⟩⟩
theorem sz16 {α : Type} {xs : List α} (h : xs.length ≤ 100000) : xs.length ≤ sizeLine := Nat.le_trans h (by decide)
theorem g_cb {r : List V → Hp → VK → Prop} {t : TA} (k : t σ H fun vs H1 => r vs H1 Q) : tCB r t σ H Q := k
theorem g_call {sp : Sp} {E : XK} {t : TA} (k : t σ H fun vs H1 => sp (vs ++ []) H1 Q E) : tCall sp [] E t σ H Q := k
theorem g_and {t u : TT} {Q : Bool → Hp → Prop} (k : t σ H fun c H1 => if c = true then u σ H1 Q else Q false H1) : tAnd t u σ H Q := k
theorem g_or {t u : TT} {Q : Bool → Hp → Prop} (k : t σ H fun c H1 => if c = true then Q true H1 else u σ H1 Q) : tOr t u σ H Q := k
theorem g_not {t : TT} {Q : Bool → Hp → Prop} (k : t σ H fun c H1 => Q (!c) H1) : tNot t σ H Q := k
theorem g_ix {r : R2} {ta tb : TE} (k : ta σ H fun x H1 => tb σ H1 fun y H2 => r x y H2 Q) : tOp r ta tb σ H Q := k
theorem g_ixL {p : Addr} {xs : List V} {i : Int} {v : V} (h : SqL K H p xs) (e : atI xs i = some v) (k : Q v H) : rIxL K (.ref p) (.int i) H Q := ⟨p, xs, i, v, rfl, rfl, h, e, k⟩
theorem g_ixT {p : Addr} {xs : List V} {i : Int} {v : V} (h : H p = some (.tup xs)) (e : atI xs i = some v) (k : Q v H) : rIxT K (.ref p) (.int i) H Q := ⟨p, xs, i, v, rfl, rfl, SqT.of h, e, k⟩
theorem g_iteD {p A B : Prop} [Decidable p] (h1 : p → A) (h2 : ¬ p → B) : if decide p = true then A else B := by
  by_cases h : p
  · rw [if_pos (decide_eq_true h)]; exact h1 h
  · rw [if_neg (by simpa using h)]; exact h2 h
theorem g_iteN {p A B : Prop} [Decidable p] (h1 : ¬ p → A) (h2 : p → B) : if (!decide p) = true then A else B := by
  by_cases h : p
  · rw [if_neg (by simpa using h)]; exact h2 h
  · rw [if_pos (by simpa using h)]; exact h1 h
theorem g_iteB {b : Bool} {A B : Prop} (h1 : b = true → A) (h2 : b = false → B) : if b = true then A else B := by
  cases b with
  | true => exact h1 rfl
  | false => exact h2 rfl
theorem g_andV {ta tb : TE} (k : ta σ H fun x H1 => ∃ c, x = .bl c ∧ if c = true then tb σ H1 Q else Q (.bl false) H1) : tAndV ta tb σ H Q := k
theorem g_if {t : TT} {ta tb : TE} (k : t σ H fun c H1 => if c = true then ta σ H1 Q else tb σ H1 Q) : tIf t ta tb σ H Q := k
theorem g_gsub {to ti : TE} {t : TSet} {v : V} {Q : L2.St → Hp → Prop} (k : to σ H fun o H1 => ti σ H1 fun i H2 => t o i v H2 fun H3 => Q σ H3) : gSub to ti t v σ H Q := k
theorem g_setL {p : Addr} {xs : List V} {i : Int} {j : Nat} {v : V} {Q : Hp → Prop} (h : H p = some (.lst xs)) (e : ixN xs.length i = some j) (k : Q (upd H p (.lst (xs.set j v)))) : rSetL (.ref p) (.int i) v H Q := ⟨p, xs, i, j, rfl, rfl, h, e, k⟩
theorem g_bm {T : String} {r : V → List V → Hp → VK → Prop} {to : TE} {t : TA} (k : to σ H fun x H1 => tyV K T x H1 ∧ t σ H1 fun xs H2 => r x xs H2 Q) : tBM K T r to t σ H Q := k
theorem g_tyL {p : Addr} {xs : List V} {P : Prop} (h : H p = some (.lst xs)) (k : P) : tyV K "list" (.ref p) H ∧ P := ⟨.inl ⟨rfl, _, SqL.of h⟩, k⟩
theorem g_app {l : Addr} {xs : List V} {y : V} (h : H l = some (.lst xs)) (hz : xs.length < sizeLine) (k : Q .non (upd H l (.lst (xs ++ [y])))) : rAppend (.ref l) [y] H Q := ⟨l, xs, y, rfl, rfl, h, hz, k⟩
theorem g_ext {l b : Addr} {xs zs : List V} (h : H l = some (.lst xs)) (hb : H b = some (.lst zs)) (hz : xs.length + zs.length ≤ sizeLine) (k : Q .non (upd H l (.lst (xs ++ zs)))) : rExtend (.ref l) [.ref b] H Q := ⟨l, b, xs, zs, rfl, rfl, h, hb, hz, k⟩
def ForR (lo : Int) (n : Nat) (g : TG) (tb : TS) (D : Ends) (σ : L2.St) (H : Hp) : Prop := ∃ Pv : Nat → L2.St → Hp → Prop, Pv 0 σ H ∧
  (∀ i σ H, i < n → Pv i σ H → g (.int (lo + i)) σ H fun σ2 H2 => tb { D with nx := Pv (i + 1), ct := Pv (i + 1), bk := D.nx } σ2 H2) ∧ ∀ σ H, Pv n σ H → D.nx σ H
def ForL (K : PySem.W.Frag) (a : Addr) (xs : List V) (g : TG) (tb : TS) (D : Ends) (σ : L2.St) (H : Hp) : Prop := ∃ Pv : Nat → L2.St → Hp → Prop, Pv 0 σ H ∧ (∀ i σ H, i ≤ xs.length → Pv i σ H → SqL K H a xs) ∧
  (∀ i x σ H, xs[i]? = some x → Pv i σ H → g x σ H fun σ2 H2 => tb { D with nx := Pv (i + 1), ct := Pv (i + 1), bk := D.nx } σ2 H2) ∧ ∀ σ H, Pv xs.length σ H → D.nx σ H
def ForJ (J : It) (g : TG) (tb : TS) (D : Ends) (σ : L2.St) (H1 : Hp) : Prop := ∃ W : Nat → Nat → L2.St → Hp → Prop, (∃ m, W 0 m σ H1) ∧ ∀ i m σ H, W i m σ H →
  (J.stop i H ∧ D.nx σ H) ∨ (J.go i H ∧ ∃ N : L2.St → Hp → Prop, (∀ σ' H', N σ' H' → ∃ m', m' < m ∧ W (i + 1) m' σ' H') ∧ ∀ x H', J.yld i H x H' → g x σ H' fun σ2 H2 => tb { D with nx := N, ct := N, bk := D.nx } σ2 H2)
theorem g_for {wi : TI} {g : TG} {tb : TS} (k : wi σ H fun J H1 => ForJ J g tb D σ H1) : tFor wi g tb D σ H := k
theorem g_iR1 {ta : TA} {R : It → Hp → Prop} (k : ta σ H fun vs H1 => ∃ j : Int, vs = [.int j] ∧ -(2 ^ 62) ≤ j ∧ j < 2 ^ 62 ∧ R (Itr 0 j.toNat) H1) : iRng1 ta σ H R := k
theorem g_iR2 {ta : TA} {R : It → Hp → Prop} (k : ta σ H fun vs H1 => ∃ i j : Int, vs = [.int i, .int j] ∧ (-(2 ^ 62) ≤ i ∧ i < 2 ^ 62 ∧ -(2 ^ 62) ≤ j ∧ j < 2 ^ 62) ∧ R (Itr i (j - i).toNat) H1) : iRng2 ta σ H R := k
theorem g_iL {tl : TE} {R : It → Hp → Prop} (k : tl σ H fun x H1 => ∃ a, x = .ref a ∧ (∃ xs, SqL K H1 a xs) ∧ R (Itl K a) H1) : iList K tl σ H R := k
theorem g_rng1 {n : Int} {g : TG} {tb : TS} (h1 : -(2 ^ 62) ≤ n) (h2 : n < 2 ^ 62) (k : ForR 0 n.toNat g tb D σ H) : ∃ j : Int, [V.int n] = [.int j] ∧ -(2 ^ 62) ≤ j ∧ j < 2 ^ 62 ∧ ForJ (Itr 0 j.toNat) g tb D σ H := by
  obtain ⟨Pv, h0, hs, hd⟩ := k
  exact ⟨n, rfl, h1, h2, for_range Pv h0 hs hd⟩
theorem g_rng2 {a n : Int} {g : TG} {tb : TS} (h1 : -(2 ^ 62) ≤ a ∧ a < 2 ^ 62 ∧ -(2 ^ 62) ≤ n ∧ n < 2 ^ 62) (k : ForR a (n - a).toNat g tb D σ H) :
    ∃ i j : Int, [V.int a, V.int n] = [.int i, .int j] ∧ (-(2 ^ 62) ≤ i ∧ i < 2 ^ 62 ∧ -(2 ^ 62) ≤ j ∧ j < 2 ^ 62) ∧ ForJ (Itr i (j - i).toNat) g tb D σ H := by
  obtain ⟨Pv, h0, hs, hd⟩ := k
  exact ⟨a, n, rfl, h1, for_range Pv h0 hs hd⟩
theorem g_forL {a : Addr} {xs : List V} {g : TG} {tb : TS} (h : SqL K H a xs) (k : ForL K a xs g tb D σ H) : ∃ a', V.ref a = .ref a' ∧ (∃ xs, SqL K H a' xs) ∧ ForJ (Itl K a') g tb D σ H := by
  obtain ⟨Pv, h0, hl, hs, hd⟩ := k
  exact ⟨a, rfl, ⟨xs, h⟩, for_list (K := K) Pv h0 hl hs hd⟩
theorem g_gname {i : Nat} {v : V} {Q : L2.St → Hp → Prop} (k : Q (σ.set i (some v)) H) : gName i v σ H Q := k
theorem g_gtup {n : Nat} {t : TGs} {a : Addr} {xs : List V} {Q : L2.St → Hp → Prop} (h : H a = some (.tup xs)) (hn : xs.length = n) (k : t xs σ H Q) : gTup K n t (.ref a) σ H Q := ⟨a, xs, rfl, SqT.of h, hn, k⟩
theorem g_gcons {t : TG} {u : TGs} {v : V} {r : List V} {Q : L2.St → Hp → Prop} (k : t v σ H fun σ' H' => u r σ' H' Q) : gCons t u (v :: r) σ H Q := ⟨v, r, rfl, k⟩
theorem g_gnil {Q : L2.St → Hp → Prop} (k : Q σ H) : gNil [] σ H Q := ⟨rfl, k⟩
theorem g_ixTS {p : Addr} {xs : List V} {i : Int} {v : V} (h : SqT K H p xs) (e : atI xs i = some v) (k : Q v H) : rIxT K (.ref p) (.int i) H Q := ⟨p, xs, i, v, rfl, rfl, h, e, k⟩
theorem g_neD {x y : V} {d e : PyData} (hx : Tp H x d) (hy : Tp H y e) (sd : SeqAt.shaped d = true) (se : SeqAt.shaped e = true) (k : Q (.bl (!PyData.eqv d e)) H) : rNeD K x y H Q := ⟨d, e, hx.dp, hy.dp, sd, se, k⟩
theorem g_lenL {p : Addr} {xs : List V} (h : SqL K H p xs) (k : Q (.int xs.length) H) : rLen K [.ref p] H Q := ⟨p, xs, rfl, .inl h, k⟩
theorem g_lenT {p : Addr} {xs : List V} (h : H p = some (.tup xs)) (k : Q (.int xs.length) H) : rLen K [.ref p] H Q := ⟨p, xs, rfl, .inr (SqT.of h), k⟩
theorem g_int1 {i : Int} (k : Q (.int i) H) : rInt [.int i] H Q := .inl ⟨i, rfl, k⟩
theorem g_abs {i : Int} (k : Q (.int (if i < 0 then -i else i)) H) : rAbs [.int i] H Q := ⟨i, rfl, k⟩
theorem g_min {i j : Int} (k : Q (.int (if j < i then j else i)) H) : rMin2 [.int i, .int j] H Q := ⟨i, j, rfl, k⟩
theorem g_max {i j : Int} (k : Q (.int (if j > i then j else i)) H) : rMax2 [.int i, .int j] H Q := ⟨i, j, rfl, k⟩
theorem g_listL {p : Addr} {xs : List V} (h : SqL K H p xs) (k : ∀ l, Nw H l → Q (.ref l) (upd H l (.lst xs))) : rList K [.ref p] H Q := ⟨p, xs, rfl, .inl h, fun l hl => k l ⟨hl⟩⟩
theorem g_listT {p : Addr} {xs : List V} (h : H p = some (.tup xs)) (k : ∀ l, Nw H l → Q (.ref l) (upd H l (.lst xs))) : rList K [.ref p] H Q := ⟨p, xs, rfl, .inr (SqT.of h), fun l hl => k l ⟨hl⟩⟩
theorem g_isN {v : V} (k : Q (.bl (decide (v = .non))) H) : rIsN v .non H Q := ⟨rfl, k⟩
theorem g_notN {v : V} (k : Q (.bl (!decide (v = .non))) H) : rNotN v .non H Q := ⟨rfl, k⟩
theorem g_cat {l b : Addr} {xs zs : List V} (h : H l = some (.lst xs)) (hb : H b = some (.lst zs)) (hz : xs.length + zs.length ≤ sizeLine) (k : ∀ p, Nw H p → Q (.ref p) (upd H p (.lst (xs ++ zs)))) : rCat (.ref l) (.ref b) H Q := ⟨l, b, xs, zs, rfl, rfl, h, hb, hz, fun p hp => k p ⟨hp⟩⟩
theorem g_slL {p : Addr} {xs : List V} {lo hi : Option Int} (h : SqL K H p xs) (k : ∀ q, Nw H q → Q (.ref q) (upd H q (.lst (cutV xs lo hi)))) : rSlL K (.ref p) lo hi H Q := ⟨p, xs, rfl, h, fun q hq => k q ⟨hq⟩⟩
theorem g_sl {r : V → Option Int → Option Int → Hp → VK → Prop} {te : TE} {tl th : TO} (k : te σ H fun x H1 => tl σ H1 fun l H2 => th σ H2 fun u H3 => r x l u H3 Q) : tSl r te tl th σ H Q := k
theorem g_noP {Q : Option Int → Hp → Prop} (k : Q none H) : tNoPart σ H Q := k
theorem g_part {t : TE} {Q : Option Int → Hp → Prop} (k : t σ H fun x H1 => ∃ i, x = .int i ∧ Q (some i) H1) : tPart t σ H Q := k
theorem g_exint {i : Int} {Q : Int → Prop} (k : Q i) : ∃ j, V.int i = .int j ∧ Q j := ⟨i, rfl, k⟩
theorem g_dNew (k : ∀ p, Nw H p → Q (.ref p) (upd H p (.dK []))) : tDNewK σ H Q := fun p hp => k p ⟨hp⟩
def rDNi (x y : V) (H : Hp) (Q : VK) : Prop := ∃ a o, x = .ref a ∧ DGet H a y o ∧ Q (.bl (!o.isSome)) H
def rDIn (x y : V) (H : Hp) (Q : VK) : Prop := ∃ a o, x = .ref a ∧ DGet H a y o ∧ Q (.bl o.isSome) H
def rDGet (x y : V) (H : Hp) (Q : VK) : Prop := ∃ a v, x = .ref a ∧ DGet H a y (some v) ∧ Q v H
def rDGet2 (a : Addr) (y z : V) (H : Hp) (Q : VK) : Prop := ∃ o, DGet H a y o ∧ Q (o.getD z) H
def rDPut (x y v : V) (H : Hp) (Q : Hp → Prop) : Prop := ∃ a H4, x = .ref a ∧ DPut H a y v H4 ∧ Q H4
theorem g_dnotin {ty td : TE} (k : ty σ H fun y H1 => td σ H1 fun x H2 => rDNi x y H2 Q) : tDNotIn ty td σ H Q := k
theorem g_din {ty td : TE} (k : ty σ H fun y H1 => td σ H1 fun x H2 => rDIn x y H2 Q) : tDIn ty td σ H Q := k
theorem g_dget {td ty : TE} (k : td σ H fun x H1 => ty σ H1 fun y H2 => rDGet x y H2 Q) : tDGet td ty σ H Q := k
theorem g_dput {td ty tv : TE} (k : tv σ H fun v H1 => td σ H1 fun x H2 => ty σ H2 fun y H3 => rDPut x y v H3 fun H4 => D.nx σ H4) : sDPut td ty tv D σ H := k
theorem g_dget2 {td ty tx : TE} (k : td σ H fun x H1 => ∃ a, x = .ref a ∧ IsD H1 a ∧ ty σ H1 fun y H2 => tx σ H2 fun z H3 => rDGet2 a y z H3 Q) : tDGet2 td ty tx σ H Q := k
theorem g_isD {a : Addr} {kvs : List (L2.Key × V)} {P : Addr → Prop} (h : H a = some (.dK kvs)) (k : P a) : ∃ a', V.ref a = .ref a' ∧ IsD H a' ∧ P a' := ⟨a, rfl, .inl ⟨kvs, .inl h⟩, k⟩
theorem g_dniT {a b : Addr} {kvs : List (List L2.Key × V)} {ks : List L2.Key} (h : H a = some (.dT kvs)) (hb : H b = some (.tup (ks.map kV))) (k : Q (.bl (!(valV kvs ks).isSome)) H) : rDNi (.ref a) (.ref b) H Q := ⟨a, _, rfl, .t h hb, k⟩
theorem g_get2I {a : Addr} {kvs : List (L2.Key × V)} {i : Int} {z : V} (h : H a = some (.dK kvs)) (k : Q ((valV kvs (.inl i)).getD z) H) : rDGet2 a (.int i) z H Q := ⟨_, .k (k := .inl i) h, k⟩
theorem g_getI {a : Addr} {kvs : List (L2.Key × V)} {i : Int} {v : V} (h : H a = some (.dK kvs)) (e : valV kvs (.inl i) = some v) (k : Q v H) : rDGet (.ref a) (.int i) H Q := ⟨a, v, rfl, by rw [← e]; exact .k (k := .inl i) h, k⟩
theorem g_putI {a : Addr} {kvs : List (L2.Key × V)} {i : Int} {v : V} {Q : Hp → Prop} (h : H a = some (.dK kvs)) (hz : kvs.length < sizeLine) (k : Q (upd H a (.dK (putK kvs (.inl i) v)))) : rDPut (.ref a) (.int i) v H Q := ⟨a, _, rfl, .k (k := .inl i) h hz, k⟩
theorem g_ifM {c : TT} {t u : TS} (M : Bool → Hp → Prop) (k2 : ∀ H1, M true H1 → t D σ H1) (k3 : ∀ H1, M false H1 → u D σ H1) (k : ∀ Q : Bool → Hp → Prop, (∀ b H1, M b H1 → Q b H1) → c σ H Q) : tIfS c t u D σ H :=
  k _ fun b H1 m => by
    cases b with
    | true => exact k2 H1 m
    | false => exact k3 H1 m
theorem g_catA {a b : Addr} {xs ys : List V} (h : H a = some (.tup xs)) (h2 : H b = some (.tup ys)) (hz : xs.length + ys.length ≤ sizeLine) (k : ∀ (p : Addr) (H' : Hp), Stp [] H H' → H' p = some (.tup (xs ++ ys)) → Q (.ref p) H') : rCatA K (.ref a) (.ref b) H Q := by
  refine ⟨a, b, xs, ys, rfl, rfl, SqT.of h, SqT.of h2, hz, fun e => ?_, fun _ e => ?_, fun _ _ p hp => k p _ (.new hp) upd_same⟩
  · rw [e] at k; exact k b H (.refl _ _) h2
  · rw [e, List.append_nil] at k; exact k a H (.refl _ _) h
theorem g_disp {trs : List (TE × TE)} (k : ∀ p, Nw H p → tPairs trs σ (upd H p (.dK [])) fun ps H2 => H2 p = some (.dK []) ∧ ∃ kvs : List (L2.Key × V), ps = kvs.map (fun kv => (kV kv.1, kv.2)) ∧ kvs.length ≤ 15 ∧ Q (.ref p) (upd H2 p (.dK (mergeK [] kvs)))) : tDisp trs σ H Q := fun p hp => k p ⟨hp⟩
theorem g_pcons {tk tv : TE} {r : List (TE × TE)} {Q : List (V × V) → Hp → Prop} (k : tk σ H fun x H1 => tv σ H1 fun y H2 => tPairs r σ H2 fun ps H3 => Q ((x, y) :: ps) H3) : tPairs ((tk, tv) :: r) σ H Q := k
theorem g_pnil {Q : List (V × V) → Hp → Prop} (k : Q [] H) : tPairs [] σ H Q := k
def LcJ (J : It) (g : TG) (tt : TT) (te : TE) (vs : List Nat) (σ : L2.St) (Q : VK) (H1 : Hp) : Prop := ∀ D, H1 D = none → ∃ W : Nat → Nat → Hp → Prop, (∃ m, W 0 m (upd H1 D (.lst []))) ∧ ∀ i m H, W i m H →
  (J.stop i H ∧ Q (.ref D) H) ∨ (J.go i H ∧ ∃ More : Hp → Prop, (∀ H', More H' → ∃ m', m' < m ∧ W (i + 1) m' H') ∧ ∀ x H', J.yld i H x H' → g x (wipe σ vs) H' fun σ2 H2 => wipe σ2 vs = wipe σ vs ∧ tt σ2 H2 fun b H3 =>
    if b = true then te σ2 H3 fun y H4 => ∃ acc, H4 D = some (.lst acc) ∧ acc.length < sizeLine ∧ More (upd H4 D (.lst (acc ++ [y]))) else More H3)
theorem g_lc {wi : TI} {g : TG} {tt : TT} {te : TE} {vs : List Nat} (k : wi σ H fun J H1 => LcJ J g tt te vs σ Q H1) : tLc wi g tt te vs σ H Q := k
theorem g_lcL {g : TG} {tt : TT} {te : TE} {vs : List Nat} {a : Addr} {xs : List V} (h : SqL K H a xs)
    (k : ∀ D, Nw H D → ∃ Pv : Nat → Hp → Prop, Pv 0 (upd H D (.lst [])) ∧ (∀ i H', i ≤ xs.length → Pv i H' → SqL K H' a xs) ∧
      (∀ i x H', xs[i]? = some x → Pv i H' → g x (wipe σ vs) H' fun σ2 H2 => wipe σ2 vs = wipe σ vs ∧ tt σ2 H2 fun b H3 =>
        if b = true then te σ2 H3 fun y H4 => ∃ acc, H4 D = some (.lst acc) ∧ acc.length < sizeLine ∧ Pv (i + 1) (upd H4 D (.lst (acc ++ [y]))) else Pv (i + 1) H3) ∧ ∀ H', Pv xs.length H' → Q (.ref D) H') :
    ∃ a', V.ref a = .ref a' ∧ (∃ xs, SqL K H a' xs) ∧ LcJ (Itl K a') g tt te vs σ Q H := by
  refine ⟨a, rfl, ⟨xs, h⟩, fun D hD => ?_⟩
  obtain ⟨Pv, h0, hl, hs, hd⟩ := k D ⟨hD⟩
  exact lc_list (K := K) Pv h0 hl hs hd
theorem g_yes {Q : Bool → Hp → Prop} (k : Q true H) : tYes σ H Q := k
theorem g_neSame {x y : V} {d : PyData} (hx : Dp K H x d) (hy : Dp K H y d) (sd : SeqAt.shaped d = true) (e : PyData.eqv d d = true) (k : Q (.bl false) H) : rNeD K x y H Q := ⟨d, d, hx, hy, sd, sd, by rw [e]; exact k⟩
theorem g_sig {t : TS} {σ' : L2.St} (e : σ' = σ) (k : t D σ' H) : t D σ H := e ▸ k
end
end My

set_option maxRecDepth 100000
set_option maxHeartbeats 4000000
namespace My
open PySem L2 PySem.Spec PyProof.Rows
/-! ### d.values(), list(d.values()), xs.count(x) -/
def valsO (p d : Addr) : HO := .ext fun h => h.IsValuesView p d
theorem valsO_ok {P : Program} {w : World} {H : Hp} {h : Heap} {p d : Addr} (e : h.get? p = some { cls := .type "dict_values", data := .fields #[.ref d] }) : ObjOk P w H h p (valsO p d) :=
  ⟨⟨_, e, rfl, rfl⟩, ⟨_, e⟩, fun h1 h2 x k => let ⟨o, ho, r⟩ := x; ⟨o, k o ho, r⟩⟩
section
variable {X : Cx}
def rValuesK : V → List V → Hp → VK → Prop := fun x xs H Q => ∃ (a : Addr) (kvs : List (L2.Key × V)), x = .ref a ∧ xs = [] ∧ H a = some (.dK kvs) ∧ ∀ p, H p = none → Q (.ref p) (upd H p (valsO p a))
theorem mt_valuesK : MtR X "dict.values" rValuesK := by
  intro pins s σ H x xs v us Q I rx rxs h
  obtain ⟨a, kvs, rfl, rfl, ha, q⟩ := h
  cases rx
  cases rxs
  obtain ⟨z, hs, vs, rel, hd⟩ := dk_of I.hok ha
  refine call_meetsIn PySem.F.slot_dict_values hd.typeIs PySem.F.entry_dict_values (PySem.F.args_dict_values_1 _) (meets_dict_values (mixKind X.prog X.w) a hs) ⟨⟨vs, hd⟩, ?_⟩
  have hf : H s.heap.objs.size = none := I.hok.fresh (Nat.le_refl _)
  exact ⟨.ref s.heap.objs.size, upd H s.heap.objs.size (valsO s.heap.objs.size a), I.laid (t' := s.toks) (fun b u e => Heap.get?_push_of_some _ e) (Nat.le_refl _) (valsO_ok (Heap.get?_push_size _ rfl)), rfl, q _ hf⟩
theorem kv_getV {kvs : List (L2.Key × V)} {vs : List (L2.Key × Value)} (r : KV kvs vs) {j : Nat} {k : L2.Key} {u : Value} (h : vs[j]? = some (k, u)) : ∃ x, kvs[j]? = some (k, x) ∧ RelV x u := by
  obtain ⟨⟨k', x⟩, h1, h2, h3⟩ := L2.DX.pget (show Paired _ kvs vs from r) h
  cases (show k' = k from h2)
  exact ⟨x, h1, h3⟩
def rListV : List V → Hp → VK → Prop := fun xs H Q => ∃ p d kvs, xs = [.ref p] ∧ H p = some (valsO p d) ∧ H d = some (.dK kvs) ∧ ∀ q, H q = none → Q (.ref q) (upd H q (.lst (kvs.map fun kv => kv.2)))
theorem c_listV (hc : X.calm = true) : CallR X (.type "list") rListV := by
  intro pins s σ H xs us Q I r h
  obtain ⟨p, d, kvs, e, hp, hk, q⟩ := h
  subst e
  obtain ⟨u, eu, rx⟩ := L2.vals1 r
  subst eu
  obtain rfl : u = Value.ref p := rx
  have view : s.heap.IsValuesView p d := (show ObjOk X.prog X.w H s.heap p (valsO p d) from I.hok p _ hp).1
  obtain ⟨z, lo, vs, rk, hd⟩ := dk_of I.hok hk
  obtain ⟨ep, hat⟩ := hd.dictAt
  have hl : kvs.length = vs.length := Paired.length rk
  refine PySem.W.kdl_call (PySem.W.kdl_values (r := p) (knd := mixKind X.prog X.w) (kvs := vs) (ep := ep)) (I.ok.hd hc) ⟨view, hat⟩ (by rw [← hl]; exact z) fun h' tk acc' c' hkeep hS hacc => ?_
  refine ⟨.ref s.heap.objs.size, upd H s.heap.objs.size (.lst (kvs.map fun kv => kv.2)), I.laid hkeep (Nat.le_refl _) (show ObjOk X.prog X.w _ _ _ (.lst (kvs.map fun kv => kv.2)) from ⟨?_, acc'.toList, c', ?_, ?_⟩), rfl, q _ (I.hok.fresh (Nat.le_refl _))⟩
  · rw [List.length_map]; exact z
  · have el : acc'.toList.length = acc'.size := by simp
    refine vals_of_at (by rw [List.length_map, el, hacc.1, hl]) fun j x w h1 h2 => ?_
    obtain ⟨k, hky⟩ := hacc.2 j w (by rw [← Array.getElem?_toList]; exact h2)
    obtain ⟨x', e1, e2⟩ := kv_getV rk hky
    rw [List.getElem?_map, e1] at h1
    cases h1
    exact e2
  · rw [Array.toArray_toList]; exact hS
def cntV (x : V) (xs : List V) : Nat := xs.countP fun y => eqV y x
theorem count_eqU {x : V} : ∀ {xs : List V} {us : List Value}, Vals xs us → xs.all flatV = true → us.countP (eqU x) = cntV x xs
  | _, _, .nil, _ => rfl
  | y :: xs, u :: us, .cons r t, f => by
    rw [List.all_cons, Bool.and_eq_true] at f
    unfold cntV
    rw [List.countP_cons, List.countP_cons, eqU_of r f.1, count_eqU t f.2]
    rfl
def rCntV (K : PySem.W.Frag) : V → List V → Hp → VK → Prop := fun x xs H Q => ∃ (p : Addr) (ys : List V) (y : V), x = .ref p ∧ xs = [y] ∧ SqL K H p ys ∧ flatV y = true ∧ ys.all flatV = true ∧ Q (.int (cntV y ys : Nat)) H
theorem mt_cntV : MtR X "list.count" (rCntV X.K) := by
  intro pins s σ H x xs v us Q I rx rxs h
  obtain ⟨p, ys, y, rfl, rfl, hs, fy, fys, q⟩ := h
  cases rx
  obtain ⟨u, rfl, ru⟩ := rxs.one
  obtain ⟨its, rv, ⟨⟨cls, dd, data, sl⟩, n, ho, hc, hdn, hd⟩, hlen⟩ := I.list hs
  simp only at hc hd
  subst hc hd
  refine call_meets PySem.F.slot_list_count ⟨_, ho, rfl⟩ PySem.F.entry_list_count (PySem.F.args_list_count_2 _ _)
    (SeqAt.list_countAt p its.toArray n dd sl u (eqU y)) ⟨ho, fun w hw => mem_eqAt ru fy rv fys w (by simpa using hw), ?_⟩
  have ec : its.toArray.toList.countP (eqU y) = cntV y ys := count_eqU rv fys
  refine ⟨.int (cntV y ys : Nat), H, I.tok _, ⟨s.toks, ?_⟩, q⟩
  show Value.int ((its.toArray.toList.countP (eqU y) : Nat) : Int) s.toks = Value.int ((cntV y ys : Nat) : Int) s.toks
  rw [ec]
end
end My

set_option maxRecDepth 100000
set_option maxHeartbeats 4000000
namespace My
open PySem L2
def top (i : Nat) : Stmt := PySem.Challenge.pw_oathledger_k69_client_counts_answers.main.body.getD i (.Pass ⟨0, 0, 0, 0⟩)
abbrev s_Client___init__ : Stmt := inClass (top 2) 0
theorem sc_Client___init__ : FnScope ["self", "group", "name"] ["self", "group", "name"] (defScope s_Client___init__) := ⟨rfl, rfl, rfl, by decide +kernel, rfl, by decide +kernel, by decide +kernel⟩
abbrev s_Client_pending : Stmt := inClass (top 2) 1
theorem sc_Client_pending : FnScope ["self", "number"] ["self"] (defScope s_Client_pending) := ⟨rfl, rfl, rfl, by decide +kernel, rfl, by decide +kernel, by decide +kernel⟩
abbrev s_Client_accepted : Stmt := inClass (top 2) 2
theorem sc_Client_accepted : FnScope ["self"] ["self"] (defScope s_Client_accepted) := ⟨rfl, rfl, rfl, by decide +kernel, rfl, by decide +kernel, by decide +kernel⟩
abbrev s_Client_waiting : Stmt := inClass (top 2) 3
theorem sc_Client_waiting : FnScope ["self"] ["self"] (defScope s_Client_waiting) := ⟨rfl, rfl, rfl, by decide +kernel, rfl, by decide +kernel, by decide +kernel⟩
abbrev s_Client_tick : Stmt := inClass (top 2) 4
theorem sc_Client_tick : FnScope ["self", "command", "number", "text", "machine"] ["self"] (defScope s_Client_tick) := ⟨rfl, rfl, rfl, by decide +kernel, rfl, by decide +kernel, by decide +kernel⟩
abbrev s_Client_submit : Stmt := inClass (top 2) 5
theorem sc_Client_submit : FnScope ["self", "text"] ["self", "text"] (defScope s_Client_submit) := ⟨rfl, rfl, rfl, by decide +kernel, rfl, by decide +kernel, by decide +kernel⟩
abbrev s_Client_receive : Stmt := inClass (top 2) 6
theorem sc_Client_receive : FnScope ["self", "sender", "letter", "command", "number", "text", "answer"] ["self", "sender", "letter"] (defScope s_Client_receive) := ⟨rfl, rfl, rfl, by decide +kernel, rfl, by decide +kernel, by decide +kernel⟩
abbrev s_is_integer : Stmt := top 8
theorem sc_is_integer : FnScope ["value", "least", "greatest"] ["value", "least", "greatest"] (defScope s_is_integer) := ⟨rfl, rfl, rfl, by decide +kernel, rfl, by decide +kernel, by decide +kernel⟩
abbrev s_Group___init__ : Stmt := inClass (top 10) 0
theorem sc_Group___init__ : FnScope ["self", "faults"] ["self", "faults"] (defScope s_Group___init__) := ⟨rfl, rfl, rfl, by decide +kernel, rfl, by decide +kernel, by decide +kernel⟩
abbrev s_Group_members : Stmt := inClass (top 10) 1
theorem sc_Group_members : FnScope ["self"] ["self"] (defScope s_Group_members) := ⟨rfl, rfl, rfl, by decide +kernel, rfl, by decide +kernel, by decide +kernel⟩
abbrev s_Group_is_member : Stmt := inClass (top 10) 2
theorem sc_Group_is_member : FnScope ["self", "value"] ["self", "value"] (defScope s_Group_is_member) := ⟨rfl, rfl, rfl, by decide +kernel, rfl, by decide +kernel, by decide +kernel⟩
abbrev s__law_rich : Stmt := top 12
theorem sc__law_rich : FnScope ["cell", "k", "mixed"] ["cell", "k"] (defScope s__law_rich) := ⟨rfl, rfl, rfl, by decide +kernel, rfl, by decide +kernel, by decide +kernel⟩
abbrev s__law_letters : Stmt := top 13
theorem sc__law_letters : FnScope ["model", "machines", "number", "k"] ["model", "machines"] (defScope s__law_letters) := ⟨rfl, rfl, rfl, by decide +kernel, rfl, by decide +kernel, by decide +kernel⟩
abbrev s__law_receive : Stmt := top 14
theorem sc__law_receive : FnScope ["model", "machines", "sender", "letter", "number", "count", "one"] ["model", "machines", "sender", "letter"] (defScope s__law_receive) := ⟨rfl, rfl, rfl, by decide +kernel, rfl, by decide +kernel, by decide +kernel⟩
abbrev s__law_call : Stmt := top 15
theorem sc__law_call : FnScope ["client", "model", "machines", "rich", "choice", "rest", "text", "due", "number", "letter", "sender"] ["client", "model", "machines", "rich"] (defScope s__law_call) := ⟨rfl, rfl, rfl, by decide +kernel, rfl, by decide +kernel, by decide +kernel⟩
abbrev s__law_same : Stmt := top 16
theorem sc__law_same : FnScope ["client", "model", "number", "pending", "accepted"] ["client", "model"] (defScope s__law_same) := ⟨rfl, rfl, rfl, by decide +kernel, rfl, by decide +kernel, by decide +kernel⟩
abbrev s_law : Stmt := top 17
theorem sc_law : FnScope ["script", "faults", "machines", "client", "model", "k"] ["script"] (defScope s_law) := ⟨rfl, rfl, rfl, by decide +kernel, rfl, by decide +kernel, by decide +kernel⟩
structure Df (K : PySem.W.Frag) (mg : Str → Option Value) (x : Str) (st : Stmt) (ps : List Str) where
  f : Addr
  fd : FuncData
  F : Fun K x x st f fd
  m : mg x = some (.ref f)
  b : Binds K fd ps []
structure Dm (K : PySem.W.Frag) (C : Addr) (x q : Str) (st : Stmt) (ps : List Str) where
  f : Addr
  fd : FuncData
  F : Fun K x q st f fd
  mt : Meth K C x f
  b : Binds K fd ps []
structure Txt (K : PySem.W.Frag) (mg : Str → Option Value) where
  cC : Addr
  cG : Addr
  cl_Client : Cls K cC
  cl_Group : Cls K cG
  d_Client___init__ : Dm K cC "__init__" "Client.__init__" s_Client___init__ ["self", "group", "name"]
  d_Client_pending : Dm K cC "pending" "Client.pending" s_Client_pending ["self"]
  d_Client_accepted : Dm K cC "accepted" "Client.accepted" s_Client_accepted ["self"]
  d_Client_waiting : Dm K cC "waiting" "Client.waiting" s_Client_waiting ["self"]
  d_Client_tick : Dm K cC "tick" "Client.tick" s_Client_tick ["self"]
  d_Client_submit : Dm K cC "submit" "Client.submit" s_Client_submit ["self", "text"]
  d_Client_receive : Dm K cC "receive" "Client.receive" s_Client_receive ["self", "sender", "letter"]
  d_Group___init__ : Dm K cG "__init__" "Group.__init__" s_Group___init__ ["self", "faults"]
  d_Group_members : Dm K cG "members" "Group.members" s_Group_members ["self"]
  d_Group_is_member : Dm K cG "is_member" "Group.is_member" s_Group_is_member ["self", "value"]
  d_is_integer : Df K mg "is_integer" s_is_integer ["value", "least", "greatest"]
  d__law_rich : Df K mg "_law_rich" s__law_rich ["cell", "k"]
  d__law_letters : Df K mg "_law_letters" s__law_letters ["model", "machines"]
  d__law_receive : Df K mg "_law_receive" s__law_receive ["model", "machines", "sender", "letter"]
  d__law_call : Df K mg "_law_call" s__law_call ["client", "model", "machines", "rich"]
  d__law_same : Df K mg "_law_same" s__law_same ["client", "model"]
  d_law : Df K mg "law" s_law ["script"]
  mk_Client : Mk K cC d_Client___init__.f
  mk_Group : Mk K cG d_Group___init__.f
  mg_Client : mg "Client" = some (.ref cC)
  mg_Group : mg "Group" = some (.ref cG)
  moT : Tok
  c_MOST_FAULTS : mg "MOST_FAULTS" = some (.int 10 moT)
  n_group : NoAttr K cC "group"
  n_name : NoAttr K cC "name"
  n_texts : NoAttr K cC "texts"
  n_done : NoAttr K cC "done"
  n_heard : NoAttr K cC "heard"
  n_faults : NoAttr K cG "faults"
  n_machines : NoAttr K cG "machines"
  n_quorum : NoAttr K cG "quorum"
  n_blocking : NoAttr K cG "blocking"
  b_len : mg "len" = none
  b_range : mg "range" = none
  b_max : mg "max" = none
  b_int : mg "int" = none
  b_bool : mg "bool" = none
  b_list : mg "list" = none
  b_isinstance : mg "isinstance" = none
/-! ### the fields -/
def gf (F : Int) : List (Str × V) := [("faults", .int F), ("machines", .int (3 * F + 1)), ("quorum", .int (2 * F + 1)), ("blocking", .int (F + 1))]
def cf (g lt ld dh : Addr) : List (Str × V) := [("group", .ref g), ("name", .int (-5)), ("texts", .ref lt), ("done", .ref ld), ("heard", .ref dh)]
section
variable {F : Int} {g lt ld dh d2 : Addr}
theorem gf_machines : (gf F).lookup ("machines" : Str) = some (.int (3 * F + 1)) := by rfl
theorem gf_blocking : (gf F).lookup ("blocking" : Str) = some (.int (F + 1)) := by rfl
theorem cf_group : (cf g lt ld dh).lookup ("group" : Str) = some (.ref g) := by rfl
theorem cf_texts : (cf g lt ld dh).lookup ("texts" : Str) = some (.ref lt) := by rfl
theorem cf_done : (cf g lt ld dh).lookup ("done" : Str) = some (.ref ld) := by rfl
theorem cf_heard : (cf g lt ld dh).lookup ("heard" : Str) = some (.ref dh) := by rfl
theorem cf_no1 : (cf g lt ld dh).lookup ("pending" : Str) = none := by rfl
theorem cf_put : putF "heard" (.ref d2) (cf g lt ld dh) = cf g lt ld d2 := by rfl
theorem gf_put : putF "blocking" (.int (F + 1)) (putF "quorum" (.int (2 * F + 1)) (putF "machines" (.int (3 * F + 1)) (putF "faults" (.int F) []))) = gf F := by rfl
end
end My

set_option maxRecDepth 100000
set_option maxHeartbeats 4000000
namespace My
open PySem L2
section
variable {σ : L2.St} {H : Hp} {Q : VK} {D : Ends} {K : PySem.W.Frag} {mg : Str → Option Value} {T : Txt K mg} {c g dx dg lt ld dh p x : Addr} {F i : Int} {C f : Addr} {fs : List (Str × V)} {nm : Str}
def rFld (K : PySem.W.Frag) (f : Str) (x : V) (H1 : Hp) (Q : VK) : Prop := ∃ a C dx fs v, x = .ref a ∧ H1 a = some (.ins C dx fs) ∧ Cls K C ∧ NoAttr K C f ∧ fs.lookup f = some v ∧ Q v H1
theorem g_fld {ta : TE} (k : ta σ H fun x H1 => rFld K nm x H1 Q) : tFld K ta nm σ H Q := k
theorem g_Fgroup (h : H c = some (.ins T.cC dx (cf g lt ld dh))) (k : Q (.ref g) H) : rFld K "group" (.ref c) H Q := ⟨_, _, _, _, _, rfl, h, T.cl_Client, T.n_group, cf_group, k⟩
theorem g_Ftexts (h : H c = some (.ins T.cC dx (cf g lt ld dh))) (k : Q (.ref lt) H) : rFld K "texts" (.ref c) H Q := ⟨_, _, _, _, _, rfl, h, T.cl_Client, T.n_texts, cf_texts, k⟩
theorem g_Fdone (h : H c = some (.ins T.cC dx (cf g lt ld dh))) (k : Q (.ref ld) H) : rFld K "done" (.ref c) H Q := ⟨_, _, _, _, _, rfl, h, T.cl_Client, T.n_done, cf_done, k⟩
theorem g_Fheard (h : H c = some (.ins T.cC dx (cf g lt ld dh))) (k : Q (.ref dh) H) : rFld K "heard" (.ref c) H Q := ⟨_, _, _, _, _, rfl, h, T.cl_Client, T.n_heard, cf_heard, k⟩
theorem g_Fmachines (h : H g = some (.ins T.cG dg (gf F))) (k : Q (.int (3 * F + 1)) H) : rFld K "machines" (.ref g) H Q := ⟨_, _, _, _, _, rfl, h, T.cl_Group, T.n_machines, gf_machines, k⟩
theorem g_Fblocking (h : H g = some (.ins T.cG dg (gf F))) (k : Q (.int (F + 1)) H) : rFld K "blocking" (.ref g) H Q := ⟨_, _, _, _, _, rfl, h, T.cl_Group, T.n_blocking, gf_blocking, k⟩
def rPut (K : PySem.W.Frag) (f : Str) (x y : V) (H2 : Hp) (Q : Hp → Prop) : Prop := ∃ a C dx fs, x = .ref a ∧ H2 a = some (.ins C dx fs) ∧ Cls K C ∧ NoAttr K C f ∧ fs.length < 1000 ∧ Q (upd H2 a (.ins C dx (putF f y fs)))
theorem g_sfld {ta tv : TE} (k : tv σ H fun y H1 => ta σ H1 fun x H2 => rPut K nm x y H2 fun H3 => D.nx σ H3) : sFld K ta tv nm D σ H := k
theorem g_put {fs : List (Str × V)} {y : V} {Q : Hp → Prop} (h : H p = some (.ins C dx fs)) (c : Cls K C) (n : NoAttr K C nm) (l : fs.length < 1000) (k : Q (upd H p (.ins C dx (putF nm y fs)))) : rPut K nm (.ref p) y H Q := ⟨_, _, _, _, rfl, h, c, n, l, k⟩
theorem g_Pheard {d2 : Addr} {Q : Hp → Prop} (h : H c = some (.ins T.cC dx (cf g lt ld dh))) (k : Q (upd H c (.ins T.cC dx (cf g lt ld d2)))) : rPut K "heard" (.ref c) (.ref d2) H Q := ⟨_, _, _, _, rfl, h, T.cl_Client, T.n_heard, (by show 5 < 1000; decide), by rw [cf_put]; exact k⟩
theorem g_isiI (k : Q (.bl true) H) : rIsi K [.int i, .ty "int"] H Q := ⟨_, _, _, _, _, rfl, .ty _, .base (.int _), kit_ty (by decide +kernel), k⟩
theorem g_isiB (k : Q (.bl false) H) : rIsi K [.int i, .ty "bool"] H Q := ⟨_, _, _, _, _, rfl, .ty _, .base (.int _), kit_ty (by decide +kernel), k⟩
theorem g_isiL {xs : List V} (h : H p = some (.lst xs)) (k : Q (.bl true) H) : rIsi K [.ref p, .ty "list"] H Q := ⟨_, _, _, _, _, rfl, .ty _, .base (.lst h), kit_ty (by decide +kernel), k⟩
theorem ifNT {A B : Prop} (k : B) : if (!true) = true then A else B := k
theorem ifNF {A B : Prop} (k : A) : if (!false) = true then A else B := k
def rMk (K : PySem.W.Frag) (te : L2.St → Hp → (Int → Int → Hp → Prop) → Prop) : TE := fun σ H Q => te σ H fun a b H1 => RgOk a b ∧ ∀ q, H1 q = none → Q (.ref q) (upd H1 q (.lst (rgV a b)))
def kRg (a b : Int) (H : Hp) (Q : VK) : Prop := RgOk a b ∧ ∀ q, H q = none → Q (.ref q) (upd H q (.lst (rgV a b)))
theorem g_lstRg {te : L2.St → Hp → (Int → Int → Hp → Prop) → Prop} (k : te σ H fun a b H1 => kRg a b H1 Q) : tLstRg te σ H Q := k
theorem g_rg1 {ta : TE} {R : Int → Int → Hp → Prop} (k : ta σ H fun x H1 => ∃ n, x = .int n ∧ R 0 n H1) : tRg1 ta σ H R := k
theorem g_kRg {a b : Int} (h : RgOk a b) (k : ∀ q, Nw H q → Q (.ref q) (upd H q (.lst (rgV a b)))) : kRg a b H Q := ⟨h, fun q hq => k q ⟨hq⟩⟩
theorem g_chain {r r' : R2} {ta tb tc : TE} (k : ta σ H fun x H1 => tb σ H1 fun y H2 => r x y H2 fun z H3 => ∃ k, z = .bl k ∧ (if k = true then tc σ H3 fun w' H4 => r' y w' H4 Q else Q (.bl false) H3)) : tChain r r' ta tb tc σ H Q := k
def rMeth (C : Addr) (m : Str) (x : V) (H1 : Hp) (R : Addr → Prop) : Prop := ∃ a dx fs, x = .ref a ∧ H1 a = some (.ins C dx fs) ∧ fs.lookup m = none ∧ R a
theorem g_meth {sp : Sp} {E : XK} {ta : TE} {t : TA} {m : Str} (k : ta σ H fun x H1 => ∃ a dx fs, x = .ref a ∧ H1 a = some (.ins C dx fs) ∧ fs.lookup m = none ∧ t σ H1 fun vs H2 => sp (x :: (vs ++ [])) H2 Q E) : tMeth C m sp [] E ta t σ H Q := k
theorem g_ism {C dx a : Addr} {m : Str} {fs : List (Str × V)} {R : Prop} (h : H a = some (.ins C dx fs)) (n : fs.lookup m = none) (k : R) : ∃ a' dx fs, V.ref a = .ref a' ∧ H a' = some (.ins C dx fs) ∧ fs.lookup m = none ∧ R := ⟨a, dx, fs, rfl, h, n, k⟩
theorem g_bm0 {Tn : String} {r : V → List V → Hp → VK → Prop} {to : TE} (k : to σ H fun x H1 => tyV K Tn x H1 ∧ r x [] H1 Q) : tBM0 K Tn r to σ H Q := k
theorem g_tyD {kvs : List (L2.Key × V)} {P : Prop} (h : H p = some (.dK kvs)) (k : P) : tyV K "dict" (.ref p) H ∧ P := ⟨.inr (.inr (.inl ⟨rfl, .inl ⟨kvs, h⟩⟩)), k⟩
theorem g_values {kvs : List (L2.Key × V)} (h : H p = some (.dK kvs)) (k : ∀ q, Nw H q → Q (.ref q) (upd H q (valsO q p))) : rValuesK (.ref p) [] H Q := ⟨p, kvs, rfl, rfl, h, fun q hq => k q ⟨hq⟩⟩
theorem g_listV {d : Addr} {kvs : List (L2.Key × V)} (h : H p = some (valsO p d)) (hd : H d = some (.dK kvs)) (k : ∀ q, Nw H q → Q (.ref q) (upd H q (.lst (kvs.map fun kv => kv.2)))) : rListV [.ref p] H Q := ⟨p, d, kvs, rfl, h, hd, fun q hq => k q ⟨hq⟩⟩
theorem g_cnt {ys : List V} {y : V} (h : SqL K H p ys) (fy : flatV y = true) (fys : ys.all flatV = true) (k : Q (.int (cntV y ys : Nat)) H) : rCntV K (.ref p) [y] H Q := ⟨p, ys, y, rfl, rfl, h, fy, fys, k⟩
theorem g_dinI {a : Addr} {kvs : List (L2.Key × V)} {i : Int} (h : H a = some (.dK kvs)) (k : Q (.bl (valV kvs (.inl i)).isSome) H) : rDIn (.ref a) (.int i) H Q := ⟨a, _, rfl, .k (k := .inl i) h, k⟩
theorem g_getIF {a : Addr} {o : Obj} {kvs : List (L2.Key × V)} {i : Int} {v : V} (h : H a = some (.frz o (.dK kvs))) (e : valV kvs (.inl i) = some v) (k : Q v H) : rDGet (.ref a) (.int i) H Q := ⟨a, v, rfl, by rw [← e]; exact .inl ⟨kvs, .inl i, .inr ⟨o, h⟩, rfl, rfl⟩, k⟩
def kMake (sp : Sp) (E : XK) (C : Addr) (vs : List V) (H1 : Hp) (Q : VK) : Prop := ∀ x dx, H1 x = none → H1 dx = none → dx ≠ x → sp (.ref x :: (vs ++ [])) (upd (upd H1 dx (.own x)) x (.ins C dx [])) (fun v H2 => v = .non ∧ Q (.ref x) H2) E
theorem g_make {sp : Sp} {E : XK} {t : TA} (k : t σ H fun vs H1 => kMake sp E C vs H1 Q) : tMake C sp [] E t σ H Q := k
theorem g_lck {t : TS} {d : Addr} {u : HO} (h : H d = some u) (m : Mut (some u)) (k : ∀ od, t ⟨fun σ' H' => H' d = some (.frz od u) ∧ D.nx σ' (upd H' d u), fun v H' => H' d = some (.frz od u) ∧ D.rt v (upd H' d u), fun σ' H' => H' d = some (.frz od u) ∧ D.bk σ' (upd H' d u), fun σ' H' => H' d = some (.frz od u) ∧ D.ct σ' (upd H' d u)⟩ σ (upd H d (.frz od u))) : tLock t D σ H := ⟨d, u, h, m, k⟩
end
/-! ### the data -/
def str4 (x : Str) : Prop := PyData.canLay0 (.str x) = true
def doneD (d : Int × Str × Str) : PyData := .tuple [.int d.1, .str d.2.1, .str d.2.2]
def letterD (n : Int) (x : Str) (k : Nat) : PyData := .tuple [.int (k : Int), .tuple [.str "command", .int n, .str x]]
def lettersD (F : Nat) (ts : List Str) (n : Nat) : List PyData := match ts[n]? with
  | some x => (List.range (3 * F + 1)).map (letterD ((n : Int) + 1) x)
  | none => []
/-- the state of the client in the heap -/
structure CAt {K : PySem.W.Frag} {mg : Str → Option Value} (T : Txt K mg) (H : Hp) (c g dx dg lt ld dh : Addr) (F : Nat) (ts : List Str) (ds : List (Int × Str × Str)) (kvs : List (L2.Key × V)) : Prop where
  hc : H c = some (.ins T.cC dx (cf g lt ld dh))
  hg : H g = some (.ins T.cG dg (gf (F : Int)))
  ht : H lt = some (.lst (ts.map V.str))
  hd : ∃ xs, H ld = some (.lst xs) ∧ TpA H xs (ds.map doneD)
  hh : H dh = some (.dK kvs)
  hF : F ≤ 10
  hn : ts.length ≤ 64
  hs : ds.length ≤ 64
end My

set_option maxRecDepth 100000
set_option maxHeartbeats 8000000
namespace My
open PySem L2
local macro_rules | `(tactic| walk_at "ne") => `(tactic| first
  | assumption
  | exact Ne.symm (by assumption)
  | exact s_ls (by assumption)
  | exact s_ls' (by assumption)
  | ((refine Nw.ne1 (H := ?H) (o := ?o) ?n ?h); (case n => assumption); (case h => walk_at "hp"))
  | ((refine Nw.ne2 (H := ?H) (o := ?o) ?n ?h); (case n => assumption); (case h => walk_at "hp")))
local macro_rules | `(tactic| walk_at "hp") => `(tactic| first
  | assumption
  | exact upd_same
  | exact s_lsh (by assumption)
  | ((with_reducible refine s_hp ?n ?h); (case n => walk_at "ne"); (case h => walk_at "hp"))
  | ((refine s_fx0 (H := ?H) ?n ?h); (case n => assumption); (case h => walk_at "hp"))
  | ((refine s_fx1 (H := ?H) (b := ?b) ?e ?n ?h); (case e => assumption); (case n => walk_at "ne"); (case h => walk_at "hp"))
  | ((refine s_tl (S := ?S) (H := ?H) ?e ?h); (case e => assumption); (case h => walk_at "hp")))
local macro_rules | `(tactic| walk_at "mem") => `(tactic| first | exact List.mem_cons_self | exact List.mem_cons_of_mem _ List.mem_cons_self)
local macro_rules | `(tactic| walk_at "stp") => `(tactic| first
  | assumption
  | exact Stp.refl _ _
  | exact Stp.up (by assumption)
  | ((with_reducible refine s_newN ?e ?h); (case h => assumption); (case e => walk_at "stp"))
  | ((with_reducible refine s_wl (xs := ?xs) ?e ?h ?m); (case m => walk_at "mem"); (case h => walk_at "hp"); (case e => walk_at "stp"))
  | ((with_reducible refine s_ownN (xs := ?xs) ?e ?n ?h); (case n => assumption); (case h => walk_at "hp"); (case e => walk_at "stp"))
  | ((with_reducible refine s_ownDN ?e ?n); (case n => assumption); (case e => walk_at "stp"))
  | ((refine Stp.trans (H1 := ?H) ?a ?b); (case b => assumption); (case a => walk_at "stp")))
local macro_rules | `(tactic| walk_at "sql") => `(tactic| first
  | assumption
  | ((refine s_lsq (S := ?S) ?h); (case h => assumption))
  | ((refine s_sq ?h); (case h => walk_at "hp"))
  | ((refine s_lsq (S := ?S) (s_lm (H := ?H) ?h ?e)); (case h => assumption); (case e => walk_at "stp"))
  | ((refine s_sq0 (H := ?H) ?e ?h); (case h => assumption); (case e => walk_at "stp")))
local macro_rules | `(tactic| walk_at "go1") => `(tactic| first
  | with_reducible refine g_seq ?_
  | with_reducible refine g_set ?_
  | with_reducible refine g_ret ?_
  | with_reducible refine g_ifS ?_
  | with_reducible refine g_op ?_
  | ((with_reducible refine g_var (v := ?v) ?h ?_); (case h => exact rfl))
  | with_reducible refine g_c ?_
  | with_reducible refine g_I0 ?_
  | with_reducible refine g_cons ?_
  | with_reducible refine g_nil ?_
  | with_reducible refine g_cb ?_
  | with_reducible refine g_call ?_
  | with_reducible refine g_test ?_
  | with_reducible refine g_exbl ?_
  | with_reducible refine g_eqI ?_
  | with_reducible refine g_neI ?_
  | with_reducible refine g_eqS ?_
  | with_reducible refine g_neS ?_
  | with_reducible refine g_next ?_
  | with_reducible refine g_drop ?_
  | with_reducible refine g_asg ?_
  | with_reducible refine g_un ?_
  | with_reducible refine g_neg ?_
  | with_reducible refine g_tB ?_
  | with_reducible refine g_and ?_
  | with_reducible refine g_or ?_
  | with_reducible refine g_not ?_
  | with_reducible refine g_tup ?_
  | with_reducible refine g_lst ?_
  | with_reducible refine g_retN ?_
  | with_reducible refine g_if ?_
  | with_reducible refine g_andV ?_
  | with_reducible refine iteF ?_
  | with_reducible refine iteT ?_
  | with_reducible refine g_lc ?_
  | with_reducible refine g_gsub ?_
  | with_reducible refine g_pcons ?_
  | with_reducible refine g_pnil ?_
  | with_reducible refine g_dnotin ?_
  | with_reducible refine g_din ?_
  | with_reducible refine g_dget ?_
  | with_reducible refine g_dget2 ?_
  | with_reducible refine g_dput ?_
  | ((with_reducible refine g_isD (kvs := ?kvs) ?h ?_); (case h => walk_at "hp"))
  | ((with_reducible refine g_get2I (kvs := ?kvs) ?h ?_); (case h => walk_at "hp"))
  | with_reducible refine g_sl ?_
  | with_reducible refine g_noP ?_
  | with_reducible refine g_part ?_
  | with_reducible refine g_exint ?_
  | with_reducible refine g_gname ?_
  | with_reducible refine g_gcons ?_
  | with_reducible refine g_gnil ?_
  | with_reducible refine g_int1 ?_
  | with_reducible refine g_abs ?_
  | with_reducible refine g_min ?_
  | with_reducible refine g_max ?_
  | with_reducible refine g_for ?_
  | with_reducible refine g_isN ?_
  | with_reducible refine g_notN ?_
  | with_reducible refine g_iR1 ?_
  | with_reducible refine g_iR2 ?_
  | with_reducible refine g_iL ?_
  | with_reducible refine g_bm ?_
  | ((with_reducible refine g_I ?c ?_); (case c => first | assumption | exact .inl ⟨by decide, by decide⟩ | exact .inr ⟨by decide, by decide⟩ | exact ⟨by decide, by decide⟩ | exact ⟨by decide, by decide, by decide⟩ | ((show (0 : Int) < _); first | assumption | decide | omega)))
  | ((with_reducible refine g_setL (xs := ?xs) (j := ?j) ?h ?e ?_); (case h => walk_at "hp"); (case e => exact rfl))
  | ((with_reducible refine g_gtup (xs := ?xs) ?h ?e ?_); (case h => walk_at "hp"); (case e => exact rfl))
  | ((with_reducible refine g_tyL (xs := ?xs) ?h ?_); (case h => walk_at "hp"))
  | ((with_reducible refine g_rng1 ?h1 ?h2 ?_); (case h1 => omega); (case h2 => omega))
  | ((with_reducible refine g_ixT (xs := ?xs) (v := ?v) ?h ?e ?_); (case h => walk_at "hp"); (case e => exact rfl))
  | ((with_reducible refine g_ixTS (xs := ?xs) (v := ?v) ?h ?e ?_); (case h => assumption); (case e => exact rfl))
  | ((with_reducible refine g_ixL (xs := ?xs) (v := ?v) ?h ?e ?_); (case h => walk_at "sql"); (case e => exact rfl))
  | ((with_reducible refine g_lenL (xs := ?xs) ?h ?_); (case h => walk_at "sql"))
  | ((with_reducible refine g_lenT (xs := ?xs) ?h ?_); (case h => walk_at "hp")))
local macro_rules | `(tactic| walk_at "go1") => `(tactic| first
  | with_reducible refine g_fld ?_
  | with_reducible refine g_sfld ?_
  | with_reducible refine g_chain ?_
  | with_reducible refine g_lstRg ?_
  | with_reducible refine g_rg1 ?_
  | with_reducible refine g_meth ?_
  | with_reducible refine g_make ?_
  | with_reducible refine g_bm0 ?_
  | with_reducible refine g_isiI ?_
  | with_reducible refine g_isiB ?_
  | with_reducible refine ifNT ?_
  | with_reducible refine ifNF ?_
  | ((with_reducible refine g_Fgroup (mg := ?mg) (T := ?T) (dx := ?dx) (lt := ?lt) (ld := ?ld) (dh := ?dh) (g := ?g) ?h ?_); (case h => walk_at "hp"))
  | ((with_reducible refine g_Ftexts (mg := ?mg) (T := ?T) (dx := ?dx) (lt := ?lt) (ld := ?ld) (dh := ?dh) (g := ?g) ?h ?_); (case h => walk_at "hp"))
  | ((with_reducible refine g_Fdone (mg := ?mg) (T := ?T) (dx := ?dx) (lt := ?lt) (ld := ?ld) (dh := ?dh) (g := ?g) ?h ?_); (case h => walk_at "hp"))
  | ((with_reducible refine g_Fheard (mg := ?mg) (T := ?T) (dx := ?dx) (lt := ?lt) (ld := ?ld) (dh := ?dh) (g := ?g) ?h ?_); (case h => walk_at "hp"))
  | ((with_reducible refine g_Fmachines (mg := ?mg) (T := ?T) (dg := ?dg) (F := ?F) ?h ?_); (case h => walk_at "hp"))
  | ((with_reducible refine g_Fblocking (mg := ?mg) (T := ?T) (dg := ?dg) (F := ?F) ?h ?_); (case h => walk_at "hp"))
  | ((with_reducible refine g_isiL (xs := ?xs) ?h ?_); (case h => walk_at "hp"))
  | ((with_reducible refine g_tyD (kvs := ?xs) ?h ?_); (case h => walk_at "hp"))
  | ((with_reducible refine g_dinI (kvs := ?xs) ?h ?_); (case h => walk_at "hp"))
  | ((with_reducible refine g_ism (dx := ?dx) (fs := ?fs) ?h ?n ?_); (case h => walk_at "hp"); (case n => exact rfl)))
local macro_rules | `(tactic| walk_at "go") => `(tactic| repeat (walk_at "go1"))

def spIsInt : Sp := fun vs H Q _ => ∃ v a b : Int, vs = [.int v, .int a, .int b] ∧ Q (.bl (decide (a ≤ v) && decide (v ≤ b))) H
def spGInit {K : PySem.W.Frag} {mg : Str → Option Value} (T : Txt K mg) : Sp := fun vs H Q _ => ∃ (p dx : Addr) (F : Int), vs = [.ref p, .int F] ∧ H p = some (.ins T.cG dx []) ∧ 0 ≤ F ∧ F ≤ 10 ∧ ∀ H', H' p = some (.ins T.cG dx (gf F)) → (∀ b, b ≠ p → H' b = H b) → Q .non H'
def spMembers {K : PySem.W.Frag} {mg : Str → Option Value} (T : Txt K mg) : Sp := fun vs H Q _ => ∃ (g dg : Addr) (F : Nat), vs = [.ref g] ∧ H g = some (.ins T.cG dg (gf F)) ∧ F ≤ 10 ∧ ∀ q, Nw H q → Q (.ref q) (upd H q (.lst (rgV 0 (3 * (F : Int) + 1))))
def spIsMember {K : PySem.W.Frag} {mg : Str → Option Value} (T : Txt K mg) : Sp := fun vs H Q _ => ∃ (g dg : Addr) (F : Nat) (v : Int), vs = [.ref g, .int v] ∧ H g = some (.ins T.cG dg (gf F)) ∧ Q (.bl (decide (0 ≤ v) && decide (v ≤ 3 * (F : Int)))) H
def spCInit {K : PySem.W.Frag} {mg : Str → Option Value} (T : Txt K mg) : Sp := fun vs H Q _ => ∃ (p dx g : Addr), vs = [.ref p, .ref g, .int (-5)] ∧ H p = some (.ins T.cC dx []) ∧
  ∀ H' lt ld dh, H' p = some (.ins T.cC dx (cf g lt ld dh)) → H' lt = some (.lst []) → H' ld = some (.lst []) → H' dh = some (.dK []) → H lt = none → H ld = none → H dh = none → lt ≠ ld → lt ≠ dh → ld ≠ dh → (∀ b o, b ≠ p → H b = some o → H' b = some o) → Q .non H'
def spPending {K : PySem.W.Frag} {mg : Str → Option Value} (T : Txt K mg) : Sp := fun vs H Q _ => ∃ (c g dx dg lt ld dh : Addr) (F : Nat) (ts : List Str) (ds : List (Int × Str × Str)) (kvs : List (L2.Key × V)), vs = [.ref c] ∧ CAt T H c g dx dg lt ld dh F ts ds kvs ∧
  (ts[ds.length]? = none → Q .non H) ∧ ∀ x p, ts[ds.length]? = some x → Nw H p → Q (.ref p) (upd H p (.tup [.int ((ds.length : Int) + 1), .str x]))
def spAccepted {K : PySem.W.Frag} {mg : Str → Option Value} (T : Txt K mg) : Sp := fun vs H Q _ => ∃ (c g dx dg lt ld dh : Addr) (F : Nat) (ts : List Str) (ds : List (Int × Str × Str)) (kvs : List (L2.Key × V)), vs = [.ref c] ∧ CAt T H c g dx dg lt ld dh F ts ds kvs ∧
  ∀ xs p, H ld = some (.lst xs) → TpA H xs (ds.map doneD) → Nw H p → Q (.ref p) (upd H p (.lst xs))
def spWaiting {K : PySem.W.Frag} {mg : Str → Option Value} (T : Txt K mg) : Sp := fun vs H Q _ => ∃ (c g dx dg lt ld dh : Addr) (F : Nat) (ts : List Str) (ds : List (Int × Str × Str)) (kvs : List (L2.Key × V)), vs = [.ref c] ∧ CAt T H c g dx dg lt ld dh F ts ds kvs ∧
  Q (.int ((ts.length : Int) - ds.length)) H
def spRich : Sp := fun vs H Q _ => ∃ cell k : Int, vs = [.int cell, .int k] ∧ ∀ r, Q (.int r) H
section
variable {P : Program} {w : World} {K : PySem.W.Frag} {mg : Str → Option Value} {base : Heap}
theorem ok_is_integer (T : Txt K mg) : FnOk P w K mg base CX0 1 T.d_is_integer.f T.d_is_integer.fd ["value", "least", "greatest"] spIsInt := by
  refine T.d_is_integer.F.ok sc_is_integer (fun vs H Q E h => ?_) (fun cdv A outer s H vs Q E hr h => ?_)
  · obtain ⟨_, _, _, rfl, _⟩ := h; rfl
  · obtain ⟨v, a, b, rfl, k⟩ := h
    refine ⟨_,
(pss_cons (ps_if (PW.pt (pw_or (pt_not (pt_val (pe_callB call_isi (by rfl) T.b_isinstance (by decide +kernel) (pa_cons (pv 0) (pa_cons (pe_bltn (v := .ty "int") (u := .type "int") rfl T.b_int (by decide +kernel) rfl) pa_nil))))) (pw_or1 (pt_val (pe_callB call_isi (by rfl) T.b_isinstance (by decide +kernel) (pa_cons (pv 0) (pa_cons (pe_bltn (v := .ty "bool") (u := .type "bool") rfl T.b_bool (by decide +kernel) rfl) pa_nil)))))))
 (pss_one (ps_ret pe_bl))
 pss_nil)
 (pss_one (ps_ret (pe_chain op_le op_le (pv 1) (pv 0) (pv 2)))))
    , ?_⟩
    walk_at "go"
    refine g_iteD (fun h1 => ?_) (fun h1 => ?_)
    · walk_at "go"
      rw [decide_eq_true h1, Bool.true_and] at k
      exact k
    · rw [decide_eq_false h1, Bool.false_and] at k
      exact k
theorem ok_Group___init__ (T : Txt K mg) : FnOk P w K mg base CX0 2 T.d_Group___init__.f T.d_Group___init__.fd ["self", "faults"] (spGInit T) := by
  refine T.d_Group___init__.F.ok sc_Group___init__ (fun vs H Q E h => ?_) (fun cdv A outer s H vs Q E hr h => ?_)
  · obtain ⟨_, _, _, rfl, _⟩ := h; rfl
  · obtain ⟨p, dx, F, rfl, hp, f0, f1, k⟩ := h
    refine ⟨_,
(pss_cons (ps_if (pt_not (pt_val (pe_call (ok_is_integer T) (hr.mono (by decide)) rfl T.d_is_integer.m T.d_is_integer.F.kp T.d_is_integer.b .nil pass0 (pa_cons (pv 1) (pa_cons pe_int (pa_cons (pe_glob (v := .int 10) rfl T.c_MOST_FAULTS ⟨_, rfl⟩) pa_nil))))))
 (pss_one ps_never)
 pss_nil)
 (pss_cons (ps_fld (pv 0) (pv 1) rfl)
 (pss_cons (ps_fld (pv 0) (pe_op op_add (pe_op op_mul pe_int (pv 1)) pe_int) rfl)
 (pss_cons (ps_fld (pv 0) (pe_op op_add (pe_op op_mul pe_int (pv 1)) pe_int) rfl)
 (pss_one (ps_fld (pv 0) (pe_op op_add (pv 1) pe_int) rfl))))))
    , ?_⟩
    walk_at "go"
    refine ⟨_, _, _, rfl, ?_⟩
    rw [decide_eq_true f0, decide_eq_true f1]
    refine ⟨true, rfl, ?_⟩
    walk_at "go"
    refine g_put hp T.cl_Group T.n_faults (by show 0 < 1000; decide) ?_
    walk_at "go"
    refine g_put upd_same T.cl_Group T.n_machines (by show 1 < 1000; decide) ?_
    walk_at "go"
    refine g_put upd_same T.cl_Group T.n_quorum (by show 2 < 1000; decide) ?_
    walk_at "go"
    refine g_put upd_same T.cl_Group T.n_blocking (by show 3 < 1000; decide) ?_
    walk_at "go"
    refine k _ upd_same fun b hb => ?_
    rw [upd_ne hb, upd_ne hb, upd_ne hb, upd_ne hb]
theorem ok_Group_members (T : Txt K mg) : FnOk P w K mg base CX0 1 T.d_Group_members.f T.d_Group_members.fd ["self"] (spMembers T) := by
  refine T.d_Group_members.F.ok sc_Group_members (fun vs H Q E h => ?_) (fun cdv A outer s H vs Q E hr h => ?_)
  · obtain ⟨_, _, _, rfl, _⟩ := h; rfl
  · obtain ⟨g, dg, F, rfl, hg, hF, k⟩ := h
    refine ⟨_,
(pss_one (ps_ret (pe_listRg rfl rfl T.b_list (prg_1 rfl T.b_range (pe_fld (pv 0) rfl)))))
    , ?_⟩
    walk_at "go"
    exact g_kRg (RgOk.of_le (by decide) (by omega) (by decide) (by omega)) k
theorem ok_Group_is_member (T : Txt K mg) : FnOk P w K mg base CX0 2 T.d_Group_is_member.f T.d_Group_is_member.fd ["self", "value"] (spIsMember T) := by
  refine T.d_Group_is_member.F.ok sc_Group_is_member (fun vs H Q E h => ?_) (fun cdv A outer s H vs Q E hr h => ?_)
  · obtain ⟨_, _, _, _, rfl, _⟩ := h; rfl
  · obtain ⟨g, dg, F, v, rfl, hg, k⟩ := h
    refine ⟨_,
(pss_one (ps_ret (pe_call (ok_is_integer T) (hr.mono (by decide)) rfl T.d_is_integer.m T.d_is_integer.F.kp T.d_is_integer.b .nil pass0 (pa_cons (pv 1) (pa_cons pe_int (pa_cons (pe_op op_sub (pe_fld (pv 0) rfl) pe_int) pa_nil))))))
    , ?_⟩
    walk_at "go"
    refine ⟨_, _, _, rfl, ?_⟩
    rw [show 3 * (F : Int) + 1 - 1 = 3 * (F : Int) by omega]
    exact k
theorem ok_Client___init__ (T : Txt K mg) : FnOk P w K mg base CX0 1 T.d_Client___init__.f T.d_Client___init__.fd ["self", "group", "name"] (spCInit T) := by
  refine T.d_Client___init__.F.ok sc_Client___init__ (fun vs H Q E h => ?_) (fun cdv A outer s H vs Q E hr h => ?_)
  · obtain ⟨_, _, _, rfl, _⟩ := h; rfl
  · obtain ⟨p, dx, g, rfl, hp, k⟩ := h
    refine ⟨_,
(pss_cons (ps_fld (pv 0) (pv 1) rfl)
 (pss_cons (ps_fld (pv 0) (pv 2) rfl)
 (pss_cons (ps_fld (pv 0) (pe_lst pa_nil) rfl)
 (pss_cons (ps_fld (pv 0) (pe_lst pa_nil) rfl)
 (pss_one (ps_fld (pv 0) pe_dnewK rfl))))))
    , ?_⟩
    walk_at "go"
    refine g_put hp T.cl_Client T.n_group (by show 0 < 1000; decide) ?_
    walk_at "go"
    refine g_put upd_same T.cl_Client T.n_name (by show 1 < 1000; decide) ?_
    walk_at "go"
    refine g_mkL (Nat.zero_le _) (fun lt nlt => ?_)
    walk_at "go"
    have np1 : p ≠ lt := nlt.ne1 upd_same
    refine g_put (Eq.trans (upd_ne np1) upd_same) T.cl_Client T.n_texts (by show 2 < 1000; decide) ?_
    walk_at "go"
    refine g_mkL (Nat.zero_le _) (fun ld nld => ?_)
    walk_at "go"
    have np2 : p ≠ ld := nld.ne1 upd_same
    have n12 : lt ≠ ld := nld.ne1 (Eq.trans (upd_ne np1.symm) upd_same)
    refine g_put (Eq.trans (upd_ne np2) upd_same) T.cl_Client T.n_done (by show 3 < 1000; decide) ?_
    walk_at "go"
    refine g_dNew (fun dh ndh => ?_)
    walk_at "go"
    have np3 : p ≠ dh := ndh.ne1 upd_same
    have n23 : ld ≠ dh := ndh.ne1 (Eq.trans (upd_ne np2.symm) upd_same)
    have n13 : lt ≠ dh := ndh.ne1 (Eq.trans (upd_ne np1.symm) (Eq.trans (upd_ne n12) (Eq.trans (upd_ne np1.symm) upd_same)))
    refine g_put (Eq.trans (upd_ne np3) upd_same) T.cl_Client T.n_heard (by show 4 < 1000; decide) ?_
    walk_at "go"
    have e1 : H lt = none := by have h := nlt.h; rw [upd_ne np1.symm, upd_ne np1.symm] at h; exact h
    have e2 : H ld = none := by
      have h := nld.h
      rw [upd_ne np2.symm, upd_ne n12.symm, upd_ne np2.symm, upd_ne np2.symm] at h; exact h
    have e3 : H dh = none := by
      have h := ndh.h
      rw [upd_ne np3.symm, upd_ne n23.symm, upd_ne np3.symm, upd_ne n13.symm, upd_ne np3.symm, upd_ne np3.symm] at h; exact h
    refine k _ lt ld dh upd_same ?_ ?_ ?_ e1 e2 e3 n12 n13 n23 fun b o hb e => ?_
    · rw [upd_ne np1.symm, upd_ne n13, upd_ne np1.symm, upd_ne n12, upd_ne np1.symm, upd_same]
    · rw [upd_ne np2.symm, upd_ne n23, upd_ne np2.symm, upd_same]
    · rw [upd_ne np3.symm, upd_same]
    · rw [upd_ne hb, upd_ne (ne_of_none e e3), upd_ne hb, upd_ne (ne_of_none e e2), upd_ne hb, upd_ne (ne_of_none e e1), upd_ne hb, upd_ne hb]
      exact e
theorem tmap {ts : List Str} {i : Nat} {x : Str} (h : ts[i]? = some x) : atI (ts.map V.str) ((i : Nat) : Int) = some (.str x) := by
  refine atI_nat ?_
  rw [List.getElem?_map, h]; rfl
theorem ok_Client_pending (T : Txt K mg) : FnOk P w K mg base CX0 1 T.d_Client_pending.f T.d_Client_pending.fd ["self"] (spPending T) := by
  refine T.d_Client_pending.F.ok sc_Client_pending (fun vs H Q E h => ?_) (fun cdv A outer s H vs Q E hr h => ?_)
  · obtain ⟨_, _, _, _, _, _, _, _, _, _, _, rfl, _⟩ := h; rfl
  · obtain ⟨c, g, dx, dg, lt, ld, dh, F, ts, ds, kvs, rfl, ⟨hc, hg, ht, ⟨xs, hd, hx⟩, hh, hF, hn, hs⟩, k1, k2⟩ := h
    have el : xs.length = ds.length := by rw [hx.len, List.length_map]
    refine ⟨_,
(pss_cons (ps_set (i := 1) sc_Client_pending.nd rfl (by first | exact .inl rfl | exact .inr rfl) (pe_op op_add (pe_callB c_len (by rfl) T.b_len (by decide +kernel) (pa_cons (pe_fld (pv 0) rfl) pa_nil)) pe_int))
 (pss_cons (ps_if (pt_cmpR op_gt (pv 1) (pe_callB c_len (by rfl) T.b_len (by decide +kernel) (pa_cons (pe_fld (pv 0) rfl) pa_nil)) (nomark _))
 (pss_one (ps_ret pe_non))
 pss_nil)
 (pss_one (ps_ret (pe_tup (pa_cons (pv 1) (pa_cons (pe_ix ix_list (pe_fld (pv 0) rfl) (pe_op op_sub (pv 1) pe_int) (fun _ _ => rfl)) pa_nil)))))))
    , ?_⟩
    walk_at "go"
    rw [List.length_map, el]
    refine g_iteD (fun h1 => ?_) (fun h1 => ?_)
    · walk_at "go"
      exact k1 (List.getElem?_eq_none (by omega))
    · walk_at "go"
      have hi : ds.length < ts.length := by omega
      rw [show (ds.length : Int) + 1 - 1 = ((ds.length : Nat) : Int) by omega]
      refine g_ixL (xs := ts.map V.str) (by walk_at "sql") (tmap (List.getElem?_eq_getElem hi)) ?_
      walk_at "go"
      refine g_mkT (by show 2 ≤ sizeLine; decide) (fun p hp => ?_)
      exact k2 _ p (List.getElem?_eq_getElem hi) hp
theorem ok_Client_accepted (T : Txt K mg) : FnOk P w K mg base CX0 1 T.d_Client_accepted.f T.d_Client_accepted.fd ["self"] (spAccepted T) := by
  refine T.d_Client_accepted.F.ok sc_Client_accepted (fun vs H Q E h => ?_) (fun cdv A outer s H vs Q E hr h => ?_)
  · obtain ⟨_, _, _, _, _, _, _, _, _, _, _, rfl, _⟩ := h; rfl
  · obtain ⟨c, g, dx, dg, lt, ld, dh, F, ts, ds, kvs, rfl, ⟨hc, hg, ht, ⟨xs, hd, hx⟩, hh, hF, hn, hs⟩, k⟩ := h
    refine ⟨_,
(pss_one (ps_ret (pe_callTy c_list (by rfl) T.b_list (by decide +kernel) (pa_cons (pe_fld (pv 0) rfl) pa_nil))))
    , ?_⟩
    walk_at "go"
    refine g_listL (xs := xs) (by walk_at "sql") (fun p hp => ?_)
    exact k xs p hd hx hp
theorem ok_Client_waiting (T : Txt K mg) : FnOk P w K mg base CX0 1 T.d_Client_waiting.f T.d_Client_waiting.fd ["self"] (spWaiting T) := by
  refine T.d_Client_waiting.F.ok sc_Client_waiting (fun vs H Q E h => ?_) (fun cdv A outer s H vs Q E hr h => ?_)
  · obtain ⟨_, _, _, _, _, _, _, _, _, _, _, rfl, _⟩ := h; rfl
  · obtain ⟨c, g, dx, dg, lt, ld, dh, F, ts, ds, kvs, rfl, ⟨hc, hg, ht, ⟨xs, hd, hx⟩, hh, hF, hn, hs⟩, k⟩ := h
    have el : xs.length = ds.length := by rw [hx.len, List.length_map]
    refine ⟨_,
(pss_one (ps_ret (pe_op op_sub (pe_callB c_len (by rfl) T.b_len (by decide +kernel) (pa_cons (pe_fld (pv 0) rfl) pa_nil)) (pe_callB c_len (by rfl) T.b_len (by decide +kernel) (pa_cons (pe_fld (pv 0) rfl) pa_nil)))))
    , ?_⟩
    walk_at "go"
    rw [List.length_map, el]
    exact k
theorem ok__law_rich (T : Txt K mg) : FnOk P w K mg base CX0 1 T.d__law_rich.f T.d__law_rich.fd ["cell", "k"] spRich := by
  refine T.d__law_rich.F.ok sc__law_rich (fun vs H Q E h => ?_) (fun cdv A outer s H vs Q E hr h => ?_)
  · obtain ⟨_, _, rfl, _⟩ := h; rfl
  · obtain ⟨cell, kk, rfl, k⟩ := h
    refine ⟨_,
(pss_cons (ps_if (pt_cmpR op_ge (pv 0) (pe_op op_pow pe_int pe_int) (nomark _))
 (pss_one (ps_ret (pe_callTy c_int (by rfl) T.b_int (by decide +kernel) (pa_cons (pv 0) pa_nil))))
 pss_nil)
 (pss_cons (ps_set (i := 2) sc__law_rich.nd rfl (by first | exact .inl rfl | exact .inr rfl) (pe_op op_mod (pe_callTy c_int (by rfl) T.b_int (by decide +kernel) (pa_cons (pe_op op_add (pe_op op_add (pe_op op_mul (pv 0) pe_int) (pe_op op_mul (pv 1) pe_int)) pe_int) pa_nil)) pe_int))
 (pss_one (ps_ret (pe_op op_add (pe_op op_mul (pv 2) pe_int) (pe_op op_mod (pe_callTy c_int (by rfl) T.b_int (by decide +kernel) (pa_cons (pe_op op_add (pe_op op_mul (pv 2) pe_int) (pv 0)) pa_nil)) pe_int))))))
    , ?_⟩
    walk_at "go"
    refine g_iteD (fun h1 => ?_) (fun h1 => ?_)
    · walk_at "go"
      exact k _
    · walk_at "go"
      exact k _
end

section
variable {σ : L2.St} {H : Hp} {Q : VK}
theorem g_lcR {g : TG} {tt : TT} {te : TE} {vs : List Nat} {n : Int} (h1 : -(2 ^ 62) ≤ n) (h2 : n < 2 ^ 62)
    (k : ∀ D, Nw H D → ∃ Pv : Nat → Hp → Prop, Pv 0 (upd H D (.lst [])) ∧
      (∀ (i : Nat) H', i < n.toNat → Pv i H' → g (.int (0 + (i : Int))) (wipe σ vs) H' fun σ2 H2 => wipe σ2 vs = wipe σ vs ∧ tt σ2 H2 fun b H3 =>
        if b = true then te σ2 H3 fun y H4 => ∃ acc, H4 D = some (.lst acc) ∧ acc.length < sizeLine ∧ Pv (i + 1) (upd H4 D (.lst (acc ++ [y]))) else Pv (i + 1) H3) ∧ ∀ H', Pv n.toNat H' → Q (.ref D) H') :
    ∃ j : Int, [V.int n] = [.int j] ∧ -(2 ^ 62) ≤ j ∧ j < 2 ^ 62 ∧ LcJ (Itr 0 j.toNat) g tt te vs σ Q H := by
  refine ⟨n, rfl, h1, h2, fun D hD => ?_⟩
  obtain ⟨Pv, h0, hs, hd⟩ := k D ⟨hD⟩
  exact lc_it walk_range Pv h0 (fun _ _ _ _ => True.intro) (fun i x H H' hi hp y => by obtain ⟨rfl, rfl⟩ := y; exact hs i _ hi hp) hd
end
theorem letters_step {Hq H' : Hp} {D p1 p2 : Addr} {acc : List V} {n : Int} {x : Str} {i : Nat} (hD : Nw Hq D) (st : Stp [] Hq H') (hl : H' D = some (.lst acc)) (tp : TpA H' acc ((List.range i).map (letterD n x)))
    (h1 : Nw H' p1) (h2 : Nw (upd H' p1 (.tup [.str "command", .int n, .str x])) p2) :
    upd (upd H' p1 (.tup [.str "command", .int n, .str x])) p2 (.tup [.int (i : Int), .ref p1]) D = some (.lst acc) ∧
    Stp [] Hq (upd (upd (upd H' p1 (.tup [.str "command", .int n, .str x])) p2 (.tup [.int (i : Int), .ref p1])) D (.lst (acc ++ [.ref p2]))) ∧
    TpA (upd (upd (upd H' p1 (.tup [.str "command", .int n, .str x])) p2 (.tup [.int (i : Int), .ref p1])) D (.lst (acc ++ [.ref p2]))) (acc ++ [.ref p2]) ((List.range (i + 1)).map (letterD n x)) := by
  have e1 : D ≠ p1 := h1.ne1 hl
  have e2 : D ≠ p2 := h2.ne1 (s_hp e1 hl)
  have e12 : p1 ≠ p2 := h2.ne1 upd_same
  have hl2 := s_hp (u := .tup [.int (i : Int), .ref p1]) e2 (s_hp (u := .tup [.str "command", .int n, .str x]) e1 hl)
  have s2 : Stp [] H' (upd (upd H' p1 (.tup [.str "command", .int n, .str x])) p2 (.tup [.int (i : Int), .ref p1])) := (Stp.new h1.h).trans (.new h2.h)
  have s3 : Stp [D] (upd (upd H' p1 (.tup [.str "command", .int n, .str x])) p2 (.tup [.int (i : Int), .ref p1])) (upd (upd (upd H' p1 (.tup [.str "command", .int n, .str x])) p2 (.tup [.int (i : Int), .ref p1])) D (.lst (acc ++ [.ref p2]))) := .wl hl2 List.mem_cons_self
  refine ⟨hl2, (st.trans s2).own hD.h hl2, ?_⟩
  rw [List.range_succ, List.map_append, List.map_cons, List.map_nil]
  refine ((tp.mono s2.tl).mono s3.tl).snoc ?_
  refine Tp.mono s3.tl (.tup upd_same (.cons (.int _) (.cons (.tup (s_hp e12 upd_same) (.cons (.str _) (.cons (.int _) (.cons (.str _) .nil)))) .nil)))
def spTick {K : PySem.W.Frag} {mg : Str → Option Value} (T : Txt K mg) : Sp := fun vs H Q _ => ∃ (c g dx dg lt ld dh : Addr) (F : Nat) (ts : List Str) (ds : List (Int × Str × Str)) (kvs : List (L2.Key × V)), vs = [.ref c] ∧ CAt T H c g dx dg lt ld dh F ts ds kvs ∧
  ∀ r H' ys, Nw H r → Stp [] H H' → H' r = some (.lst ys) → TpA H' ys (lettersD F ts ds.length) → Q (.ref r) H'
/-- the model's three lists -/
structure MAt (H : Hp) (mo mt md mh : Addr) (ts : List Str) (ds : List (Int × Str × Str)) (kvs : List (L2.Key × V)) : Prop where
  hm : H mo = some (.lst [.ref mt, .ref md, .ref mh])
  ht : H mt = some (.lst (ts.map V.str))
  hd : ∃ xs, H md = some (.lst xs) ∧ TpA H xs (ds.map doneD)
  hh : H mh = some (.dK kvs)
def spLetters : Sp := fun vs H Q _ => ∃ (mo mt md mh : Addr) (F : Nat) (ts : List Str) (ds : List (Int × Str × Str)) (kvs : List (L2.Key × V)), vs = [.ref mo, .int (3 * (F : Int) + 1)] ∧ F ≤ 10 ∧ MAt H mo mt md mh ts ds kvs ∧
  ∀ r H' ys, Nw H r → Stp [] H H' → H' r = some (.lst ys) → TpA H' ys (lettersD F ts ds.length) → Q (.ref r) H'
theorem letters_eq {F : Nat} {ts : List Str} {n : Nat} {x : Str} (h : ts[n]? = some x) : (List.range (3 * F + 1)).map (letterD ((n : Int) + 1) x) = lettersD F ts n := by
  unfold lettersD; rw [h]
section
variable {P : Program} {w : World} {K : PySem.W.Frag} {mg : Str → Option Value} {base : Heap}
theorem ok_Client_tick (T : Txt K mg) : FnOk P w K mg base CX0 2 T.d_Client_tick.f T.d_Client_tick.fd ["self"] (spTick T) := by
  refine T.d_Client_tick.F.ok sc_Client_tick (fun vs H Q E h => ?_) (fun cdv A outer s H vs Q E hr h => ?_)
  · obtain ⟨_, _, _, _, _, _, _, _, _, _, _, rfl, _⟩ := h; rfl
  · obtain ⟨c, g, dx, dg, lt, ld, dh, F, ts, ds, kvs, rfl, ca, k⟩ := h
    refine ⟨_,
(pss_cons (ps_set (i := 1) sc_Client_tick.nd rfl (by first | exact .inl rfl | exact .inr rfl) (pe_meth0 (pv 0) T.cl_Client T.d_Client_pending.mt (ok_Client_pending T) (hr.mono (by decide)) T.d_Client_pending.b .nil pass0))
 (pss_cons (ps_if (pt_cmpR o_isN (pv 1) pe_non (nomark _))
 (pss_one (ps_ret (pe_lst pa_nil)))
 pss_nil)
 (pss_cons (ps_asg (pv 1) (pg_tup rfl (pgs_cons (pg_name (i := 2) sc_Client_tick.nd rfl (by first | exact .inl rfl | exact .inr rfl)) (pgs_cons (pg_name (i := 3) sc_Client_tick.nd rfl (by first | exact .inl rfl | exact .inr rfl)) pgs_nil))))
 (pss_one (ps_ret (pe_lc (own := [("machine", 4)]) (g := gName 4) (tt := tYes) rfl sc_Client_tick.nd (pi_list (pe_meth0 (pe_fld (pv 0) rfl) T.cl_Group T.d_Group_members.mt (ok_Group_members T) (hr.mono (by decide)) T.d_Group_members.b .nil pass0)) (blkOk_by (own := [("machine", 4)]) (N := ["self", "command", "number", "text", "machine"]) (sc := defScope s_Client_tick) (by decide +kernel)) (fun _ _ _ _ _ => (pg_name (i := 4) sc_Client_tick.nd rfl (by first | exact .inl rfl | exact .inr rfl))) (fun _ _ _ _ _ => pts_nil) (fun _ _ _ _ _ => (pe_tup (pa_cons (pv 4) (pa_cons (pe_tup (pa_cons pe_str (pa_cons (pv 2) (pa_cons (pv 3) pa_nil)))) pa_nil))))))))))
    , ?_⟩
    obtain ⟨hc, hg, ht, ⟨xs, hd, hx⟩, hh, hF, hn, hs⟩ := id ca
    walk_at "go"
    refine ⟨c, g, dx, dg, lt, ld, dh, F, ts, ds, kvs, rfl, ca, fun e => ?_, fun x p e hp => ?_⟩
    · walk_at "go"
      rw [show decide (V.non = V.non) = true from rfl]
      walk_at "go"
      refine g_mkL (Nat.zero_le _) (fun r hr => ?_)
      refine k r _ [] hr (.new hr.h) upd_same ?_
      unfold lettersD; rw [e]; exact .nil
    · walk_at "go"
      rw [show decide (V.ref p = V.non) = false from by simp]
      walk_at "go"
      have s1 : Stp [] H (upd H p (.tup [.int ((ds.length : Int) + 1), .str x])) := .new hp.h
      have hp1 : upd H p (.tup [.int ((ds.length : Int) + 1), .str x]) p = some (.tup [.int ((ds.length : Int) + 1), .str x]) := upd_same
      generalize upd H p (.tup [.int ((ds.length : Int) + 1), .str x]) = H1 at s1 hp1 ⊢
      walk_at "go"
      refine ⟨g, dg, F, rfl, s_fx0 s1 hg, hF, fun q hq => ?_⟩
      have s2 : Stp [] H (upd H1 q (.lst (rgV 0 (3 * (F : Int) + 1)))) := s_newN s1 hq
      have hq2 : upd H1 q (.lst (rgV 0 (3 * (F : Int) + 1))) q = some (.lst (rgV 0 (3 * (F : Int) + 1))) := upd_same
      generalize upd H1 q (.lst (rgV 0 (3 * (F : Int) + 1))) = H2 at s2 hq2 ⊢
      have lr : (rgV 0 (3 * (F : Int) + 1)).length = 3 * F + 1 := by rw [rgV_length]; omega
      refine g_lcL (xs := rgV 0 (3 * (F : Int) + 1)) (.of hq2) (fun D hD => ?_)
      refine ⟨fun i H' => ∃ acc, Stp [] H2 H' ∧ H' D = some (.lst acc) ∧ acc.length = i ∧ TpA H' acc ((List.range i).map (letterD ((ds.length : Int) + 1) x)),
        ⟨[], .new hD.h, upd_same, rfl, .nil⟩, fun i H' _ hP => ?_, fun i y H' hy hP => ?_, fun H' hP => ?_⟩
      · obtain ⟨acc, sP, _⟩ := hP
        exact s_sq0 sP (.of hq2)
      · obtain ⟨acc, sP, hA, hl, hT⟩ := hP
        have hi := (List.getElem?_eq_some_iff.mp hy).1
        obtain rfl : y = V.int (i : Int) := by
          have hy' := hy
          unfold rgV at hy'
          rw [List.getElem?_map, List.getElem?_range (by omega)] at hy'
          have := Option.some.inj hy'
          rw [← this]
          show V.int (0 + (i : Int)) = _
          rw [Int.zero_add]
        walk_at "go"
        refine ⟨rfl, ?_⟩
        refine g_yes (iteT ?_)
        walk_at "go"
        refine g_mkT (by show 3 ≤ sizeLine; decide) (fun p1 h1 => ?_)
        walk_at "go"
        refine g_mkT (by show 2 ≤ sizeLine; decide) (fun p2 h2 => ?_)
        obtain ⟨a1, a2, a3⟩ := letters_step hD sP hA hT h1 h2
        exact ⟨acc, a1, by rw [sizeLine_eq]; omega, _, a2, upd_same, by rw [List.length_append, hl]; rfl, a3⟩
      · obtain ⟨acc, sP, hA, hl, hT⟩ := hP
        rw [lr, letters_eq e] at hT
        exact k D H' acc (hD.bk s2 (fun z => nomatch z)) (s2.trans sP) hA hT
theorem ok__law_letters (T : Txt K mg) : FnOk P w K mg base CX0 1 T.d__law_letters.f T.d__law_letters.fd ["model", "machines"] spLetters := by
  refine T.d__law_letters.F.ok sc__law_letters (fun vs H Q E h => ?_) (fun cdv A outer s H vs Q E hr h => ?_)
  · obtain ⟨_, _, _, _, _, _, _, _, rfl, _⟩ := h; rfl
  · obtain ⟨mo, mt, md, mh, F, ts, ds, kvs, rfl, hF, ma, k⟩ := h
    refine ⟨_,
(pss_cons (ps_if (pt_cmpR op_ge (pe_callB c_len (by rfl) T.b_len (by decide +kernel) (pa_cons (pe_ix ix_list (pv 0) pe_int (fun _ _ => rfl)) pa_nil)) (pe_callB c_len (by rfl) T.b_len (by decide +kernel) (pa_cons (pe_ix ix_list (pv 0) pe_int (fun _ _ => rfl)) pa_nil)) (nomark _))
 (pss_one (ps_ret (pe_lst pa_nil)))
 pss_nil)
 (pss_cons (ps_set (i := 2) sc__law_letters.nd rfl (by first | exact .inl rfl | exact .inr rfl) (pe_op op_add (pe_callB c_len (by rfl) T.b_len (by decide +kernel) (pa_cons (pe_ix ix_list (pv 0) pe_int (fun _ _ => rfl)) pa_nil)) pe_int))
 (pss_one (ps_ret (pe_lc (own := [("k", 3)]) (g := gName 3) (tt := tYes) rfl sc__law_letters.nd (pi_range1 rfl T.b_range (pa_cons (pv 1) pa_nil)) (blkOk_by (own := [("k", 3)]) (N := ["model", "machines", "number", "k"]) (sc := defScope s__law_letters) (by decide +kernel)) (fun _ _ _ _ _ => (pg_name (i := 3) sc__law_letters.nd rfl (by first | exact .inl rfl | exact .inr rfl))) (fun _ _ _ _ _ => pts_nil) (fun _ _ _ _ _ => (pe_tup (pa_cons (pv 3) (pa_cons (pe_tup (pa_cons pe_str (pa_cons (pv 2) (pa_cons (pe_ix (r := rIxL K) ix_list (pe_ix (r := rIxL K) ix_list (pv 0) pe_int (fun _ _ => rfl)) (pe_op op_sub (pv 2) pe_int) (fun _ _ => rfl)) pa_nil)))) pa_nil)))))))))
    , ?_⟩
    obtain ⟨hm, ht, ⟨xs, hd, hx⟩, hh⟩ := id ma
    have el : xs.length = ds.length := by rw [hx.len, List.length_map]
    walk_at "go"
    rw [List.length_map, el]
    refine g_iteD (fun h1 => ?_) (fun h1 => ?_)
    · walk_at "go"
      refine g_mkL (Nat.zero_le _) (fun r hr => ?_)
      refine k r _ [] hr (.new hr.h) upd_same ?_
      unfold lettersD; rw [List.getElem?_eq_none (by omega)]; exact .nil
    · walk_at "go"
      have hi : ds.length < ts.length := by omega
      have e : ts[ds.length]? = some ts[ds.length] := List.getElem?_eq_getElem hi
      generalize ts[ds.length] = x at e
      rw [el]
      refine g_lcR (by omega) (by omega) (fun D hD => ?_)
      have en : (3 * (F : Int) + 1).toNat = 3 * F + 1 := by omega
      refine ⟨fun i H' => ∃ acc, Stp [] H H' ∧ H' D = some (.lst acc) ∧ acc.length = i ∧ TpA H' acc ((List.range i).map (letterD ((ds.length : Int) + 1) x)),
        ⟨[], .new hD.h, upd_same, rfl, .nil⟩, fun i H' hi hP => ?_, fun H' hP => ?_⟩
      · obtain ⟨acc, sP, hA, hl, hT⟩ := hP
        rw [Int.zero_add]
        walk_at "go"
        refine ⟨rfl, ?_⟩
        refine g_yes (iteT ?_)
        walk_at "go"
        rw [show (ds.length : Int) + 1 - 1 = ((ds.length : Nat) : Int) by omega]
        refine g_ixL (xs := ts.map V.str) (by walk_at "sql") (tmap e) ?_
        walk_at "go"
        refine g_mkT (by show 3 ≤ sizeLine; decide) (fun p1 h1 => ?_)
        walk_at "go"
        refine g_mkT (by show 2 ≤ sizeLine; decide) (fun p2 h2 => ?_)
        obtain ⟨a1, a2, a3⟩ := letters_step hD sP hA hT h1 h2
        exact ⟨acc, a1, by rw [sizeLine_eq]; omega, _, a2, upd_same, by rw [List.length_append, hl]; rfl, a3⟩
      · obtain ⟨acc, sP, hA, hl, hT⟩ := hP
        rw [en, letters_eq e] at hT
        exact k D H' acc hD sP hA hT
end

/-! ### the plain part -/
def eH (hs : List (Int × Str)) : List (L2.Key × V) := hs.map fun p => (.inl p.1, .str p.2)
theorem eH_snoc (hs : List (Int × Str)) (s : Int) (a : Str) : eH (hs ++ [(s, a)]) = eH hs ++ [(.inl s, .str a)] := by simp [eH]
theorem eH_len (hs : List (Int × Str)) : (eH hs).length = hs.length := by simp [eH]
theorem valV_get {κ : Type} [DecidableEq κ] : ∀ {kvs : List (κ × V)} {i : Nat} {k : κ} {v : V}, (kvs.map (·.1)).Nodup → kvs[i]? = some (k, v) → valV kvs k = some v
  | [], _, _, _, _, h => by simp at h
  | p :: r, 0, k, v, _, h => by
    have e : p = (k, v) := by simpa using h
    subst e
    exact valV_pos rfl
  | p :: r, i + 1, k, v, nd, h => by
    have h' : r[i]? = some (k, v) := by simpa using h
    rw [List.map_cons, List.nodup_cons] at nd
    have hm : k ∈ r.map (·.1) := List.mem_map.mpr ⟨(k, v), List.mem_of_getElem? h', rfl⟩
    rw [valV_neg (fun e => nd.1 (by rw [e]; exact hm))]
    exact valV_get nd.2 h'
def cnt (hs : List (Int × Str)) (a : Str) : Nat := hs.countP fun p => decide (p.2 = a)
theorem cnt_eH (hs : List (Int × Str)) (a : Str) : cntV (.str a) ((eH hs).map fun kv => kv.2) = cnt hs a := by
  unfold cntV cnt eH
  rw [List.map_map, List.countP_map]
  refine congrArg (fun f => List.countP f hs) (funext fun p => ?_)
  show (p.2 == a) = decide (p.2 = a)
  exact Bool.beq_eq_decide_eq _ _
theorem eH_flat (hs : List (Int × Str)) : ((eH hs).map fun kv => kv.2).all flatV = true := by
  rw [List.all_eq_true]
  intro v hv
  unfold eH at hv
  rw [List.map_map] at hv
  obtain ⟨p, _, rfl⟩ := List.mem_map.mp hv
  rfl
def Kok (hs : List (Int × Str)) : Prop := ((eH hs).map (·.1)).Nodup
theorem Kok.snoc {hs : List (Int × Str)} {s : Int} (h : Kok hs) (a : Str) (n : (valV (eH hs) (.inl s)).isSome = false) : Kok (hs ++ [(s, a)]) := by
  unfold Kok at h ⊢
  rw [eH_snoc, List.map_append, List.nodup_append]
  have hn : valV (eH hs) (.inl s) = none := by cases e : valV (eH hs) (.inl s) with
    | none => rfl
    | some v => rw [e] at n; cases n
  refine ⟨h, by simp, fun x hx y hy e => ?_⟩
  rw [show [((.inl s, V.str a) : L2.Key × V)].map (·.1) = [.inl s] from rfl, List.mem_singleton] at hy
  subst hy
  subst e
  exact valV_not hn hx
def go (F : Nat) (hs : List (Int × Str)) (nd : Nat) (s n : Int) (kind : Str) : Bool := decide (kind = "answer") && (decide (0 ≤ s) && (decide (s ≤ 3 * (F : Int)) && (decide (n = (nd : Int) + 1) && !(valV (eH hs) (.inl s)).isSome)))
def rcv (F : Nat) (ts : List Str) (ds : List (Int × Str × Str)) (hs : List (Int × Str)) (s n : Int) (kind a : Str) : List (Int × Str × Str) × List (Int × Str) × List PyData :=
  match ts[ds.length]? with
  | none => (ds, hs, [])
  | some x => if go F hs ds.length s n kind = true then
      (if cnt (hs ++ [(s, a)]) a < F + 1 then (ds, hs ++ [(s, a)], []) else (ds ++ [(n, x, a)], [], lettersD F ts (ds.length + 1)))
    else (ds, hs, [])
theorem rcv_none {F : Nat} {ts : List Str} {ds : List (Int × Str × Str)} {hs : List (Int × Str)} {s n : Int} {kind a : Str} (h : ts[ds.length]? = none) : rcv F ts ds hs s n kind a = (ds, hs, []) := by unfold rcv; rw [h]
theorem rcv_no {F : Nat} {ts : List Str} {ds : List (Int × Str × Str)} {hs : List (Int × Str)} {s n : Int} {kind a : Str} (h : go F hs ds.length s n kind = false) : rcv F ts ds hs s n kind a = (ds, hs, []) := by
  unfold rcv
  cases ts[ds.length]? with
  | none => rfl
  | some x => show (if go F hs ds.length s n kind = true then _ else _) = _; rw [h]; rfl
theorem rcv_few {F : Nat} {ts : List Str} {ds : List (Int × Str × Str)} {hs : List (Int × Str)} {s n : Int} {kind a x : Str} (h : ts[ds.length]? = some x) (hg : go F hs ds.length s n kind = true) (hc : cnt (hs ++ [(s, a)]) a < F + 1) : rcv F ts ds hs s n kind a = (ds, hs ++ [(s, a)], []) := by
  unfold rcv; rw [h]
  show (if go F hs ds.length s n kind = true then _ else _) = _
  rw [if_pos hg, if_pos hc]
theorem rcv_all {F : Nat} {ts : List Str} {ds : List (Int × Str × Str)} {hs : List (Int × Str)} {s n : Int} {kind a x : Str} (h : ts[ds.length]? = some x) (hg : go F hs ds.length s n kind = true) (hc : ¬ cnt (hs ++ [(s, a)]) a < F + 1) : rcv F ts ds hs s n kind a = (ds ++ [(n, x, a)], [], lettersD F ts (ds.length + 1)) := by
  unfold rcv; rw [h]
  show (if go F hs ds.length s n kind = true then _ else _) = _
  rw [if_pos hg, if_neg hc]
theorem go_of {F : Nat} {hs : List (Int × Str)} {nd : Nat} {s n : Int} {kind : Str} (h1 : kind = "answer") (h2 : 0 ≤ s) (h3 : s ≤ 3 * (F : Int)) (h4 : n = (nd : Int) + 1) (h5 : (valV (eH hs) (.inl s)).isSome = false) : go F hs nd s n kind = true := by
  unfold go
  rw [decide_eq_true h1, decide_eq_true h2, decide_eq_true h3, decide_eq_true h4, h5]; rfl
theorem go_1 {F : Nat} {hs : List (Int × Str)} {nd : Nat} {s n : Int} {kind : Str} (h : ¬ kind = "answer") : go F hs nd s n kind = false := by unfold go; rw [decide_eq_false h]; rfl
theorem go_2 {F : Nat} {hs : List (Int × Str)} {nd : Nat} {s n : Int} {kind : Str} (h : ¬ 0 ≤ s) : go F hs nd s n kind = false := by unfold go; rw [decide_eq_false h]; simp
theorem go_3 {F : Nat} {hs : List (Int × Str)} {nd : Nat} {s n : Int} {kind : Str} (h : ¬ s ≤ 3 * (F : Int)) : go F hs nd s n kind = false := by unfold go; rw [decide_eq_false h]; simp
theorem go_4 {F : Nat} {hs : List (Int × Str)} {nd : Nat} {s n : Int} {kind : Str} (h : ¬ n = (nd : Int) + 1) : go F hs nd s n kind = false := by unfold go; rw [decide_eq_false h]; simp
theorem go_5 {F : Nat} {hs : List (Int × Str)} {nd : Nat} {s n : Int} {kind : Str} (h : (valV (eH hs) (.inl s)).isSome = true) : go F hs nd s n kind = false := by unfold go; rw [h]; simp
theorem isn_of {F : Nat} {hs : List (Int × Str)} {s : Int} (a : Str) (h : (valV (eH hs) (.inl s)).isSome = false) : putK (eH hs) (.inl s) (.str a) = eH (hs ++ [(s, a)]) := by
  rw [eH_snoc, putK_new]
  cases e : valV (eH hs) (.inl s) with
  | none => rfl
  | some v => rw [e] at h; cases h
section
variable {K : PySem.W.Frag} {mg : Str → Option Value} {T : Txt K mg} {S : List Addr} {H H' : Hp} {c g dx dg lt ld dh mo mt md mh : Addr} {F : Nat} {ts : List Str} {ds : List (Int × Str × Str)} {kvs : List (L2.Key × V)}
theorem CAt.mono (a : CAt T H c g dx dg lt ld dh F ts ds kvs) (e : Stp S H H') (n1 : c ∉ S) (n2 : g ∉ S) (n3 : lt ∉ S) (n4 : ld ∉ S) (n5 : dh ∉ S) : CAt T H' c g dx dg lt ld dh F ts ds kvs :=
  ⟨e.fx _ _ n1 a.hc, e.fx _ _ n2 a.hg, e.fx _ _ n3 a.ht, let ⟨xs, h, t⟩ := a.hd; ⟨xs, e.fx _ _ n4 h, t.mono e.tl⟩, e.fx _ _ n5 a.hh, a.hF, a.hn, a.hs⟩
theorem CAt.up (a : CAt T H c g dx dg lt ld dh F ts ds kvs) (e : Stp [] H H') : CAt T H' c g dx dg lt ld dh F ts ds kvs := a.mono e (fun z => nomatch z) (fun z => nomatch z) (fun z => nomatch z) (fun z => nomatch z) (fun z => nomatch z)
theorem MAt.mono (a : MAt H mo mt md mh ts ds kvs) (e : Stp S H H') (n1 : mo ∉ S) (n2 : mt ∉ S) (n3 : md ∉ S) (n4 : mh ∉ S) : MAt H' mo mt md mh ts ds kvs :=
  ⟨e.fx _ _ n1 a.hm, e.fx _ _ n2 a.ht, let ⟨xs, h, t⟩ := a.hd; ⟨xs, e.fx _ _ n3 h, t.mono e.tl⟩, e.fx _ _ n4 a.hh⟩
theorem MAt.up (a : MAt H mo mt md mh ts ds kvs) (e : Stp [] H H') : MAt H' mo mt md mh ts ds kvs := a.mono e (fun z => nomatch z) (fun z => nomatch z) (fun z => nomatch z) (fun z => nomatch z)
end
def subD (F : Nat) (ts : List Str) (n : Nat) : List PyData := if ts.length = n + 1 then lettersD F ts n else []
def spSubmit {K : PySem.W.Frag} {mg : Str → Option Value} (T : Txt K mg) : Sp := fun vs H Q _ => ∃ (c g dx dg lt ld dh : Addr) (F : Nat) (ts : List Str) (ds : List (Int × Str × Str)) (kvs : List (L2.Key × V)) (x : Str), vs = [.ref c, .str x] ∧ CAt T H c g dx dg lt ld dh F ts ds kvs ∧ lt ≠ ld ∧ ts.length < 64 ∧
  ∀ r H' ys, H r = none → Stp [lt] H H' → CAt T H' c g dx dg lt ld dh F (ts ++ [x]) ds kvs → H' r = some (.lst ys) → TpA H' ys (subD F (ts ++ [x]) ds.length) → Q (.ref r) H'
def spReceive {K : PySem.W.Frag} {mg : Str → Option Value} (T : Txt K mg) : Sp := fun vs H Q _ => ∃ (c g dx dg lt ld dh q : Addr) (F : Nat) (ts : List Str) (ds : List (Int × Str × Str)) (hs : List (Int × Str)) (s n : Int) (kind a : Str), vs = [.ref c, .int s, .ref q] ∧ H q = some (.tup [.str kind, .int n, .str a]) ∧
  CAt T H c g dx dg lt ld dh F ts ds (eH hs) ∧ lt ≠ ld ∧ hs.length ≤ 100 ∧
  ∀ r H' ys dh', H r = none → Stp [c, ld, dh] H H' → (dh' = dh ∨ H dh' = none) → CAt T H' c g dx dg lt ld dh' F ts (rcv F ts ds hs s n kind a).1 (eH (rcv F ts ds hs s n kind a).2.1) → H' r = some (.lst ys) → TpA H' ys (rcv F ts ds hs s n kind a).2.2 → Q (.ref r) H'
section
variable {P : Program} {w : World} {K : PySem.W.Frag} {mg : Str → Option Value} {base : Heap}
theorem ok_Client_submit (T : Txt K mg) : FnOk P w K mg base CX0 3 T.d_Client_submit.f T.d_Client_submit.fd ["self", "text"] (spSubmit T) := by
  refine T.d_Client_submit.F.ok sc_Client_submit (fun vs H Q E h => ?_) (fun cdv A outer s H vs Q E hr h => ?_)
  · obtain ⟨_, _, _, _, _, _, _, _, _, _, _, _, rfl, _⟩ := h; rfl
  · obtain ⟨c, g, dx, dg, lt, ld, dh, F, ts, ds, kvs, x, rfl, ca, nl, hlen, k⟩ := h
    refine ⟨_,
(pss_cons (ps_expr (pe_bm PySem.F.plainAttrs_list PySem.F.slot_list_append PySem.F.type_list_append mt_append (pe_fld (pv 0) rfl) (pa_cons (pv 1) pa_nil)))
 (pss_cons (ps_if (pt_cmpR op_eq (pe_meth0 (pv 0) T.cl_Client T.d_Client_waiting.mt (ok_Client_waiting T) (hr.mono (by decide)) T.d_Client_waiting.b .nil pass0) pe_int (nomark _))
 (pss_one (ps_ret (pe_meth0 (pv 0) T.cl_Client T.d_Client_tick.mt (ok_Client_tick T) (hr.mono (by decide)) T.d_Client_tick.b .nil pass0)))
 pss_nil)
 (pss_one (ps_ret (pe_lst pa_nil)))))
    , ?_⟩
    obtain ⟨hc, hg, ht, ⟨xs, hd, hx⟩, hh, hF, hn, hs⟩ := id ca
    have n1 : c ≠ lt := ne_of hc ht (fun z => nomatch z)
    have n2 : g ≠ lt := ne_of hg ht (fun z => nomatch z)
    have n5 : dh ≠ lt := ne_of hh ht (fun z => nomatch z)
    walk_at "go"
    refine g_app ht (by rw [List.length_map, sizeLine_eq]; omega) ?_
    have s1 : Stp [lt] H (upd H lt (.lst (ts.map V.str ++ [V.str x]))) := .wl ht List.mem_cons_self
    have em : ts.map V.str ++ [V.str x] = (ts ++ [x]).map V.str := by simp
    rw [em] at s1 ⊢
    have ca1 : CAt T (upd H lt (.lst ((ts ++ [x]).map V.str))) c g dx dg lt ld dh F (ts ++ [x]) ds kvs :=
      ⟨s_hp n1 hc, s_hp n2 hg, upd_same, ⟨xs, s_hp nl.symm hd, hx.mono s1.tl⟩, s_hp n5 hh, hF, by rw [List.length_append, List.length_singleton]; omega, hs⟩
    generalize upd H lt (.lst ((ts ++ [x]).map V.str)) = H1 at s1 ca1 ⊢
    have hc1 := ca1.hc
    walk_at "go"
    refine ⟨c, g, dx, dg, lt, ld, dh, F, ts ++ [x], ds, kvs, rfl, ca1, ?_⟩
    walk_at "go"
    have nr : ∀ r, Nw H1 r → H r = none := fun r hr => s1.back (by
      have := hr.ne1 ca1.ht
      simpa using this.symm) hr.h
    refine g_iteD (fun h1 => ?_) (fun h1 => ?_)
    · walk_at "go"
      refine ⟨c, g, dx, dg, lt, ld, dh, F, ts ++ [x], ds, kvs, rfl, ca1, fun r H' ys hr sr hr2 tr => ?_⟩
      have ed : subD F (ts ++ [x]) ds.length = lettersD F (ts ++ [x]) ds.length := if_pos (by omega)
      exact k r H' ys (nr r hr) (s1.trans sr.up) (ca1.up sr) hr2 (by rw [ed]; exact tr)
    · walk_at "go"
      refine g_mkL (Nat.zero_le _) (fun r hr => ?_)
      have ed : subD F (ts ++ [x]) ds.length = [] := if_neg (by omega)
      exact k r _ [] (nr r hr) (s1.trans (.new hr.h)) (ca1.up (.new hr.h)) upd_same (by rw [ed]; exact .nil)
end

section
variable {P : Program} {w : World} {K : PySem.W.Frag} {mg : Str → Option Value} {base : Heap}
theorem ok_Client_receive (T : Txt K mg) : FnOk P w K mg base CX0 3 T.d_Client_receive.f T.d_Client_receive.fd ["self", "sender", "letter"] (spReceive T) := by
  refine T.d_Client_receive.F.ok sc_Client_receive (fun vs H Q E h => ?_) (fun cdv A outer s H vs Q E hr h => ?_)
  · obtain ⟨_, _, _, _, _, _, _, _, _, _, _, _, _, _, _, _, rfl, _⟩ := h; rfl
  · obtain ⟨c, g, dx, dg, lt, ld, dh, q, F, ts, ds, hs, sd, n, kind, a, rfl, hq, ca, nl, hlen, k⟩ := h
    refine ⟨_,
(pss_cons (ps_set (i := 3) sc_Client_receive.nd rfl (by first | exact .inl rfl | exact .inr rfl) (pe_meth0 (pv 0) T.cl_Client T.d_Client_pending.mt (ok_Client_pending T) (hr.mono (by decide)) T.d_Client_pending.b .nil pass0))
 (pss_cons (ps_if (PW.pt (pw_or (pt_cmpR o_isN (pv 3) pe_non (nomark _)) (pw_or (pt_cmpR op_ne (pe_ix ix_tup (pv 2) pe_int (fun _ _ => rfl)) pe_str (nomark _)) (pw_or1 (pt_not (pt_val (pe_meth (pe_fld (pv 0) rfl) T.cl_Group T.d_Group_is_member.mt (ok_Group_is_member T) (hr.mono (by decide)) T.d_Group_is_member.b .nil pass0 (pa_cons (pv 1) pa_nil))))))))
 (pss_one (ps_ret (pe_lst pa_nil)))
 pss_nil)
 (pss_cons (ps_asg (pv 3) (pg_tup rfl (pgs_cons (pg_name (i := 4) sc_Client_receive.nd rfl (by first | exact .inl rfl | exact .inr rfl)) (pgs_cons (pg_name (i := 5) sc_Client_receive.nd rfl (by first | exact .inl rfl | exact .inr rfl)) pgs_nil))))
 (pss_cons (ps_if (PW.pt (pw_or (pt_cmpR op_ne (pe_ix ix_tup (pv 2) pe_int (fun _ _ => rfl)) (pv 4) (nomark _)) (pw_or1 (pt_cmp (pc_din (hu_of hr) (pv 1) (pe_fld (pv 0) rfl))))))
 (pss_one (ps_ret (pe_lst pa_nil)))
 pss_nil)
 (pss_cons (ps_set (i := 6) sc_Client_receive.nd rfl (by first | exact .inl rfl | exact .inr rfl) (pe_ix ix_tup (pv 2) pe_int (fun _ _ => rfl)))
 (pss_cons (ps_dput (hu_of hr) (pe_fld (pv 0) rfl) (pv 1) (pv 6) rfl)
 (pss_cons (ps_if (pt_cmpR op_lt (pe_bm PySem.F.plainAttrs_list PySem.F.slot_list_count PySem.F.type_list_count mt_cntV (pe_callTy (c_listV rfl) (by rfl) T.b_list (by decide +kernel) (pa_cons (pe_bm0 PySem.F.plainAttrs_dict PySem.F.slot_dict_values PySem.F.type_dict_values mt_valuesK (pe_fld (pv 0) rfl)) pa_nil)) (pa_cons (pv 6) pa_nil)) (pe_fld (pe_fld (pv 0) rfl) rfl) (nomark _))
 (pss_one (ps_ret (pe_lst pa_nil)))
 pss_nil)
 (pss_cons (ps_expr (pe_bm PySem.F.plainAttrs_list PySem.F.slot_list_append PySem.F.type_list_append mt_append (pe_fld (pv 0) rfl) (pa_cons (pe_tup (pa_cons (pv 4) (pa_cons (pv 5) (pa_cons (pv 6) pa_nil)))) pa_nil)))
 (pss_cons (ps_fld (pv 0) pe_dnewK rfl)
 (pss_one (ps_ret (pe_meth0 (pv 0) T.cl_Client T.d_Client_tick.mt (ok_Client_tick T) (hr.mono (by decide)) T.d_Client_tick.b .nil pass0))))))))))))
    , ?_⟩
    obtain ⟨hc, hg, ht, ⟨xs, hd, hx⟩, hh, hF, hn, hs'⟩ := id ca
    have kz : rcv F ts ds hs sd n kind a = (ds, hs, []) → ∀ H1 r, Stp [] H H1 → Nw H1 r → Q (.ref r) (upd H1 r (.lst [])) := fun e H1 r s1 hr => by
      rw [e] at k
      have s2 : Stp [] H (upd H1 r (.lst [])) := s_newN s1 hr
      exact k r _ [] dh (s1.back (fun z => nomatch z) hr.h) s2.up (.inl rfl) (ca.up s2) upd_same .nil
    have ncd : c ≠ dh := ne_of hc hh (fun z => nomatch z)
    have ngd : g ≠ dh := ne_of hg hh (fun z => nomatch z)
    have ntd : lt ≠ dh := ne_of ht hh (fun z => nomatch z)
    have nld : ld ≠ dh := ne_of hd hh (fun z => nomatch z)
    have ncl : c ≠ ld := ne_of hc hd (fun z => nomatch z)
    have ngl : g ≠ ld := ne_of hg hd (fun z => nomatch z)
    have nct : c ≠ lt := ne_of hc ht (fun z => nomatch z)
    have ngc : g ≠ c := ne_of hg hc (fun z => by simp [cf, gf] at z)
    walk_at "go"
    refine ⟨c, g, dx, dg, lt, ld, dh, F, ts, ds, eH hs, rfl, ca, fun e => ?_, fun x p e hp => ?_⟩
    · walk_at "go"
      rw [show decide (V.non = V.non) = true from rfl]
      walk_at "go"
      exact g_mkL (Nat.zero_le _) (fun r hr => kz (rcv_none e) H r (.refl _ _) hr)
    · walk_at "go"
      rw [show decide (V.ref p = V.non) = false from by simp]
      have s1 : Stp [] H (upd H p (.tup [.int ((ds.length : Int) + 1), .str x])) := .new hp.h
      have hp1 : upd H p (.tup [.int ((ds.length : Int) + 1), .str x]) p = some (.tup [.int ((ds.length : Int) + 1), .str x]) := upd_same
      generalize upd H p (.tup [.int ((ds.length : Int) + 1), .str x]) = H1 at s1 hp1 ⊢
      have hq1 := s_fx0 s1 hq
      have hc1 := s_fx0 s1 hc
      have hg1 := s_fx0 s1 hg
      have hh1 := s_fx0 s1 hh
      have ht1 := s_fx0 s1 ht
      have hd1 := s_fx0 s1 hd
      have hx1 := hx.mono s1.tl
      walk_at "go"
      refine g_iteN (fun h1 => ?_) (fun h1 => ?_)
      · walk_at "go"
        exact g_mkL (Nat.zero_le _) (fun r hr => kz (rcv_no (go_1 h1)) H1 r s1 hr)
      walk_at "go"
      refine ⟨g, dg, F, sd, rfl, hg1, ?_⟩
      by_cases h2 : 0 ≤ sd
      case neg =>
        rw [decide_eq_false h2, Bool.false_and]
        refine ⟨false, rfl, ?_⟩
        walk_at "go"
        exact g_mkL (Nat.zero_le _) (fun r hr => kz (rcv_no (go_2 h2)) H1 r s1 hr)
      by_cases h3 : sd ≤ 3 * (F : Int)
      case neg =>
        rw [decide_eq_false h3, Bool.and_false]
        refine ⟨false, rfl, ?_⟩
        walk_at "go"
        exact g_mkL (Nat.zero_le _) (fun r hr => kz (rcv_no (go_3 h3)) H1 r s1 hr)
      rw [decide_eq_true h2, decide_eq_true h3]
      refine ⟨true, rfl, ?_⟩
      walk_at "go"
      refine g_iteN (fun h4 => ?_) (fun h4 => ?_)
      · walk_at "go"
        exact g_mkL (Nat.zero_le _) (fun r hr => kz (rcv_no (go_4 h4)) H1 r s1 hr)
      walk_at "go"
      cases h5 : (valV (eH hs) (.inl sd)).isSome with
      | true =>
        walk_at "go"
        exact g_mkL (Nat.zero_le _) (fun r hr => kz (rcv_no (go_5 h5)) H1 r s1 hr)
      | false =>
      have hgo : go F hs ds.length sd n kind = true := go_of h1 h2 h3 h4 h5
      walk_at "go"
      refine g_putI hh1 (by rw [eH_len, sizeLine_eq]; omega) ?_
      rw [isn_of a h5]
      have s2 : Stp [c, ld, dh] H1 (upd H1 dh (.dK (eH (hs ++ [(sd, a)])))) := .wr hh1 (fun _ z => nomatch z) (by simp)
      have hc2 := s_hp (u := .dK (eH (hs ++ [(sd, a)]))) ncd hc1
      have hg2 := s_hp (u := .dK (eH (hs ++ [(sd, a)]))) ngd hg1
      have ht2 := s_hp (u := .dK (eH (hs ++ [(sd, a)]))) ntd ht1
      have hd2 := s_hp (u := .dK (eH (hs ++ [(sd, a)]))) nld hd1
      have hx2 := hx1.mono s2.tl
      have hh2 : upd H1 dh (.dK (eH (hs ++ [(sd, a)]))) dh = some (.dK (eH (hs ++ [(sd, a)]))) := upd_same
      generalize upd H1 dh (.dK (eH (hs ++ [(sd, a)]))) = H2 at s2 hc2 hg2 ht2 hd2 hx2 hh2 ⊢
      have t2 : Stp [c, ld, dh] H H2 := s1.up.trans s2
      walk_at "go"
      refine g_values hh2 (fun v hv => ?_)
      walk_at "go"
      have nvd : dh ≠ v := hv.ne1 hh2
      refine g_listV upd_same (s_hp nvd hh2) (fun l hl => ?_)
      have s3 : Stp [] H2 (upd (upd H2 v (valsO v dh)) l (.lst ((eH (hs ++ [(sd, a)])).map fun kv => kv.2))) := (Stp.new hv.h).trans (.new hl.h)
      have hl3 : upd (upd H2 v (valsO v dh)) l (.lst ((eH (hs ++ [(sd, a)])).map fun kv => kv.2)) l = some (.lst ((eH (hs ++ [(sd, a)])).map fun kv => kv.2)) := upd_same
      generalize upd (upd H2 v (valsO v dh)) l (.lst ((eH (hs ++ [(sd, a)])).map fun kv => kv.2)) = H3 at s3 hl3 ⊢
      have hc3 := s_fx0 s3 hc2
      have hg3 := s_fx0 s3 hg2
      have ht3 := s_fx0 s3 ht2
      have hd3 := s_fx0 s3 hd2
      have hh3 := s_fx0 s3 hh2
      have hx3 := hx2.mono s3.tl
      have t3 : Stp [c, ld, dh] H H3 := t2.trans s3.up
      walk_at "go"
      refine g_cnt (.of hl3) rfl (eH_flat _) ?_
      rw [cnt_eH]
      walk_at "go"
      have hb : ∀ r, Nw H3 r → H r = none := fun r hr => t3.back (by
        have a1 := hr.ne1 hc3
        have a2 := hr.ne1 hd3
        have a3 := hr.ne1 hh3
        simp [a1.symm, a2.symm, a3.symm]) hr.h
      refine g_iteD (fun h6 => ?_) (fun h6 => ?_)
      · walk_at "go"
        refine g_mkL (Nat.zero_le _) (fun r hr => ?_)
        rw [rcv_few e hgo (by omega)] at k
        have s4 : Stp [] H3 (upd H3 r (.lst [])) := .new hr.h
        exact k r _ [] dh (hb r hr) (t3.trans s4.up) (.inl rfl) (CAt.up ⟨hc3, hg3, ht3, ⟨xs, hd3, hx3⟩, hh3, hF, hn, hs'⟩ s4) upd_same .nil
      walk_at "go"
      refine g_mkT (by show 3 ≤ sizeLine; decide) (fun p3 h7 => ?_)
      have s4 : Stp [] H3 (upd H3 p3 (.tup [.int ((ds.length : Int) + 1), .str x, .str a])) := .new h7.h
      have hp4 : upd H3 p3 (.tup [.int ((ds.length : Int) + 1), .str x, .str a]) p3 = some (.tup [.int ((ds.length : Int) + 1), .str x, .str a]) := upd_same
      generalize upd H3 p3 (.tup [.int ((ds.length : Int) + 1), .str x, .str a]) = H4 at s4 hp4 ⊢
      have hd4 := s_fx0 s4 hd3
      have hlen2 := (List.getElem?_eq_some_iff.mp e).1
      have el : xs.length = ds.length := by rw [hx.len, List.length_map]
      walk_at "go"
      refine g_app hd4 (by rw [sizeLine_eq]; omega) ?_
      have s5 : Stp [c, ld, dh] H4 (upd H4 ld (.lst (xs ++ [.ref p3]))) := .wl hd4 (by simp)
      have hd5 : upd H4 ld (.lst (xs ++ [.ref p3])) ld = some (.lst (xs ++ [.ref p3])) := upd_same
      have hc5 := s_hp (u := .lst (xs ++ [.ref p3])) ncl (s_fx0 s4 hc3)
      have hg5 := s_hp (u := .lst (xs ++ [.ref p3])) ngl (s_fx0 s4 hg3)
      have ht5 := s_hp (u := .lst (xs ++ [.ref p3])) nl (s_fx0 s4 ht3)
      have hh5 := s_hp (u := .lst (xs ++ [.ref p3])) nld.symm (s_fx0 s4 hh3)
      have hx5 : TpA (upd H4 ld (.lst (xs ++ [.ref p3]))) (xs ++ [.ref p3]) ((ds ++ [(n, x, a)]).map doneD) := by
        rw [List.map_append]
        refine ((hx3.mono s4.tl).mono s5.tl).snoc (Tp.mono s5.tl (.tup hp4 ?_))
        rw [h4]
        exact .cons (.int _) (.cons (.str _) (.cons (.str _) .nil))
      generalize upd H4 ld (.lst (xs ++ [.ref p3])) = H5 at s5 hd5 hc5 hg5 ht5 hh5 hx5 ⊢
      have t5 : Stp [c, ld, dh] H H5 := (t3.trans s4.up).trans s5
      walk_at "go"
      refine g_dNew (fun d2 hd2' => ?_)
      have s6 : Stp [] H5 (upd H5 d2 (.dK [])) := .new hd2'.h
      have hd6 : upd H5 d2 (.dK []) d2 = some (.dK []) := upd_same
      generalize upd H5 d2 (.dK []) = H6 at s6 hd6 ⊢
      have hc6 := s_fx0 s6 hc5
      have hg6 := s_fx0 s6 hg5
      have ht6 := s_fx0 s6 ht5
      have hd6' := s_fx0 s6 hd5
      have ncd2 : c ≠ d2 := hd2'.ne1 hc5
      walk_at "go"
      refine g_Pheard (T := T) hc6 ?_
      have s7 : Stp [c, ld, dh] H6 (upd H6 c (.ins T.cC dx (cf g lt ld d2))) := .wr hc6 (fun _ z => nomatch z) (by simp)
      have ca7 : CAt T (upd H6 c (.ins T.cC dx (cf g lt ld d2))) c g dx dg lt ld d2 F ts (ds ++ [(n, x, a)]) (eH []) :=
        ⟨upd_same, s_hp ngc hg6, s_hp nct.symm ht6, ⟨_, s_hp ncl.symm hd6', (hx5.mono s6.tl).mono s7.tl⟩, s_hp ncd2.symm hd6, hF, hn, by rw [List.length_append, List.length_singleton]; omega⟩
      have hh7 := s_hp (u := .ins T.cC dx (cf g lt ld d2)) ncd.symm (s_fx0 s6 hh5)
      generalize upd H6 c (.ins T.cC dx (cf g lt ld d2)) = H7 at s7 ca7 hh7 ⊢
      have t7 : Stp [c, ld, dh] H H7 := (t5.trans s6.up).trans s7
      have hc7 := ca7.hc
      walk_at "go"
      refine ⟨c, g, dx, dg, lt, ld, d2, F, ts, ds ++ [(n, x, a)], eH [], rfl, ca7, fun r H' ys hr sr hr2 tr => ?_⟩
      rw [rcv_all e hgo (by omega)] at k
      have hd7 := ca7.hd
      obtain ⟨xs7, hd7, _⟩ := ca7.hd
      have h57 : H5 d2 = none := hd2'.h
      have hdn : H d2 = none := t5.back (by
        have a1 := hd2'.ne1 hc5
        have a2 := hd2'.ne1 hd5
        have a3 := hd2'.ne1 hh5
        simp [a1.symm, a2.symm, a3.symm]) h57
      refine k r H' ys d2 (t7.back (by
        have a1 := hr.ne1 ca7.hc
        have a2 := hr.ne1 hd7
        have a3 := hr.ne1 hh7
        simp [a1.symm, a2.symm, a3.symm]) hr.h) (t7.trans sr.up) (.inr hdn) (ca7.up sr) hr2 ?_
      rw [List.length_append, List.length_singleton] at tr
      exact tr
      all_goals exact 0
end

theorem upd_back {H : Hp} {a : Addr} {u f : HO} (h : H a = some u) : upd (upd H a f) a u = H := by
  funext b
  by_cases e : b = a
  · subst e; rw [upd_same, h]
  · rw [upd_ne e, upd_ne e]
section
variable {σ : L2.St} {H : Hp} {D : Ends}
theorem g_iK {td : TE} {R : It → Hp → Prop} (k : td σ H fun x H1 => ∃ d o, x = .ref d ∧ ((∃ kvs, H1 d = some (.frz o (.dK kvs)) ∧ R (Itk d o kvs) H1) ∨ ∃ kvs, H1 d = some (.frz o (.dT kvs)) ∧ R (Itkt d o kvs) H1)) : iKeys td σ H R := k
theorem g_forK {d : Addr} {o : Obj} {kvs : List (L2.Key × V)} {g : TG} {tb : TS} (h : H d = some (.frz o (.dK kvs)))
    (k : ∃ Pv : Nat → L2.St → Hp → Prop, Pv 0 σ H ∧ (∀ i σ H, i ≤ kvs.length → Pv i σ H → H d = some (.frz o (.dK kvs))) ∧ (∀ (i : Nat) kk v σ H, kvs[i]? = some (kk, v) → Pv i σ H → g (kV kk) σ H fun σ2 H2 => tb { D with nx := Pv (i + 1), ct := Pv (i + 1), bk := D.nx } σ2 H2) ∧ ∀ σ H, Pv kvs.length σ H → D.nx σ H) :
    ∃ d' o', V.ref d = .ref d' ∧ ((∃ kvs, H d' = some (.frz o' (.dK kvs)) ∧ ForJ (Itk d' o' kvs) g tb D σ H) ∨ ∃ kvs, H d' = some (.frz o' (.dT kvs)) ∧ ForJ (Itkt d' o' kvs) g tb D σ H) := by
  obtain ⟨Pv, h0, hG, hs, hd⟩ := k
  exact ⟨d, o, rfl, .inl ⟨kvs, h, for_it walk_keys Pv h0 hG (fun i x σ H H' hi hp y => by obtain ⟨rfl, kk, v, hk, rfl⟩ := y; exact hs i kk v σ _ hk hp) hd⟩⟩
end
theorem cnt_take {hs : List (Int × Str)} {i : Nat} {p : Int × Str} {a : Str} (h : hs[i]? = some p) : cnt (hs.take (i + 1)) a = cnt (hs.take i) a + (if p.2 = a then 1 else 0) := by
  unfold cnt
  rw [List.take_succ, h, List.countP_append]
  by_cases e : p.2 = a <;> simp [e]
def spLReceive : Sp := fun vs H Q _ => ∃ (mo mt md mh q : Addr) (F : Nat) (ts : List Str) (ds : List (Int × Str × Str)) (hs : List (Int × Str)) (s n : Int) (kind a : Str), vs = [.ref mo, .int (3 * (F : Int) + 1), .int s, .ref q] ∧ H q = some (.tup [.str kind, .int n, .str a]) ∧
  MAt H mo mt md mh ts ds (eH hs) ∧ mo ≠ mt ∧ mo ≠ md ∧ mt ≠ md ∧ Kok hs ∧ hs.length ≤ 100 ∧ ts.length ≤ 64 ∧ F ≤ 10 ∧
  ∀ r H' ys mh', H r = none → Stp [mo, md, mh] H H' → (mh' = mh ∨ H mh' = none) → MAt H' mo mt md mh' ts (rcv F ts ds hs s n kind a).1 (eH (rcv F ts ds hs s n kind a).2.1) → H' r = some (.lst ys) → TpA H' ys (rcv F ts ds hs s n kind a).2.2 → Q (.ref r) H'
section
variable {P : Program} {w : World} {K : PySem.W.Frag} {mg : Str → Option Value} {base : Heap}
theorem ok__law_receive (T : Txt K mg) : FnOk P w K mg base CX0 2 T.d__law_receive.f T.d__law_receive.fd ["model", "machines", "sender", "letter"] spLReceive := by
  refine T.d__law_receive.F.ok sc__law_receive (fun vs H Q E h => ?_) (fun cdv A outer s H vs Q E hr h => ?_)
  · obtain ⟨_, _, _, _, _, _, _, _, _, _, _, _, _, rfl, _⟩ := h; rfl
  · obtain ⟨mo, mt, md, mh, q, F, ts, ds, hs, sd, n, kind, a, rfl, hq, ma, nmt, nmd, ntd, hk, hlen, htl, hF, k⟩ := h
    refine ⟨_,
(pss_cons (ps_set (i := 4) sc__law_receive.nd rfl (by first | exact .inl rfl | exact .inr rfl) (pe_op op_add (pe_callB c_len (by rfl) T.b_len (by decide +kernel) (pa_cons (pe_ix ix_list (pv 0) pe_int (fun _ _ => rfl)) pa_nil)) pe_int))
 (pss_cons (ps_if (PW.pt (pw_or (pt_cmpR op_gt (pv 4) (pe_callB c_len (by rfl) T.b_len (by decide +kernel) (pa_cons (pe_ix ix_list (pv 0) pe_int (fun _ _ => rfl)) pa_nil)) (nomark _)) (pw_or (pt_cmpR op_ne (pe_ix ix_tup (pv 3) pe_int (fun _ _ => rfl)) pe_str (nomark _)) (pw_or1 (pt_cmpR op_ne (pe_ix ix_tup (pv 3) pe_int (fun _ _ => rfl)) (pv 4) (nomark _))))))
 (pss_one (ps_ret (pe_lst pa_nil)))
 pss_nil)
 (pss_cons (ps_if (PW.pt (pw_or (pt_cmpR op_lt (pv 2) pe_int (nomark _)) (pw_or (pt_cmpR op_ge (pv 2) (pv 1) (nomark _)) (pw_or1 (pt_cmp (pc_din (hu_of hr) (pv 2) (pe_ix ix_list (pv 0) pe_int (fun _ _ => rfl))))))))
 (pss_one (ps_ret (pe_lst pa_nil)))
 pss_nil)
 (pss_cons (ps_dput (hu_of hr) (pe_ix ix_list (pv 0) pe_int (fun _ _ => rfl)) (pv 2) (pe_ix ix_tup (pv 3) pe_int (fun _ _ => rfl)) rfl)
 (pss_cons (ps_set (i := 5) sc__law_receive.nd rfl (by first | exact .inl rfl | exact .inr rfl) pe_int)
 (pss_cons (ps_lock (ps_for PassesOwn.never rfl (pi_keys (pe_ix ix_list (pv 0) pe_int (fun _ _ => rfl))) (pg_name (i := 6) sc__law_receive.nd rfl (by first | exact .inl rfl | exact .inr rfl))
 (pss_one (ps_if (pt_cmpR op_eq (pe_dget (hu_of hr) (pe_ix ix_list (pv 0) pe_int (fun _ _ => rfl)) (pv 6) (fun _ _ => rfl)) (pe_ix ix_tup (pv 3) pe_int (fun _ _ => rfl)) (nomark _))
 (pss_one (ps_set (i := 5) sc__law_receive.nd rfl (by first | exact .inl rfl | exact .inr rfl) (pe_op op_add (pv 5) pe_int)))
 pss_nil))))
 (pss_cons (ps_if (pt_cmpR op_lt (pv 5) (pe_op op_add (pe_op op_fdiv (pe_op op_sub (pv 1) pe_int) pe_int) pe_int) (nomark _))
 (pss_one (ps_ret (pe_lst pa_nil)))
 pss_nil)
 (pss_cons (ps_expr (pe_bm PySem.F.plainAttrs_list PySem.F.slot_list_append PySem.F.type_list_append mt_append (pe_ix ix_list (pv 0) pe_int (fun _ _ => rfl)) (pa_cons (pe_tup (pa_cons (pv 4) (pa_cons (pe_ix ix_list (pe_ix ix_list (pv 0) pe_int (fun _ _ => rfl)) (pe_op op_sub (pv 4) pe_int) (fun _ _ => rfl)) (pa_cons (pe_ix ix_tup (pv 3) pe_int (fun _ _ => rfl)) pa_nil)))) pa_nil)))
 (pss_cons (ps_asg pe_dnewK (pg_sub (pv 0) pe_int set_list))
 (pss_one (ps_ret (pe_call (ok__law_letters T) (hr.mono (by decide)) rfl T.d__law_letters.m T.d__law_letters.F.kp T.d__law_letters.b .nil pass0 (pa_cons (pv 0) (pa_cons (pv 1) pa_nil))))))))))))))
    , ?_⟩
    obtain ⟨hm, ht, ⟨xs, hd, hx⟩, hh⟩ := id ma
    have el : xs.length = ds.length := by rw [hx.len, List.length_map]
    have kz : rcv F ts ds hs sd n kind a = (ds, hs, []) → ∀ r, Nw H r → Q (.ref r) (upd H r (.lst [])) := fun e r hr => by
      rw [e] at k
      have s2 : Stp [] H (upd H r (.lst [])) := .new hr.h
      exact k r _ [] mh hr.h s2.up (.inl rfl) (ma.up s2) upd_same .nil
    have nmh : mo ≠ mh := ne_of hm hh (fun z => nomatch z)
    have nth : mt ≠ mh := ne_of ht hh (fun z => nomatch z)
    have ndh : md ≠ mh := ne_of hd hh (fun z => nomatch z)
    have nqh : q ≠ mh := ne_of hq hh (fun z => nomatch z)
    walk_at "go"
    rw [List.length_map, el]
    refine g_iteD (fun h0 => ?_) (fun h0 => ?_)
    · walk_at "go"
      exact g_mkL (Nat.zero_le _) (fun r hr => kz (rcv_none (List.getElem?_eq_none (by omega))) r hr)
    have hi : ds.length < ts.length := by omega
    have e : ts[ds.length]? = some ts[ds.length] := List.getElem?_eq_getElem hi
    generalize ts[ds.length] = x at e
    walk_at "go"
    refine g_iteN (fun h1 => ?_) (fun h1 => ?_)
    · walk_at "go"
      exact g_mkL (Nat.zero_le _) (fun r hr => kz (rcv_no (go_1 h1)) r hr)
    walk_at "go"
    refine g_iteN (fun h4 => ?_) (fun h4 => ?_)
    · walk_at "go"
      exact g_mkL (Nat.zero_le _) (fun r hr => kz (rcv_no (go_4 h4)) r hr)
    walk_at "go"
    refine g_iteD (fun h2 => ?_) (fun h2 => ?_)
    · walk_at "go"
      exact g_mkL (Nat.zero_le _) (fun r hr => kz (rcv_no (go_2 (by omega))) r hr)
    walk_at "go"
    refine g_iteD (fun h3 => ?_) (fun h3 => ?_)
    · walk_at "go"
      exact g_mkL (Nat.zero_le _) (fun r hr => kz (rcv_no (go_3 (by omega))) r hr)
    walk_at "go"
    cases h5 : (valV (eH hs) (.inl sd)).isSome with
    | true =>
      walk_at "go"
      exact g_mkL (Nat.zero_le _) (fun r hr => kz (rcv_no (go_5 h5)) r hr)
    | false =>
    have hgo : go F hs ds.length sd n kind = true := go_of h1 (by omega) (by omega) h4 h5
    have hk2 : Kok (hs ++ [(sd, a)]) := hk.snoc a h5
    walk_at "go"
    refine g_putI hh (by rw [eH_len, sizeLine_eq]; omega) ?_
    rw [isn_of a h5]
    have s2 : Stp [mo, md, mh] H (upd H mh (.dK (eH (hs ++ [(sd, a)])))) := .wr hh (fun _ z => nomatch z) (by simp)
    have hm2 := s_hp (u := .dK (eH (hs ++ [(sd, a)]))) nmh hm
    have ht2 := s_hp (u := .dK (eH (hs ++ [(sd, a)]))) nth ht
    have hd2 := s_hp (u := .dK (eH (hs ++ [(sd, a)]))) ndh hd
    have hq2 := s_hp (u := .dK (eH (hs ++ [(sd, a)]))) nqh hq
    have hx2 := hx.mono s2.tl
    have hh2 : upd H mh (.dK (eH (hs ++ [(sd, a)]))) mh = some (.dK (eH (hs ++ [(sd, a)]))) := upd_same
    generalize upd H mh (.dK (eH (hs ++ [(sd, a)]))) = H2 at s2 hm2 ht2 hd2 hq2 hx2 hh2 ⊢
    have hl2 : (hs ++ [(sd, a)]).length ≤ 101 := by rw [List.length_append, List.length_singleton]; omega
    have fin : rcv F ts ds hs sd n kind a = if cnt (hs ++ [(sd, a)]) a < F + 1 then (ds, hs ++ [(sd, a)], []) else (ds ++ [(n, x, a)], [], lettersD F ts (ds.length + 1)) := by
      by_cases z : cnt (hs ++ [(sd, a)]) a < F + 1
      · rw [if_pos z, rcv_few e hgo z]
      · rw [if_neg z, rcv_all e hgo z]
    generalize hs ++ [(sd, a)] = hs2 at hk2 s2 hm2 ht2 hd2 hq2 hx2 hh2 hl2 fin ⊢
    walk_at "go"
    refine g_lck hh2 True.intro (fun od => ?_)
    have hm3 := s_hp (u := .frz od (.dK (eH hs2))) nmh hm2
    have hq3 := s_hp (u := .frz od (.dK (eH hs2))) nqh hq2
    have hh3 : upd H2 mh (.frz od (.dK (eH hs2))) mh = some (.frz od (.dK (eH hs2))) := upd_same
    have hbk : upd (upd H2 mh (.frz od (.dK (eH hs2)))) mh (.dK (eH hs2)) = H2 := upd_back hh2
    generalize upd H2 mh (.frz od (.dK (eH hs2))) = H3 at hm3 hq3 hh3 hbk ⊢
    walk_at "go"
    refine g_iK ?_
    walk_at "go"
    refine g_forK hh3 ⟨fun i σ H' => ∃ v6, σ = [some (.ref mo), some (.int (3 * (F : Int) + 1)), some (.int sd), some (.ref q), some (.int ((ds.length : Int) + 1)), some (.int (cnt (hs2.take i) a : Nat)), v6] ∧ H' = H3,
      ⟨none, rfl, rfl⟩, fun i σ H' _ hP => ?_, fun i kk v σ H' hv hP => ?_, fun σ H' hP => ?_⟩
    · obtain ⟨_, _, rfl⟩ := hP
      exact hh3
    · obtain ⟨v6, rfl, rfl⟩ := hP
      obtain ⟨p, hp, ep⟩ : ∃ p, hs2[i]? = some p ∧ ((.inl p.1, V.str p.2) : L2.Key × V) = (kk, v) := by
        unfold eH at hv
        rw [List.getElem?_map] at hv
        cases z : hs2[i]? with
        | none => rw [z] at hv; cases hv
        | some p => rw [z] at hv; exact ⟨p, rfl, Option.some.inj hv⟩
      cases ep
      show gName 6 (.int p.1) _ _ _
      walk_at "go"
      refine g_getIF hh3 (valV_get hk2 hv) ?_
      walk_at "go"
      have ec := cnt_take (a := a) hp
      refine g_iteD (fun h6 => ?_) (fun h6 => ?_)
      · rw [if_pos h6] at ec
        walk_at "go"
        exact ⟨_, by rw [ec]; rfl, rfl⟩
      · rw [if_neg h6] at ec
        walk_at "go"
        exact ⟨_, by rw [ec]; rfl, rfl⟩
    · obtain ⟨v6, rfl, rfl⟩ := hP
      refine ⟨hh3, ?_⟩
      rw [hbk, show (eH hs2).length = hs2.length from eH_len hs2, List.take_length]
      walk_at "go"
      have hb : ∀ r, Nw H2 r → H r = none := fun r hr => s2.back (by
        have a1 := hr.ne1 hm2
        have a2 := hr.ne1 hd2
        have a3 := hr.ne1 hh2
        simp [a1.symm, a2.symm, a3.symm]) hr.h
      refine g_iteD (fun h6 => ?_) (fun h6 => ?_)
      · walk_at "go"
        refine g_mkL (Nat.zero_le _) (fun r hr => ?_)
        rw [fin, if_pos (by omega)] at k
        have s4 : Stp [] H2 (upd H2 r (.lst [])) := .new hr.h
        exact k r _ [] mh (hb r hr) (s2.trans s4.up) (.inl rfl) (MAt.up ⟨hm2, ht2, ⟨xs, hd2, hx2⟩, hh2⟩ s4) upd_same .nil
      rw [fin, if_neg (by omega)] at k
      walk_at "go"
      rw [show (ds.length : Int) + 1 - 1 = ((ds.length : Nat) : Int) by omega]
      refine g_ixL (xs := ts.map V.str) (.of ht2) (tmap e) ?_
      walk_at "go"
      refine g_mkT (by show 3 ≤ sizeLine; decide) (fun p3 h7 => ?_)
      have s4 : Stp [] H2 (upd H2 p3 (.tup [.int ((ds.length : Int) + 1), .str x, .str a])) := .new h7.h
      have hp4 : upd H2 p3 (.tup [.int ((ds.length : Int) + 1), .str x, .str a]) p3 = some (.tup [.int ((ds.length : Int) + 1), .str x, .str a]) := upd_same
      generalize upd H2 p3 (.tup [.int ((ds.length : Int) + 1), .str x, .str a]) = H4 at s4 hp4 ⊢
      have hd4 := s_fx0 s4 hd2
      walk_at "go"
      refine g_app hd4 (by rw [sizeLine_eq]; omega) ?_
      have s5 : Stp [mo, md, mh] H4 (upd H4 md (.lst (xs ++ [.ref p3]))) := .wl hd4 (by simp)
      have hd5 : upd H4 md (.lst (xs ++ [.ref p3])) md = some (.lst (xs ++ [.ref p3])) := upd_same
      have hm5 := s_hp (u := .lst (xs ++ [.ref p3])) nmd (s_fx0 s4 hm2)
      have ht5 := s_hp (u := .lst (xs ++ [.ref p3])) ntd (s_fx0 s4 ht2)
      have hh5 := s_hp (u := .lst (xs ++ [.ref p3])) ndh.symm (s_fx0 s4 hh2)
      have hx5 : TpA (upd H4 md (.lst (xs ++ [.ref p3]))) (xs ++ [.ref p3]) ((ds ++ [(n, x, a)]).map doneD) := by
        rw [List.map_append]
        refine ((hx2.mono s4.tl).mono s5.tl).snoc (Tp.mono s5.tl (.tup hp4 ?_))
        rw [h4]
        exact .cons (.int _) (.cons (.str _) (.cons (.str _) .nil))
      generalize upd H4 md (.lst (xs ++ [.ref p3])) = H5 at s5 hd5 hm5 ht5 hh5 hx5 ⊢
      have t5 : Stp [mo, md, mh] H H5 := (s2.trans s4.up).trans s5
      walk_at "go"
      refine g_dNew (fun d2 hd2' => ?_)
      have s6 : Stp [] H5 (upd H5 d2 (.dK [])) := .new hd2'.h
      have hd6 : upd H5 d2 (.dK []) d2 = some (.dK []) := upd_same
      have nm2 : mo ≠ d2 := hd2'.ne1 hm5
      have hdn : H d2 = none := t5.back (by
        have a1 := hd2'.ne1 hm5
        have a2 := hd2'.ne1 hd5
        have a3 := hd2'.ne1 hh5
        simp [a1.symm, a2.symm, a3.symm]) hd2'.h
      generalize upd H5 d2 (.dK []) = H6 at s6 hd6 ⊢
      have hm6 := s_fx0 s6 hm5
      walk_at "go"
      have s7 : Stp [mo, md, mh] H6 (upd H6 mo (.lst [.ref mt, .ref md, .ref d2])) := .wl hm6 (by simp)
      have ma7 : MAt (upd H6 mo (.lst [.ref mt, .ref md, .ref d2])) mo mt md d2 ts (ds ++ [(n, x, a)]) (eH []) :=
        ⟨upd_same, s_hp nmt.symm (s_fx0 s6 ht5), ⟨_, s_hp nmd.symm (s_fx0 s6 hd5), (hx5.mono s6.tl).mono s7.tl⟩, s_hp nm2.symm hd6⟩
      have hh7 := s_hp (u := .lst [.ref mt, .ref md, .ref d2]) nmh.symm (s_fx0 s6 hh5)
      show spLetters _ (upd H6 mo (.lst [.ref mt, .ref md, .ref d2])) _ _
      generalize upd H6 mo (.lst [.ref mt, .ref md, .ref d2]) = H7 at s7 ma7 hh7 ⊢
      have t7 : Stp [mo, md, mh] H H7 := (t5.trans s6.up).trans s7
      have hm7 := ma7.hm
      walk_at "go"
      refine ⟨mo, mt, md, d2, F, ts, ds ++ [(n, x, a)], eH [], rfl, hF, ma7, fun r H' ys hr sr hr2 tr => ?_⟩
      obtain ⟨xs7, hd7, _⟩ := ma7.hd
      refine k r H' ys d2 (t7.back (by
        have a1 := hr.ne1 ma7.hm
        have a2 := hr.ne1 hd7
        have a3 := hr.ne1 hh7
        simp [a1.symm, a2.symm, a3.symm]) hr.h) (t7.trans sr.up) (.inr hdn) (ma7.up sr) hr2 ?_
      rw [List.length_append, List.length_singleton] at tr
      exact tr
    all_goals exact 0
end

theorem lay_any : ∀ {l : List PyData}, (∀ d ∈ l, d.canLay0 = true) → PyData.canLayAll0 l = true
  | [], _ => by rw [PyData.canLayAll0]
  | d :: r, h => by
    rw [PyData.canLayAll0, h d List.mem_cons_self, lay_any fun x hx => h x (List.mem_cons_of_mem _ hx)]; rfl
theorem dep_any {n : Nat} : ∀ {l : List PyData}, (∀ d ∈ l, d.depth ≤ n) → PyData.depthAll l ≤ n
  | [], _ => by rw [PyData.depthAll]; omega
  | d :: r, h => by
    rw [PyData.depthAll]
    have h1 := h d List.mem_cons_self
    have h2 := dep_any fun x hx => h x (List.mem_cons_of_mem d hx)
    omega
theorem sh_any {l : List PyData} (h : ∀ d ∈ l, d.canLay0 = true ∧ d.depth ≤ 3) : SeqAt.shaped (.list l) = true := by
  refine shaped_of ?_ ?_
  · rw [PyData.canLay0]; exact lay_any fun d hd => (h d hd).1
  · rw [PyData.depth]; have := dep_any (n := 3) fun d hd => (h d hd).2; omega
theorem doneD_ok {d : Int × Str × Str} (h : str4 d.2.1 ∧ str4 d.2.2) : (doneD d).canLay0 = true ∧ (doneD d).depth ≤ 3 := by
  unfold str4 at h
  unfold doneD
  refine ⟨?_, ?_⟩
  · simp only [PyData.canLay0, PyData.canLayAll0, Bool.and_true, Bool.true_and] at h ⊢
    rw [h.1, h.2]; rfl
  · simp [PyData.depth, PyData.depthAll]
theorem letterD_ok {n : Int} {x : Str} {k : Nat} (h : str4 x) : (letterD n x k).canLay0 = true ∧ (letterD n x k).depth ≤ 3 := by
  have hc : PyData.canLay0 (.str "command") = true := by decide +kernel
  unfold str4 at h
  unfold letterD
  refine ⟨?_, ?_⟩
  · simp only [PyData.canLay0, PyData.canLayAll0, Bool.and_true, Bool.true_and] at h hc ⊢
    rw [h, hc]; rfl
  · simp [PyData.depth, PyData.depthAll]
theorem lettersD_ok {F : Nat} {ts : List Str} {n : Nat} (h : ∀ x ∈ ts, str4 x) : ∀ d ∈ lettersD F ts n, d.canLay0 = true ∧ d.depth ≤ 3 := by
  unfold lettersD
  cases e : ts[n]? with
  | none => intro d hd; cases hd
  | some x =>
    intro d hd
    obtain ⟨k, _, rfl⟩ := List.mem_map.mp hd
    exact letterD_ok (h x (List.mem_of_getElem? e))
theorem done_ok {ds : List (Int × Str × Str)} (h : ∀ d ∈ ds, str4 d.2.1 ∧ str4 d.2.2) : ∀ d ∈ ds.map doneD, d.canLay0 = true ∧ d.depth ≤ 3 := by
  intro d hd
  obtain ⟨k, hk, rfl⟩ := List.mem_map.mp hd
  exact doneD_ok (h k hk)
theorem rcv_ok {F : Nat} {ts : List Str} {ds : List (Int × Str × Str)} {hs : List (Int × Str)} {s n : Int} {kind a : Str} (t4 : ∀ x ∈ ts, str4 x) (d4 : ∀ d ∈ ds, str4 d.2.1 ∧ str4 d.2.2) (a4 : str4 a) (hk : Kok hs) :
    (∀ d ∈ (rcv F ts ds hs s n kind a).1, str4 d.2.1 ∧ str4 d.2.2) ∧ Kok (rcv F ts ds hs s n kind a).2.1 ∧ (∀ d ∈ (rcv F ts ds hs s n kind a).2.2, d.canLay0 = true ∧ d.depth ≤ 3) ∧ (rcv F ts ds hs s n kind a).2.1.length ≤ hs.length + 1 := by
  cases e : ts[ds.length]? with
  | none => rw [rcv_none e]; exact ⟨d4, hk, fun d hd => (nomatch hd), Nat.le_succ _⟩
  | some x =>
    cases hg : go F hs ds.length s n kind with
    | false => rw [rcv_no hg]; exact ⟨d4, hk, fun d hd => (nomatch hd), Nat.le_succ _⟩
    | true =>
      have h5 : (valV (eH hs) (.inl s)).isSome = false := by
        cases z : (valV (eH hs) (.inl s)).isSome with
        | false => rfl
        | true => rw [go_5 z] at hg; cases hg
      by_cases z : cnt (hs ++ [(s, a)]) a < F + 1
      · rw [rcv_few e hg z]; exact ⟨d4, hk.snoc a h5, fun d hd => (nomatch hd), by simp⟩
      · rw [rcv_all e hg z]
        refine ⟨fun d hd => ?_, List.nodup_nil, lettersD_ok t4, Nat.zero_le _⟩
        rcases List.mem_append.mp hd with h | h
        · exact d4 d h
        · rw [List.mem_singleton] at h
          subst h
          exact ⟨t4 x (List.mem_of_getElem? e), a4⟩
structure Sep (lt ld dh mo mt md mh : Addr) : Prop where
  a1 : lt ≠ ld
  a2 : mo ≠ mt
  a3 : mo ≠ md
  a4 : mt ≠ md
  a5 : lt ≠ mo
  a6 : lt ≠ mt
  a7 : lt ≠ md
  a8 : ld ≠ mo
  a9 : ld ≠ mt
  b1 : ld ≠ md
  b2 : dh ≠ mh
structure St4 {K : PySem.W.Frag} {mg : Str → Option Value} (T : Txt K mg) (H : Hp) (c g dx dg lt ld dh mo mt md mh : Addr) (F : Nat) (ts : List Str) (ds : List (Int × Str × Str)) (hs : List (Int × Str)) : Prop where
  ca : CAt T H c g dx dg lt ld dh F ts ds (eH hs)
  ma : MAt H mo mt md mh ts ds (eH hs)
  sp : Sep lt ld dh mo mt md mh
  ok : Kok hs
  t4 : ∀ x ∈ ts, str4 x
  d4 : ∀ d ∈ ds, str4 d.2.1 ∧ str4 d.2.2
theorem g_eqSame {K : PySem.W.Frag} {H : Hp} {Q : VK} {x y : V} {d : PyData} (hx : Dp K H x d) (hy : Dp K H y d) (sd : SeqAt.shaped d = true) (k : Q (.bl true) H) : rEqD K x y H Q :=
  ⟨d, d, hx, hy, sd, sd, by rw [SeqAt.eqv_refl _ (SeqAt.canLay_of_shaped sd)]; exact k⟩
theorem g_neSm {K : PySem.W.Frag} {H : Hp} {Q : VK} {x y : V} {d : PyData} (hx : Dp K H x d) (hy : Dp K H y d) (sd : SeqAt.shaped d = true) (k : Q (.bl false) H) : rNeD K x y H Q :=
  g_neSame hx hy sd (SeqAt.eqv_refl _ (SeqAt.canLay_of_shaped sd)) k
def spSame {K : PySem.W.Frag} {mg : Str → Option Value} (T : Txt K mg) : Sp := fun vs H Q _ => ∃ (c g dx dg lt ld dh mo mt md mh : Addr) (F : Nat) (ts : List Str) (ds : List (Int × Str × Str)) (hs : List (Int × Str)), vs = [.ref c, .ref mo] ∧ St4 T H c g dx dg lt ld dh mo mt md mh F ts ds hs ∧ ∀ H', Stp [] H H' → Q (.bl true) H'
section
variable {P : Program} {w : World} {K : PySem.W.Frag} {mg : Str → Option Value} {base : Heap}
theorem ok__law_same (T : Txt K mg) : FnOk P w K mg base CX0 2 T.d__law_same.f T.d__law_same.fd ["client", "model"] (spSame T) := by
  refine T.d__law_same.F.ok sc__law_same (fun vs H Q E h => ?_) (fun cdv A outer s H vs Q E hr h => ?_)
  · obtain ⟨_, _, _, _, _, _, _, _, _, _, _, _, _, _, _, rfl, _⟩ := h; rfl
  · obtain ⟨c, g, dx, dg, lt, ld, dh, mo, mt, md, mh, F, ts, ds, hs, rfl, st, k⟩ := h
    refine ⟨_,
(pss_cons (ps_set (i := 2) sc__law_same.nd rfl (by first | exact .inl rfl | exact .inr rfl) (pe_op op_add (pe_callB c_len (by rfl) T.b_len (by decide +kernel) (pa_cons (pe_ix ix_list (pv 1) pe_int (fun _ _ => rfl)) pa_nil)) pe_int))
 (Evl.pss_cut (ps_set (i := 3) sc__law_same.nd rfl (by first | exact .inl rfl | exact .inr rfl) (pe_meth0 (pv 0) T.cl_Client T.d_Client_pending.mt (ok_Client_pending T) (hr.mono (by decide)) T.d_Client_pending.b .nil pass0))
 (Evl.pss_cut (ps_if (pt_cmpR op_gt (pv 2) (pe_callB c_len (by rfl) T.b_len (by decide +kernel) (pa_cons (pe_ix ix_list (pv 1) pe_int (fun _ _ => rfl)) pa_nil)) (nomark _))
 (pss_one (ps_if (pt_cmpR o_notN (pv 3) pe_non (nomark _))
 (pss_one (ps_ret pe_bl))
 pss_nil))
 (pss_one (ps_if (pt_cmpR (op_neD hr.units) (pv 3) (pe_tup (pa_cons (pv 2) (pa_cons (pe_ix ix_list (pe_ix ix_list (pv 1) pe_int (fun _ _ => rfl)) (pe_op op_sub (pv 2) pe_int) (fun _ _ => rfl)) pa_nil))) (nomark _))
 (pss_one (ps_ret pe_bl))
 pss_nil)))
 (pss_cons (ps_set (i := 4) sc__law_same.nd rfl (by first | exact .inl rfl | exact .inr rfl) (pe_meth0 (pv 0) T.cl_Client T.d_Client_accepted.mt (ok_Client_accepted T) (hr.mono (by decide)) T.d_Client_accepted.b .nil pass0))
 (pss_cons (ps_if (PW.pt (pw_or (pt_not (pt_val (pe_callB call_isi (by rfl) T.b_isinstance (by decide +kernel) (pa_cons (pv 4) (pa_cons (pe_bltn (v := .ty "list") (u := .type "list") rfl T.b_list (by decide +kernel) rfl) pa_nil))))) (pw_or1 (pt_cmpR (op_neD hr.units) (pv 4) (pe_ix ix_list (pv 1) pe_int (fun _ _ => rfl)) (nomark _)))))
 (pss_one (ps_ret pe_bl))
 pss_nil)
 (pss_cons (ps_expr (pe_bm PySem.F.plainAttrs_list PySem.F.slot_list_append PySem.F.type_list_append mt_append (pv 4) (pa_cons pe_int pa_nil)))
 (pss_one (ps_ret (pe_and (pe_cmpR op_eq (pe_meth0 (pv 0) T.cl_Client T.d_Client_waiting.mt (ok_Client_waiting T) (hr.mono (by decide)) T.d_Client_waiting.b .nil pass0) (pe_op op_sub (pe_callB c_len (by rfl) T.b_len (by decide +kernel) (pa_cons (pe_ix ix_list (pv 1) pe_int (fun _ _ => rfl)) pa_nil)) (pe_callB c_len (by rfl) T.b_len (by decide +kernel) (pa_cons (pe_ix ix_list (pv 1) pe_int (fun _ _ => rfl)) pa_nil))) (nomark _)) (pe_one (pe_cmpR (op_eqD hr.units) (pe_meth0 (pv 0) T.cl_Client T.d_Client_accepted.mt (ok_Client_accepted T) (hr.mono (by decide)) T.d_Client_accepted.b .nil pass0) (pe_ix ix_list (pv 1) pe_int (fun _ _ => rfl)) (nomark _))))))))))))
    , ?_⟩
    obtain ⟨hm, ht, ⟨xs, hd, hx⟩, hh⟩ := id st.ma
    have hc := st.ca.hc
    have el : xs.length = ds.length := by rw [hx.len, List.length_map]
    have hsh := sh_any (done_ok st.d4)
    walk_at "go"
    rw [el]
    refine ⟨fun σ H' => ∃ v, σ = [some (.ref c), some (.ref mo), some (.int ((ds.length : Int) + 1)), some v, none] ∧ Stp [] H H' ∧ ((ts[ds.length]? = none ∧ v = .non) ∨ ∃ x p, ts[ds.length]? = some x ∧ v = .ref p ∧ H' p = some (.tup [.int ((ds.length : Int) + 1), .str x])), ?_, fun σ H1 hM => ?_⟩
    · walk_at "go"
      refine ⟨c, g, dx, dg, lt, ld, dh, F, ts, ds, eH hs, rfl, st.ca, fun e => ?_, fun x p e hp => ?_⟩
      · walk_at "go"
        exact ⟨_, rfl, .refl _ _, .inl ⟨e, rfl⟩⟩
      · walk_at "go"
        exact ⟨_, rfl, .new hp.h, .inr ⟨x, p, e, rfl, upd_same⟩⟩
    obtain ⟨v, rfl, s1, hv⟩ := hM
    refine ⟨fun σ H' => σ = [some (.ref c), some (.ref mo), some (.int ((ds.length : Int) + 1)), some v, none] ∧ Stp [] H H', ?_, fun σ H2 hM => ?_⟩
    · walk_at "go"
      rw [List.length_map]
      rcases hv with ⟨e, rfl⟩ | ⟨x, p, e, rfl, hp⟩
      · have hi := List.getElem?_eq_none_iff.mp e
        rw [decide_eq_true (show (ts.length : Int) < (ds.length : Int) + 1 by omega)]
        walk_at "go"
        rw [show decide (V.non = V.non) = true from rfl]
        walk_at "go"
        exact ⟨rfl, s1⟩
      · have hi := (List.getElem?_eq_some_iff.mp e).1
        rw [decide_eq_false (show ¬ (ts.length : Int) < (ds.length : Int) + 1 by omega)]
        walk_at "go"
        rw [show (ds.length : Int) + 1 - 1 = ((ds.length : Nat) : Int) by omega]
        refine g_ixL (xs := ts.map V.str) (.of (s_fx0 s1 ht)) (tmap e) ?_
        walk_at "go"
        refine g_mkT (by show 2 ≤ sizeLine; decide) (fun p2 h2 => ?_)
        walk_at "go"
        have sx : SeqAt.shaped (.tuple [.int ((ds.length : Int) + 1), .str x]) = true := shaped_of (by
          have := st.t4 x (List.mem_of_getElem? e)
          unfold str4 at this
          simp only [PyData.canLay0, PyData.canLayAll0, Bool.and_true, Bool.true_and] at this ⊢
          exact this) (by simp [PyData.depth, PyData.depthAll])
        refine g_neSm (Tp.dp (.tup (s_hp (h2.ne1 hp) hp) (.cons (.int _) (.cons (.str _) .nil)))) (Tp.dp (.tup upd_same (.cons (.int _) (.cons (.str _) .nil)))) sx ?_
        walk_at "go"
        exact ⟨rfl, s_newN s1 h2⟩
    obtain ⟨rfl, s2⟩ := hM
    have ca2 := st.ca.up s2
    have hc2 := ca2.hc
    have hm2 := s_fx0 s2 hm
    have hd2 := s_fx0 s2 hd
    have ht2 := s_fx0 s2 ht
    have hx2 := hx.mono s2.tl
    walk_at "go"
    refine ⟨c, g, dx, dg, lt, ld, dh, F, ts, ds, eH hs, rfl, ca2, fun ys p hy ty hp => ?_⟩
    have s3 : Stp [] H2 (upd H2 p (.lst ys)) := .new hp.h
    have hp3 : upd H2 p (.lst ys) p = some (.lst ys) := upd_same
    have ty3 := ty.mono s3.tl
    have eyl : ys.length = ds.length := by rw [ty.len, List.length_map]
    generalize hH3 : upd H2 p (.lst ys) = H3 at s3 hp3 ty3 ⊢
    have hm3 := s_fx0 s3 hm2
    have hd3 := s_fx0 s3 hd2
    walk_at "go"
    refine g_neSm (.lst (.of hp3) ty3.dp) (.lst (.of hd3) (hx2.mono s3.tl).dp) hsh ?_
    walk_at "go"
    refine g_app hp3 (by have := st.ca.hs; rw [sizeLine_eq]; omega) ?_
    have s4 : Stp [] H2 (upd H3 p (.lst (ys ++ [.int 0]))) := s3.own hp.h hp3
    generalize upd H3 p (.lst (ys ++ [.int 0])) = H4 at s4 ⊢
    have ca4 := ca2.up s4
    have hc4 := ca4.hc
    have hm4 := s_fx0 s4 hm2
    have hd4 := s_fx0 s4 hd2
    have ht4 := s_fx0 s4 ht2
    walk_at "go"
    refine ⟨c, g, dx, dg, lt, ld, dh, F, ts, ds, eH hs, rfl, ca4, ?_⟩
    walk_at "go"
    rw [List.length_map, el, decide_eq_true rfl]
    walk_at "go"
    refine ⟨c, g, dx, dg, lt, ld, dh, F, ts, ds, eH hs, rfl, ca4, fun zs p2 hz tz hp2 => ?_⟩
    have s5 : Stp [] H4 (upd H4 p2 (.lst zs)) := .new hp2.h
    walk_at "go"
    refine g_eqSame (.lst (.of upd_same) (tz.mono s5.tl).dp) (.lst (.of (s_fx0 s5 hd4)) ((hx2.mono s4.tl).mono s5.tl).dp) hsh ?_
    exact k _ ((s2.trans s4).trans s5)
end

structure Frs (H0 : Hp) (c lt ld dh mo mt md mh : Addr) : Prop where
  c : H0 c = none
  lt : H0 lt = none
  ld : H0 ld = none
  dh : H0 dh = none
  mo : H0 mo = none
  mt : H0 mt = none
  md : H0 md = none
  mh : H0 mh = none
theorem Stp.frs {S : List Addr} {H0 H H' : Hp} (a : Stp [] H0 H) (b : Stp S H H') (h : ∀ x ∈ S, H0 x = none) : Stp [] H0 H' :=
  ⟨fun x o _ e => b.fx x o (fun hx => by rw [h x hx] at e; cases e) (a.fx x o (fun z => nomatch z) e), a.tl.trans b.tl⟩
theorem four (i : Int) (a b c d : V) : ∃ j, j < 4 ∧ atI [a, b, c, d] (i % 4) = [a, b, c, d][j]? := by
  have h : i % 4 = 0 ∨ i % 4 = 1 ∨ i % 4 = 2 ∨ i % 4 = 3 := by omega
  rcases h with h | h | h | h <;> rw [h]
  · exact ⟨0, by omega, rfl⟩
  · exact ⟨1, by omega, rfl⟩
  · exact ⟨2, by omega, rfl⟩
  · exact ⟨3, by omega, rfl⟩
theorem texts4 (i : Int) : ∃ x, str4 x ∧ atI [V.str "open ann", .str "", .str "get k", .str "balance ann"] (i % 4) = some (.str x) := by
  have h : i % 4 = 0 ∨ i % 4 = 1 ∨ i % 4 = 2 ∨ i % 4 = 3 := by omega
  rcases h with h | h | h | h <;> rw [h]
  · exact ⟨_, by unfold str4; decide +kernel, rfl⟩
  · exact ⟨_, by unfold str4; decide +kernel, rfl⟩
  · exact ⟨_, by unfold str4; decide +kernel, rfl⟩
  · exact ⟨_, by unfold str4; decide +kernel, rfl⟩
theorem answers3 (i : Int) : ∃ x, str4 x ∧ atI [V.str "ok", .str "", .str "ok;5"] (i % 3) = some (.str x) := by
  have h : i % 3 = 0 ∨ i % 3 = 1 ∨ i % 3 = 2 := by omega
  rcases h with h | h | h <;> rw [h]
  · exact ⟨_, by unfold str4; decide +kernel, rfl⟩
  · exact ⟨_, by unfold str4; decide +kernel, rfl⟩
  · exact ⟨_, by unfold str4; decide +kernel, rfl⟩
theorem senders4 (i a b c d : Int) : ∃ x, atI [V.int a, .int b, .int c, .int d] (i % 4) = some (.int x) := by
  have h : i % 4 = 0 ∨ i % 4 = 1 ∨ i % 4 = 2 ∨ i % 4 = 3 := by omega
  rcases h with h | h | h | h <;> rw [h]
  · exact ⟨_, rfl⟩
  · exact ⟨_, rfl⟩
  · exact ⟨_, rfl⟩
  · exact ⟨_, rfl⟩
def spCall {K : PySem.W.Frag} {mg : Str → Option Value} (T : Txt K mg) : Sp := fun vs H Q _ => ∃ (H0 : Hp) (c g dx dg lt ld dh mo mt md mh : Addr) (F : Nat) (ts : List Str) (ds : List (Int × Str × Str)) (hs : List (Int × Str)) (rich : Int), vs = [.ref c, .ref mo, .int (3 * (F : Int) + 1), .int rich] ∧
  Stp [] H0 H ∧ Frs H0 c lt ld dh mo mt md mh ∧ St4 T H c g dx dg lt ld dh mo mt md mh F ts ds hs ∧ ts.length < 64 ∧ hs.length ≤ 99 ∧
  ∀ H' ts' ds' hs' dh' mh', Stp [] H0 H' → Frs H0 c lt ld dh' mo mt md mh' → St4 T H' c g dx dg lt ld dh' mo mt md mh' F ts' ds' hs' → ts'.length ≤ ts.length + 1 → hs'.length ≤ hs.length + 1 → Q (.bl true) H'
section
variable {P : Program} {w : World} {K : PySem.W.Frag} {mg : Str → Option Value} {base : Heap}
theorem ok__law_call (T : Txt K mg) : FnOk P w K mg base CX0 4 T.d__law_call.f T.d__law_call.fd ["client", "model", "machines", "rich"] (spCall T) := by
  refine T.d__law_call.F.ok sc__law_call (fun vs H Q E h => ?_) (fun cdv A outer s H vs Q E hr h => ?_)
  · obtain ⟨_, _, _, _, _, _, _, _, _, _, _, _, _, _, _, _, _, rfl, _⟩ := h; rfl
  · obtain ⟨H0, c, g, dx, dg, lt, ld, dh, mo, mt, md, mh, F, ts, ds, hs, rich, rfl, s0, fr, st, tl, hl, k⟩ := h
    refine ⟨_,
(pss_cons (ps_set (i := 4) sc__law_call.nd rfl (by first | exact .inl rfl | exact .inr rfl) (pe_op op_mod (pv 3) pe_int))
 (pss_cons (ps_set (i := 5) sc__law_call.nd rfl (by first | exact .inl rfl | exact .inr rfl) (pe_op op_fdiv (pv 3) pe_int))
 (pss_cons (ps_if (pt_cmpR op_eq (pv 4) pe_int (nomark _))
 (pss_cons (ps_set (i := 6) sc__law_call.nd rfl (by first | exact .inl rfl | exact .inr rfl) (pe_ix ix_list (pe_lst (pa_cons pe_str (pa_cons pe_str (pa_cons pe_str (pa_cons pe_str pa_nil))))) (pe_op op_mod (pv 5) pe_int) (fun _ _ => rfl)))
 (pss_cons (ps_expr (pe_bm PySem.F.plainAttrs_list PySem.F.slot_list_append PySem.F.type_list_append mt_append (pe_ix ix_list (pv 1) pe_int (fun _ _ => rfl)) (pa_cons (pv 6) pa_nil)))
 (Evl.pss_cut (ps_set (i := 7) sc__law_call.nd rfl (by first | exact .inl rfl | exact .inr rfl) (pe_ifExp (pt_cmpR op_eq (pe_callB c_len (by rfl) T.b_len (by decide +kernel) (pa_cons (pe_ix ix_list (pv 1) pe_int (fun _ _ => rfl)) pa_nil)) (pe_op op_add (pe_callB c_len (by rfl) T.b_len (by decide +kernel) (pa_cons (pe_ix ix_list (pv 1) pe_int (fun _ _ => rfl)) pa_nil)) pe_int) (nomark _)) (pe_call (ok__law_letters T) (hr.mono (by decide)) rfl T.d__law_letters.m T.d__law_letters.F.kp T.d__law_letters.b .nil pass0 (pa_cons (pv 1) (pa_cons (pv 2) pa_nil))) (pe_lst pa_nil)))
 (pss_one (ps_ret (pe_cmpR (op_eqD hr.units) (pe_meth (pv 0) T.cl_Client T.d_Client_submit.mt (ok_Client_submit T) (hr.mono (by decide)) T.d_Client_submit.b .nil pass0 (pa_cons (pv 6) pa_nil)) (pv 7) (nomark _)))))))
 pss_nil)
 (pss_cons (ps_if (pt_cmpR op_eq (pv 4) pe_int (nomark _))
 (pss_one (ps_ret (pe_cmpR (op_eqD hr.units) (pe_meth0 (pv 0) T.cl_Client T.d_Client_tick.mt (ok_Client_tick T) (hr.mono (by decide)) T.d_Client_tick.b .nil pass0) (pe_call (ok__law_letters T) (hr.mono (by decide)) rfl T.d__law_letters.m T.d__law_letters.F.kp T.d__law_letters.b .nil pass0 (pa_cons (pv 1) (pa_cons (pv 2) pa_nil))) (nomark _))))
 pss_nil)
 (pss_cons (ps_set (i := 8) sc__law_call.nd rfl (by first | exact .inl rfl | exact .inr rfl) (pe_callB (c_max2 rfl) (by rfl) T.b_max (by decide +kernel) (pa_cons pe_int (pa_cons (pe_op op_add (pe_callB c_len (by rfl) T.b_len (by decide +kernel) (pa_cons (pe_ix ix_list (pv 1) pe_int (fun _ _ => rfl)) pa_nil)) (pe_op op_mod (pv 5) pe_int)) pa_nil))))
 (Evl.pss_cut (ps_if (pt_cmpR op_ne (pe_op op_mod (pv 5) pe_int) pe_int (nomark _))
 (pss_one (ps_set (i := 8) sc__law_call.nd rfl (by first | exact .inl rfl | exact .inr rfl) (pe_op op_add (pe_callB c_len (by rfl) T.b_len (by decide +kernel) (pa_cons (pe_ix ix_list (pv 1) pe_int (fun _ _ => rfl)) pa_nil)) pe_int)))
 pss_nil)
 (pss_cons (ps_set (i := 9) sc__law_call.nd rfl (by first | exact .inl rfl | exact .inr rfl) (pe_tup (pa_cons pe_str (pa_cons (pv 8) (pa_cons (pe_ix ix_list (pe_lst (pa_cons pe_str (pa_cons pe_str (pa_cons pe_str pa_nil)))) (pe_op op_mod (pe_op op_fdiv (pv 5) pe_int) pe_int) (fun _ _ => rfl)) pa_nil)))))
 (Evl.pss_cut (ps_if (PW.pt (pw_and (pt_cmpR op_eq (pv 4) pe_int (nomark _)) (pw_and1 (pt_cmpR op_eq (pe_op op_mod (pe_op op_fdiv (pv 5) pe_int) pe_int) pe_int (nomark _)))))
 (pss_one (ps_set (i := 9) sc__law_call.nd rfl (by first | exact .inl rfl | exact .inr rfl) (pe_tup (pa_cons pe_str (pa_cons (pv 8) (pa_cons pe_str pa_nil))))))
 pss_nil)
 (pss_cons (ps_set (i := 10) sc__law_call.nd rfl (by first | exact .inl rfl | exact .inr rfl) (pe_op op_mod (pe_op op_fdiv (pv 5) pe_int) (pv 2)))
 (Evl.pss_cut (ps_if (PW.pt (pw_and (pt_cmpR op_eq (pv 4) pe_int (nomark _)) (pw_and1 (pt_cmpR op_eq (pe_op op_mod (pe_op op_fdiv (pv 5) pe_int) pe_int) pe_int (nomark _)))))
 (pss_one (ps_set (i := 10) sc__law_call.nd rfl (by first | exact .inl rfl | exact .inr rfl) (pe_ix ix_list (pe_lst (pa_cons (pe_un un_neg pe_int) (pa_cons (pv 2) (pa_cons (pe_un un_neg pe_int) (pa_cons (pe_op op_add (pv 2) pe_int) pa_nil))))) (pe_op op_mod (pe_op op_fdiv (pv 5) pe_int) pe_int) (fun _ _ => rfl))))
 pss_nil)
 (pss_cons (ps_set (i := 7) sc__law_call.nd rfl (by first | exact .inl rfl | exact .inr rfl) (pe_call (ok__law_receive T) (hr.mono (by decide)) rfl T.d__law_receive.m T.d__law_receive.F.kp T.d__law_receive.b .nil pass0 (pa_cons (pv 1) (pa_cons (pv 2) (pa_cons (pv 10) (pa_cons (pv 9) pa_nil))))))
 (pss_one (ps_ret (pe_cmpR (op_eqD hr.units) (pe_meth (pv 0) T.cl_Client T.d_Client_receive.mt (ok_Client_receive T) (hr.mono (by decide)) T.d_Client_receive.b .nil pass0 (pa_cons (pv 10) (pa_cons (pv 9) pa_nil))) (pv 7) (nomark _)))))))))))))))
    , ?_⟩
    obtain ⟨hm, ht, ⟨xs, hd, hx⟩, hh⟩ := id st.ma
    have hc := st.ca.hc
    have hF := st.ca.hF
    have el : xs.length = ds.length := by rw [hx.len, List.length_map]
    walk_at "go"
    refine g_iteD (fun h1 => ?_) (fun h1 => ?_)
    · walk_at "go"
      refine g_mkL (by show 4 ≤ sizeLine; decide) (fun p1 hp1 => ?_)
      walk_at "go"
      obtain ⟨x, hx4, hxi⟩ := texts4 (rich / 8)
      refine g_ixL (.of upd_same) hxi ?_
      have s1 : Stp [] H (upd H p1 (.lst [V.str "open ann", .str "", .str "get k", .str "balance ann"])) := .new hp1.h
      generalize upd H p1 (.lst [V.str "open ann", .str "", .str "get k", .str "balance ann"]) = H1 at s1 ⊢
      have hm1 := s_fx0 s1 hm
      have ht1 := s_fx0 s1 ht
      have hd1 := s_fx0 s1 hd
      walk_at "go"
      refine g_app ht1 (by rw [List.length_map, sizeLine_eq]; omega) ?_
      have em : ts.map V.str ++ [V.str x] = (ts ++ [x]).map V.str := by simp
      rw [em]
      have s2 : Stp [mt] H1 (upd H1 mt (.lst ((ts ++ [x]).map V.str))) := .wl ht1 List.mem_cons_self
      have sp := st.sp
      have nhm : mh ≠ mt := ne_of hh ht (fun z => nomatch z)
      have ma2 : MAt (upd H1 mt (.lst ((ts ++ [x]).map V.str))) mo mt md mh (ts ++ [x]) ds (eH hs) :=
        ⟨s_hp sp.a2 hm1, upd_same, ⟨xs, s_hp sp.a4.symm hd1, (hx.mono s1.tl).mono s2.tl⟩, s_hp nhm (s_fx0 s1 hh)⟩
      have ca2 : CAt T (upd H1 mt (.lst ((ts ++ [x]).map V.str))) c g dx dg lt ld dh F ts ds (eH hs) := (st.ca.up s1).mono s2
        (by simpa using ne_of st.ca.hc ht (fun z => nomatch z)) (by simpa using ne_of st.ca.hg ht (fun z => nomatch z)) (by simpa using sp.a6) (by simpa using sp.a9) (by simpa using ne_of st.ca.hh ht (fun z => nomatch z))
      have z2 : Stp [] H0 (upd H1 mt (.lst ((ts ++ [x]).map V.str))) := (s0.trans s1).frs s2 (by simpa using fr.mt)
      generalize upd H1 mt (.lst ((ts ++ [x]).map V.str)) = H2 at s2 ma2 ca2 z2 ⊢
      obtain ⟨hm2, ht2, ⟨xs2, hd2, hx2⟩, hh2⟩ := id ma2
      have el2 : xs2.length = ds.length := by rw [hx2.len, List.length_map]
      walk_at "go"
      refine ⟨fun σ H' => ∃ r ys, σ = [some (.ref c), some (.ref mo), some (.int (3 * (F : Int) + 1)), some (.int rich), some (.int (rich % 8)), some (.int (rich / 8)), some (.str x), some (.ref r), none, none, none] ∧ Stp [] H2 H' ∧ H2 r = none ∧ H' r = some (.lst ys) ∧ TpA H' ys (subD F (ts ++ [x]) ds.length), ?_, fun σ H3 hM => ?_⟩
      · walk_at "go"
        rw [List.length_map, el2]
        refine g_iteD (fun h2 => ?_) (fun h2 => ?_)
        · walk_at "go"
          refine ⟨mo, mt, md, mh, F, ts ++ [x], ds, eH hs, rfl, hF, ma2, fun r H' ys hr sr hr2 tr => ?_⟩
          walk_at "go"
          exact ⟨r, ys, rfl, sr, hr.h, hr2, by rw [show subD F (ts ++ [x]) ds.length = lettersD F (ts ++ [x]) ds.length from if_pos (by omega)]; exact tr⟩
        · walk_at "go"
          refine g_mkL (Nat.zero_le _) (fun r hr => ?_)
          walk_at "go"
          exact ⟨r, [], rfl, .new hr.h, hr.h, upd_same, by rw [show subD F (ts ++ [x]) ds.length = [] from if_neg (by omega)]; exact .nil⟩
      obtain ⟨r, ys, rfl, s3, hr0, hr3, ty3⟩ := hM
      have ca3 := ca2.up s3
      have ma3 := ma2.up s3
      have hc3 := ca3.hc
      walk_at "go"
      refine ⟨c, g, dx, dg, lt, ld, dh, F, ts, ds, eH hs, x, rfl, ca3, sp.a1, tl, fun r2 H4 ys2 hr20 s4 ca4 hr4 ty4 => ?_⟩
      walk_at "go"
      have nrl : r ≠ lt := (ne_of_none ca2.ht hr0).symm
      have hr34 := s4.fx r _ (by simpa using nrl) hr3
      have t4 : ∀ y ∈ ts ++ [x], str4 y := fun y hy => by
        rcases List.mem_append.mp hy with h | h
        · exact st.t4 y h
        · rw [List.mem_singleton] at h; rw [h]; exact hx4
      have hsh : SeqAt.shaped (.list (subD F (ts ++ [x]) ds.length)) = true := sh_any (by
        unfold subD
        split
        · exact lettersD_ok t4
        · intro d hd; cases hd)
      refine g_eqSame (.lst (.of hr4) ty4.dp) (.lst (.of hr34) (ty3.mono s4.tl).dp) hsh ?_
      have ma4 : MAt H4 mo mt md mh (ts ++ [x]) ds (eH hs) := ma3.mono s4 (by simpa using sp.a5.symm) (by simpa using sp.a6.symm) (by simpa using sp.a7.symm) (by simpa using ne_of ma3.hh ca3.ht (fun z => nomatch z))
      exact k H4 (ts ++ [x]) ds hs dh mh ((z2.trans s3).frs s4 (by simpa using fr.lt)) fr ⟨ca4, ma4, sp, st.ok, t4, st.d4⟩ (by simp) (by omega)
    walk_at "go"
    refine g_iteD (fun h2 => ?_) (fun h2 => ?_)
    · walk_at "go"
      refine ⟨c, g, dx, dg, lt, ld, dh, F, ts, ds, eH hs, rfl, st.ca, fun r H' ys hr sr hr2 tr => ?_⟩
      walk_at "go"
      have ma1 := st.ma.up sr
      refine ⟨mo, mt, md, mh, F, ts, ds, eH hs, rfl, hF, ma1, fun r2 H2 ys2 hr' sr2 hr22 tr2 => ?_⟩
      walk_at "go"
      refine g_eqSame (.lst (.of (s_fx0 sr2 hr2)) (tr.mono sr2.tl).dp) (.lst (.of hr22) tr2.dp) (sh_any (lettersD_ok st.t4)) ?_
      exact k H2 ts ds hs dh mh ((s0.trans sr).trans sr2) fr ⟨(st.ca.up sr).up sr2, ma1.up sr2, st.sp, st.ok, st.t4, st.d4⟩ (by omega) (by omega)
    walk_at "go"
    rw [el]
    refine ⟨fun σ H' => ∃ n : Int, σ = [some (.ref c), some (.ref mo), some (.int (3 * (F : Int) + 1)), some (.int rich), some (.int (rich % 8)), some (.int (rich / 8)), none, none, some (.int n), none, none] ∧ H' = H, ?_, fun σ H1 hM => ?_⟩
    · walk_at "go"
      refine g_iteN (fun h3 => ?_) (fun h3 => ?_)
      · walk_at "go"
        exact ⟨_, rfl, rfl⟩
      · walk_at "go"
        exact ⟨_, rfl, rfl⟩
    obtain ⟨n, rfl, eH1⟩ := hM
    rw [eH1]
    clear eH1 H1
    walk_at "go"
    refine g_mkL (by show 3 ≤ sizeLine; decide) (fun p1 hp1 => ?_)
    walk_at "go"
    obtain ⟨a, ha4, hai⟩ := answers3 (rich / 8 / 4)
    refine g_ixL (.of upd_same) hai ?_
    have s1 : Stp [] H (upd H p1 (.lst [V.str "ok", .str "", .str "ok;5"])) := .new hp1.h
    generalize upd H p1 (.lst [V.str "ok", .str "", .str "ok;5"]) = H1 at s1 ⊢
    walk_at "go"
    refine g_mkT (by show 3 ≤ sizeLine; decide) (fun q0 hq0 => ?_)
    have s2 : Stp [] H (upd H1 q0 (.tup [V.str "answer", .int n, .str a])) := s_newN s1 hq0
    have hq2 : upd H1 q0 (.tup [V.str "answer", .int n, .str a]) q0 = some (.tup [V.str "answer", .int n, .str a]) := upd_same
    generalize upd H1 q0 (.tup [V.str "answer", .int n, .str a]) = H2 at s2 hq2 ⊢
    walk_at "go"
    refine ⟨fun σ H' => ∃ q kind a, σ = [some (.ref c), some (.ref mo), some (.int (3 * (F : Int) + 1)), some (.int rich), some (.int (rich % 8)), some (.int (rich / 8)), none, none, some (.int n), some (.ref q), none] ∧ Stp [] H H' ∧ H' q = some (.tup [.str kind, .int n, .str a]) ∧ str4 a, ?_, fun σ H3 hM => ?_⟩
    · walk_at "go"
      refine g_iteD (fun h3 => ?_) (fun h3 => ?_)
      · walk_at "go"
        refine g_iteD (fun h4 => ?_) (fun h4 => ?_)
        · walk_at "go"
          refine g_mkT (by show 3 ≤ sizeLine; decide) (fun q hq => ?_)
          walk_at "go"
          exact ⟨q, _, _, rfl, s_newN s2 hq, upd_same, by unfold str4; decide +kernel⟩
        · walk_at "go"
          exact ⟨q0, _, a, rfl, s2, hq2, ha4⟩
      · walk_at "go"
        exact ⟨q0, _, a, rfl, s2, hq2, ha4⟩
    clear hai ha4 hq2
    obtain ⟨q, kind, a, rfl, s3, hq3, ha4⟩ := hM
    walk_at "go"
    refine ⟨fun σ H' => ∃ sd : Int, σ = [some (.ref c), some (.ref mo), some (.int (3 * (F : Int) + 1)), some (.int rich), some (.int (rich % 8)), some (.int (rich / 8)), none, none, some (.int n), some (.ref q), some (.int sd)] ∧ Stp [] H3 H', ?_, fun σ H4 hM => ?_⟩
    · walk_at "go"
      refine g_iteD (fun h3 => ?_) (fun h3 => ?_)
      · walk_at "go"
        refine g_iteD (fun h4 => ?_) (fun h4 => ?_)
        · walk_at "go"
          refine g_mkL (by show 4 ≤ sizeLine; decide) (fun p hp => ?_)
          walk_at "go"
          obtain ⟨sd, hsd⟩ := senders4 (rich / 8 / 48) (-1) (3 * (F : Int) + 1) (-2) (3 * (F : Int) + 1 + 3)
          refine g_ixL (.of upd_same) hsd ?_
          walk_at "go"
          exact ⟨_, rfl, .new hp.h⟩
        · walk_at "go"
          exact ⟨_, rfl, .refl _ _⟩
      · walk_at "go"
        exact ⟨_, rfl, .refl _ _⟩
    obtain ⟨sd, rfl, s4⟩ := hM
    have t4 := s3.trans s4
    have z4 := s0.trans t4
    have hq4 := s_fx0 s4 hq3
    have ca4 := st.ca.up t4
    have ma4 := st.ma.up t4
    have sp := st.sp
    have tl' : ts.length ≤ 64 := by omega
    obtain ⟨o1, o2, o3, o4⟩ := rcv_ok (F := F) (s := sd) (n := n) (kind := kind) st.t4 st.d4 ha4 st.ok
    walk_at "go"
    refine ⟨mo, mt, md, mh, q, F, ts, ds, hs, sd, n, kind, a, rfl, hq4, ma4, sp.a2, sp.a3, sp.a4, st.ok, by omega, tl', hF, fun r H5 ys mh' hr0 s5 hmh ma5 hr5 ty5 => ?_⟩
    obtain ⟨xs4, hd4, _⟩ := ca4.hd
    have hq5 := s5.tl _ _ hq4
    have ca5 : CAt T H5 c g dx dg lt ld dh F ts ds (eH hs) := by
      obtain ⟨ys4, hm4, _⟩ := ma4.hd
      refine ca4.mono s5 ?_ ?_ ?_ ?_ ?_
      · simp [ne_of ca4.hc ma4.hm (fun z => nomatch z), ne_of ca4.hc hm4 (fun z => nomatch z), ne_of ca4.hc ma4.hh (fun z => nomatch z)]
      · simp [ne_of ca4.hg ma4.hm (fun z => nomatch z), ne_of ca4.hg hm4 (fun z => nomatch z), ne_of ca4.hg ma4.hh (fun z => nomatch z)]
      · simp [sp.a5, sp.a7, ne_of ca4.ht ma4.hh (fun z => nomatch z)]
      · simp [sp.a8, sp.b1, ne_of hd4 ma4.hh (fun z => nomatch z)]
      · simp [sp.b2, ne_of ca4.hh ma4.hm (fun z => nomatch z), ne_of ca4.hh hm4 (fun z => nomatch z)]
    have z5 : Stp [] H0 H5 := z4.frs s5 (by simp [fr.mo, fr.md, fr.mh])
    have fmh : H0 mh' = none := by
      rcases hmh with rfl | h
      · exact fr.mh
      · exact z4.back (fun z => nomatch z) h
    have hc5 := ca5.hc
    walk_at "go"
    refine ⟨c, g, dx, dg, lt, ld, dh, q, F, ts, ds, hs, sd, n, kind, a, rfl, hq5, ca5, sp.a1, by omega, fun r2 H6 ys2 dh' hr20 s6 hdh ca6 hr6 ty6 => ?_⟩
    walk_at "go"
    have hr56 := s6.fx r _ (by
      simp [(ne_of_none ca4.hc hr0).symm, (ne_of_none hd4 hr0).symm, (ne_of_none ca4.hh hr0).symm]) hr5
    refine g_eqSame (.lst (.of hr6) ty6.dp) (.lst (.of hr56) (ty5.mono s6.tl).dp) (sh_any o3) ?_
    obtain ⟨xs5, hd5, _⟩ := ca5.hd
    obtain ⟨ys5, hm5, _⟩ := ma5.hd
    have nhh : dh ≠ mh' := by
      rcases hmh with rfl | h
      · exact sp.b2
      · exact ne_of_none ca4.hh h
    have ma6 := ma5.mono s6 (by simp [ne_of ma5.hm ca5.hc (fun z => nomatch z), sp.a8.symm, ne_of ma5.hm ca5.hh (fun z => nomatch z)])
      (by simp [ne_of ma5.ht ca5.hc (fun z => nomatch z), sp.a9.symm, ne_of ma5.ht ca5.hh (fun z => nomatch z)])
      (by simp [ne_of hm5 ca5.hc (fun z => nomatch z), sp.b1.symm, ne_of hm5 ca5.hh (fun z => nomatch z)])
      (by simp [ne_of ma5.hh ca5.hc (fun z => nomatch z), ne_of ma5.hh hd5 (fun z => nomatch z), nhh.symm])
    have fdh : H0 dh' = none := by
      rcases hdh with rfl | h
      · exact fr.dh
      · exact z5.back (fun z => nomatch z) h
    have nhh2 : dh' ≠ mh' := by
      rcases hdh with rfl | h
      · exact nhh
      · exact (ne_of_none ma5.hh h).symm
    exact k H6 ts _ _ dh' mh' (z5.frs s6 (by simp [fr.c, fr.ld, fr.dh])) ⟨fr.c, fr.lt, fr.ld, fdh, fr.mo, fr.mt, fr.md, fmh⟩
      ⟨ca6, ma6, ⟨sp.a1, sp.a2, sp.a3, sp.a4, sp.a5, sp.a6, sp.a7, sp.a8, sp.a9, sp.b1, nhh2⟩, o2, st.t4, o1⟩ (by omega) o4
end

theorem faults4 (i : Int) : ∃ F : Nat, F ≤ 10 ∧ atI [V.int 0, .int 1, .int 2, .int 10] (i % 4) = some (.int (F : Int)) := by
  have h : i % 4 = 0 ∨ i % 4 = 1 ∨ i % 4 = 2 ∨ i % 4 = 3 := by omega
  rcases h with h | h | h | h <;> rw [h]
  · exact ⟨0, by omega, rfl⟩
  · exact ⟨1, by omega, rfl⟩
  · exact ⟨2, by omega, rfl⟩
  · exact ⟨10, by omega, rfl⟩
theorem ix_int {ns : List Int} {i : Nat} (h : i < ns.length) : atI (ns.map V.int) (i : Int) = some (.int (ns.getD i 0)) := by
  refine atI_nat ?_
  rw [List.getElem?_map, List.getElem?_eq_getElem h, List.getD_eq_getElem?_getD, List.getElem?_eq_getElem h]; rfl
theorem Stp.all {H H' : Hp} (h : ∀ b o, H b = some o → H' b = some o) : Stp [] H H' := ⟨fun b o _ e => h b o e, fun b xs e => h b _ e⟩
def spLaw (K : PySem.W.Frag) : Sp := fun vs H Q _ => ∃ (a : Addr) (ns : List Int), vs = [.ref a] ∧ SqL K H a (ns.map V.int) ∧ ns.length ≤ 63 ∧ ∀ H', Q (.bl true) H'
section
variable {P : Program} {w : World} {K : PySem.W.Frag} {mg : Str → Option Value} {base : Heap}
theorem ok_law (T : Txt K mg) : FnOk P w K mg base CX0 5 T.d_law.f T.d_law.fd ["script"] (spLaw K) := by
  refine T.d_law.F.ok sc_law (fun vs H Q E h => ?_) (fun cdv A outer s H vs Q E hr h => ?_)
  · obtain ⟨_, _, rfl, _⟩ := h; rfl
  · obtain ⟨a, ns, rfl, hs, hz, k⟩ := h
    refine ⟨_,
(pss_cons (ps_set (i := 1) sc_law.nd rfl (by first | exact .inl rfl | exact .inr rfl) pe_int)
 (Evl.pss_cut (ps_if (pt_cmpR op_gt (pe_callB c_len (by rfl) T.b_len (by decide +kernel) (pa_cons (pv 0) pa_nil)) pe_int (nomark _))
 (pss_one (ps_set (i := 1) sc_law.nd rfl (by first | exact .inl rfl | exact .inr rfl) (pe_ix ix_list (pe_lst (pa_cons pe_int (pa_cons pe_int (pa_cons pe_int (pa_cons pe_int pa_nil))))) (pe_op op_mod (pe_callTy c_int (by rfl) T.b_int (by decide +kernel) (pa_cons (pe_ix ix_list (pv 0) pe_int (fun _ _ => rfl)) pa_nil)) pe_int) (fun _ _ => rfl))))
 pss_nil)
 (pss_cons (ps_set (i := 2) sc_law.nd rfl (by first | exact .inl rfl | exact .inr rfl) (pe_op op_add (pe_op op_mul pe_int (pv 1)) pe_int))
 (pss_cons (ps_set (i := 3) sc_law.nd rfl (by first | exact .inl rfl | exact .inr rfl) (pe_make T.mk_Client (ok_Client___init__ T) (hr.mono (by decide)) rfl T.mg_Client T.d_Client___init__.b .nil pass0 (pa_cons (pe_make T.mk_Group (ok_Group___init__ T) (hr.mono (by decide)) rfl T.mg_Group T.d_Group___init__.b .nil pass0 (pa_cons (pv 1) pa_nil)) (pa_cons (pe_un un_neg pe_int) pa_nil))))
 (pss_cons (ps_set (i := 4) sc_law.nd rfl (by first | exact .inl rfl | exact .inr rfl) (pe_lst (pa_cons (pe_lst pa_nil) (pa_cons (pe_lst pa_nil) (pa_cons pe_dnewK pa_nil)))))
 (pss_cons (ps_if (pt_not (pt_val (pe_call (ok__law_same T) (hr.mono (by decide)) rfl T.d__law_same.m T.d__law_same.F.kp T.d__law_same.b .nil pass0 (pa_cons (pv 3) (pa_cons (pv 4) pa_nil)))))
 (pss_one (ps_ret pe_bl))
 pss_nil)
 (pss_cons (ps_for PassesOwn.never rfl (pi_range2 rfl T.b_range (pa_cons pe_int (pa_cons (pe_callB c_len (by rfl) T.b_len (by decide +kernel) (pa_cons (pv 0) pa_nil)) pa_nil))) (pg_name (i := 5) sc_law.nd rfl (by first | exact .inl rfl | exact .inr rfl))
 (pss_cons (ps_if (pt_not (pt_val (pe_call (ok__law_call T) (hr.mono (by decide)) rfl T.d__law_call.m T.d__law_call.F.kp T.d__law_call.b .nil pass0 (pa_cons (pv 3) (pa_cons (pv 4) (pa_cons (pv 2) (pa_cons (pe_call (ok__law_rich T) (hr.mono (by decide)) rfl T.d__law_rich.m T.d__law_rich.F.kp T.d__law_rich.b .nil pass0 (pa_cons (pe_ix ix_list (pv 0) (pv 5) (fun _ _ => rfl)) (pa_cons (pv 5) pa_nil))) pa_nil)))))))
 (pss_one (ps_ret pe_bl))
 pss_nil)
 (pss_one (ps_if (pt_not (pt_val (pe_call (ok__law_same T) (hr.mono (by decide)) rfl T.d__law_same.m T.d__law_same.F.kp T.d__law_same.b .nil pass0 (pa_cons (pv 3) (pa_cons (pv 4) pa_nil)))))
 (pss_one (ps_ret pe_bl))
 pss_nil))))
 (pss_one (ps_ret pe_bl)))))))))
    , ?_⟩
    walk_at "go"
    refine ⟨fun σ H' => ∃ F : Nat, F ≤ 10 ∧ σ = [some (.ref a), some (.int (F : Int)), none, none, none, none] ∧ Stp [] H H', ?_, fun σ H1 hM => ?_⟩
    · walk_at "go"
      rw [List.length_map]
      refine g_iteD (fun h1 => ?_) (fun h1 => ?_)
      · walk_at "go"
        refine g_mkL (by show 4 ≤ sizeLine; decide) (fun p hp => ?_)
        have sp : Stp [] H (upd H p (.lst [V.int 0, .int 1, .int 2, .int 10])) := .new hp.h
        walk_at "go"
        refine g_ixL (xs := ns.map V.int) (i := ((0 : Nat) : Int)) (s_sq0 sp hs) (ix_int (by omega)) ?_
        walk_at "go"
        obtain ⟨F, hF, e⟩ := faults4 (ns.getD 0 0)
        refine g_ixL (.of upd_same) e ?_
        walk_at "go"
        exact ⟨F, hF, rfl, sp⟩
      · walk_at "go"
        exact ⟨1, by omega, rfl, .refl _ _⟩
    obtain ⟨F, hF, rfl, sA⟩ := hM
    walk_at "go"
    intro g dg ng ndg neg
    refine ⟨g, dg, (F : Int), rfl, upd_same, by omega, by omega, fun H2 hg2 hb2 => ⟨rfl, ?_⟩⟩
    have sB : Stp [] H1 H2 := .all fun b o e => by
      rw [hb2 b (ne_of_none e ng), upd_ne (ne_of_none e ng), upd_ne (ne_of_none e ndg)]; exact e
    walk_at "go"
    intro c dx nc ndc nec
    refine ⟨c, dx, g, rfl, upd_same, fun H3 lt ld dh hc3 hlt hld hdh e1 e2 e3 n12 n13 n23 hb3 => ⟨rfl, ?_⟩⟩
    have hbk : ∀ b, (upd (upd H2 dx (.own c)) c (.ins T.cC dx [])) b = none → H2 b = none := fun b e => by
      by_cases z1 : b = c
      · subst z1; exact nc
      · by_cases z2 : b = dx
        · subst z2; exact ndc
        · rw [upd_ne z1, upd_ne z2] at e; exact e
    have sC : Stp [] H2 H3 := .all fun b o e => hb3 b o (ne_of_none e nc) (by rw [upd_ne (ne_of_none e nc), upd_ne (ne_of_none e ndc)]; exact e)
    have hg3 := s_fx0 sC hg2
    have tH2 : Stp [] H H2 := sA.trans sB
    have tH3 := tH2.trans sC
    have fb : ∀ b, H2 b = none → H b = none := fun b e => tH2.back (fun z => nomatch z) e
    have ca3 : CAt T H3 c g dx dg lt ld dh F [] [] (eH []) := ⟨hc3, hg3, hlt, ⟨[], hld, .nil⟩, hdh, hF, by simp, by simp⟩
    walk_at "go"
    refine g_mkL (Nat.zero_le _) (fun mt nmt => ?_)
    have s4 : Stp [] H3 (upd H3 mt (.lst [])) := .new nmt.h
    have hmt4 : upd H3 mt (.lst []) mt = some (.lst []) := upd_same
    generalize upd H3 mt (.lst []) = H4 at s4 hmt4 ⊢
    walk_at "go"
    refine g_mkL (Nat.zero_le _) (fun md nmd => ?_)
    have s5 : Stp [] H4 (upd H4 md (.lst [])) := .new nmd.h
    have hmd5 : upd H4 md (.lst []) md = some (.lst []) := upd_same
    generalize upd H4 md (.lst []) = H5 at s5 hmd5 ⊢
    walk_at "go"
    refine g_dNew (fun mh nmh => ?_)
    have s6 : Stp [] H5 (upd H5 mh (.dK [])) := .new nmh.h
    have hmh6 : upd H5 mh (.dK []) mh = some (.dK []) := upd_same
    generalize upd H5 mh (.dK []) = H6 at s6 hmh6 ⊢
    walk_at "go"
    refine g_mkL (by show 3 ≤ sizeLine; decide) (fun mo nmo => ?_)
    have s7 : Stp [] H6 (upd H6 mo (.lst [.ref mt, .ref md, .ref mh])) := .new nmo.h
    have hmo7 : upd H6 mo (.lst [.ref mt, .ref md, .ref mh]) mo = some (.lst [.ref mt, .ref md, .ref mh]) := upd_same
    generalize upd H6 mo (.lst [.ref mt, .ref md, .ref mh]) = H7 at s7 hmo7 ⊢
    have t4 := tH3.trans s4
    have t5 := t4.trans s5
    have t6 := t5.trans s6
    have t7 := t6.trans s7
    have hmt6 := s_fx0 s6 (s_fx0 s5 hmt4)
    have hmd6 := s_fx0 s6 hmd5
    have ca6 := ((ca3.up s4).up s5).up s6
    have st7 : St4 T H7 c g dx dg lt ld dh mo mt md mh F [] [] [] := by
      refine ⟨ca6.up s7, ⟨hmo7, s_fx0 s7 hmt6, ⟨[], s_fx0 s7 hmd6, .nil⟩, s_fx0 s7 hmh6⟩, ⟨n12, ?_, ?_, ?_, ?_, ?_, ?_, ?_, ?_, ?_, ?_⟩, List.nodup_nil, fun _ z => (nomatch z), fun _ z => (nomatch z)⟩
      · exact (nmo.ne1 hmt6).symm
      · exact (nmo.ne1 hmd6).symm
      · exact nmd.ne1 hmt4
      · exact nmo.ne1 ca6.ht
      · exact nmt.ne1 hlt
      · exact nmd.ne1 (s_fx0 s4 hlt)
      · exact nmo.ne1 (s_fx0 s6 (s_fx0 s5 (s_fx0 s4 hld)))
      · exact nmt.ne1 hld
      · exact nmd.ne1 (s_fx0 s4 hld)
      · exact nmh.ne1 (s_fx0 s5 (s_fx0 s4 hdh))
    have fr7 : Frs H c lt ld dh mo mt md mh := ⟨fb _ nc, fb _ (hbk _ e1), fb _ (hbk _ e2), fb _ (hbk _ e3), t6.back (fun z => nomatch z) nmo.h, tH3.back (fun z => nomatch z) nmt.h, t4.back (fun z => nomatch z) nmd.h, t5.back (fun z => nomatch z) nmh.h⟩
    walk_at "go"
    refine ⟨c, g, dx, dg, lt, ld, dh, mo, mt, md, mh, F, [], [], [], rfl, st7, fun H8 s8 => ?_⟩
    walk_at "go"
    have St4up : ∀ {H H' : Hp} {dh mh : Addr} {ts ds hs}, St4 T H c g dx dg lt ld dh mo mt md mh F ts ds hs → Stp [] H H' → St4 T H' c g dx dg lt ld dh mo mt md mh F ts ds hs := fun st e => ⟨st.ca.up e, st.ma.up e, st.sp, st.ok, st.t4, st.d4⟩
    have hsq8 : SqL K H8 a (ns.map V.int) := s_sq0 (t7.trans s8) hs
    rw [List.length_map]
    refine g_rng2 (by omega) ⟨fun i σ H' => ∃ ts ds hs2 dh mh v5, σ = [some (.ref a), some (.int (F : Int)), some (.int (3 * (F : Int) + 1)), some (.ref c), some (.ref mo), v5] ∧ Stp [] H H' ∧ Frs H c lt ld dh mo mt md mh ∧ St4 T H' c g dx dg lt ld dh mo mt md mh F ts ds hs2 ∧ ts.length ≤ i ∧ hs2.length ≤ i,
      ⟨[], [], [], dh, mh, none, rfl, t7.trans s8, fr7, St4up st7 s8, by simp, by simp⟩, fun i σ H' hi hP => ?_, fun σ H' hP => ?_⟩
    · obtain ⟨ts, ds, hs2, dh, mh, v5, rfl, sP, frP, stP, l1, l2⟩ := hP
      have hi' : i + 1 < ns.length := by omega
      have hsP : SqL K H' a (ns.map V.int) := s_sq0 sP hs
      walk_at "go"
      rw [show (1 : Int) + (i : Int) = ((i + 1 : Nat) : Int) by omega]
      refine g_ixL hsP (ix_int hi') ?_
      walk_at "go"
      refine ⟨_, _, rfl, fun r => ?_⟩
      walk_at "go"
      refine ⟨H, c, g, dx, dg, lt, ld, dh, mo, mt, md, mh, F, ts, ds, hs2, r, rfl, sP, frP, stP, by omega, by omega, fun H9 ts9 ds9 hs9 dh9 mh9 s9 fr9 st9 m1 m2 => ?_⟩
      walk_at "go"
      refine ⟨c, g, dx, dg, lt, ld, dh9, mo, mt, md, mh9, F, ts9, ds9, hs9, rfl, st9, fun H10 s10 => ?_⟩
      walk_at "go"
      exact ⟨ts9, ds9, hs9, dh9, mh9, _, rfl, s9.trans s10, fr9, St4up st9 s10, by omega, by omega⟩
    · obtain ⟨ts, ds, hs2, dh, mh, v5, rfl, sP, frP, stP, l1, l2⟩ := hP
      walk_at "go"
      exact k _
end

theorem all_mk {l : PySem.W.OpenLaw} {w : World} {K : PySem.W.Frag} {h : Heap} {mg : Str → Option Value} {fa cC cG f0 f1 f2 f3 f4 f5 f6 f7 f8 f9 f10 f11 f12 f13 f14 f15 f16 : Addr} (X : K.In h) (G : h.Ns mainGlobals mg) (hfa : mg "law" = some (.ref fa))
    {od0 an0 od1 an1 od2 an2 od3 an3 od4 an4 od5 an5 od6 an6 od7 an7 od8 an8 od9 an9 od10 an10 od11 an11 od12 an12 od13 an13 od14 an14 od15 an15 od16 an16 : Option Addr} {sl0 sl1 sl2 sl3 sl4 sl5 sl6 sl7 sl8 sl9 sl10 sl11 sl12 sl13 sl14 sl15 sl16 : Array (Option Value)} {oc0 kV0 dc0 pm0 cd0 ct0 oc1 kV1 dc1 pm1 cd1 ct1 oc2 kV2 dc2 pm2 cd2 ct2 oc3 kV3 dc3 pm3 cd3 ct3 oc4 kV4 dc4 pm4 cd4 ct4 oc5 kV5 dc5 pm5 cd5 ct5 oc6 kV6 dc6 pm6 cd6 ct6 oc7 kV7 dc7 pm7 cd7 ct7 oc8 kV8 dc8 pm8 cd8 ct8 oc9 kV9 dc9 pm9 cd9 ct9 oc10 kV10 dc10 pm10 cd10 ct10 oc11 kV11 dc11 pm11 cd11 ct11 oc12 kV12 dc12 pm12 cd12 ct12 oc13 kV13 dc13 pm13 cd13 ct13 oc14 kV14 dc14 pm14 cd14 ct14 oc15 kV15 dc15 pm15 cd15 ct15 oc16 kV16 dc16 pm16 cd16 ct16 : Value} {moT : Tok}
    (aClient : PySem.W.nsIn K mainGlobals "Client" = some (some (.ref cC)))
    (aGroup : PySem.W.nsIn K mainGlobals "Group" = some (some (.ref cG)))
    (a0 : PySem.W.findIn K (.ref cC) "__init__" = some (some (.ref f0)))
    (i0 : PySem.W.isFn K (.ref f0) = true)
    (l0 : K.lookup f0 = some ⟨oc0, od0, .func (PySem.W.fnOf "__init__" "Client.__init__" (defArgs s_Client___init__) (defBody s_Client___init__) (defScope s_Client___init__) .none kV0 dc0 pm0 an0 cd0 ct0), sl0⟩)
    (c0 : PySem.W.codeIn K cd0 "Client.__init__" = true)
    (k0 : PySem.W.keepIn K (.ref f0) = true)
    (a1 : PySem.W.findIn K (.ref cC) "pending" = some (some (.ref f1)))
    (i1 : PySem.W.isFn K (.ref f1) = true)
    (l1 : K.lookup f1 = some ⟨oc1, od1, .func (PySem.W.fnOf "pending" "Client.pending" (defArgs s_Client_pending) (defBody s_Client_pending) (defScope s_Client_pending) .none kV1 dc1 pm1 an1 cd1 ct1), sl1⟩)
    (c1 : PySem.W.codeIn K cd1 "Client.pending" = true)
    (k1 : PySem.W.keepIn K (.ref f1) = true)
    (a2 : PySem.W.findIn K (.ref cC) "accepted" = some (some (.ref f2)))
    (i2 : PySem.W.isFn K (.ref f2) = true)
    (l2 : K.lookup f2 = some ⟨oc2, od2, .func (PySem.W.fnOf "accepted" "Client.accepted" (defArgs s_Client_accepted) (defBody s_Client_accepted) (defScope s_Client_accepted) .none kV2 dc2 pm2 an2 cd2 ct2), sl2⟩)
    (c2 : PySem.W.codeIn K cd2 "Client.accepted" = true)
    (k2 : PySem.W.keepIn K (.ref f2) = true)
    (a3 : PySem.W.findIn K (.ref cC) "waiting" = some (some (.ref f3)))
    (i3 : PySem.W.isFn K (.ref f3) = true)
    (l3 : K.lookup f3 = some ⟨oc3, od3, .func (PySem.W.fnOf "waiting" "Client.waiting" (defArgs s_Client_waiting) (defBody s_Client_waiting) (defScope s_Client_waiting) .none kV3 dc3 pm3 an3 cd3 ct3), sl3⟩)
    (c3 : PySem.W.codeIn K cd3 "Client.waiting" = true)
    (k3 : PySem.W.keepIn K (.ref f3) = true)
    (a4 : PySem.W.findIn K (.ref cC) "tick" = some (some (.ref f4)))
    (i4 : PySem.W.isFn K (.ref f4) = true)
    (l4 : K.lookup f4 = some ⟨oc4, od4, .func (PySem.W.fnOf "tick" "Client.tick" (defArgs s_Client_tick) (defBody s_Client_tick) (defScope s_Client_tick) .none kV4 dc4 pm4 an4 cd4 ct4), sl4⟩)
    (c4 : PySem.W.codeIn K cd4 "Client.tick" = true)
    (k4 : PySem.W.keepIn K (.ref f4) = true)
    (a5 : PySem.W.findIn K (.ref cC) "submit" = some (some (.ref f5)))
    (i5 : PySem.W.isFn K (.ref f5) = true)
    (l5 : K.lookup f5 = some ⟨oc5, od5, .func (PySem.W.fnOf "submit" "Client.submit" (defArgs s_Client_submit) (defBody s_Client_submit) (defScope s_Client_submit) .none kV5 dc5 pm5 an5 cd5 ct5), sl5⟩)
    (c5 : PySem.W.codeIn K cd5 "Client.submit" = true)
    (k5 : PySem.W.keepIn K (.ref f5) = true)
    (a6 : PySem.W.findIn K (.ref cC) "receive" = some (some (.ref f6)))
    (i6 : PySem.W.isFn K (.ref f6) = true)
    (l6 : K.lookup f6 = some ⟨oc6, od6, .func (PySem.W.fnOf "receive" "Client.receive" (defArgs s_Client_receive) (defBody s_Client_receive) (defScope s_Client_receive) .none kV6 dc6 pm6 an6 cd6 ct6), sl6⟩)
    (c6 : PySem.W.codeIn K cd6 "Client.receive" = true)
    (k6 : PySem.W.keepIn K (.ref f6) = true)
    (a7 : PySem.W.findIn K (.ref cG) "__init__" = some (some (.ref f7)))
    (i7 : PySem.W.isFn K (.ref f7) = true)
    (l7 : K.lookup f7 = some ⟨oc7, od7, .func (PySem.W.fnOf "__init__" "Group.__init__" (defArgs s_Group___init__) (defBody s_Group___init__) (defScope s_Group___init__) .none kV7 dc7 pm7 an7 cd7 ct7), sl7⟩)
    (c7 : PySem.W.codeIn K cd7 "Group.__init__" = true)
    (k7 : PySem.W.keepIn K (.ref f7) = true)
    (a8 : PySem.W.findIn K (.ref cG) "members" = some (some (.ref f8)))
    (i8 : PySem.W.isFn K (.ref f8) = true)
    (l8 : K.lookup f8 = some ⟨oc8, od8, .func (PySem.W.fnOf "members" "Group.members" (defArgs s_Group_members) (defBody s_Group_members) (defScope s_Group_members) .none kV8 dc8 pm8 an8 cd8 ct8), sl8⟩)
    (c8 : PySem.W.codeIn K cd8 "Group.members" = true)
    (k8 : PySem.W.keepIn K (.ref f8) = true)
    (a9 : PySem.W.findIn K (.ref cG) "is_member" = some (some (.ref f9)))
    (i9 : PySem.W.isFn K (.ref f9) = true)
    (l9 : K.lookup f9 = some ⟨oc9, od9, .func (PySem.W.fnOf "is_member" "Group.is_member" (defArgs s_Group_is_member) (defBody s_Group_is_member) (defScope s_Group_is_member) .none kV9 dc9 pm9 an9 cd9 ct9), sl9⟩)
    (c9 : PySem.W.codeIn K cd9 "Group.is_member" = true)
    (k9 : PySem.W.keepIn K (.ref f9) = true)
    (a10 : PySem.W.nsIn K mainGlobals "is_integer" = some (some (.ref f10)))
    (l10 : K.lookup f10 = some ⟨oc10, od10, .func (PySem.W.fnOf "is_integer" "is_integer" (defArgs s_is_integer) (defBody s_is_integer) (defScope s_is_integer) .none kV10 dc10 pm10 an10 cd10 ct10), sl10⟩)
    (c10 : PySem.W.codeIn K cd10 "is_integer" = true)
    (k10 : PySem.W.keepIn K (.ref f10) = true)
    (a11 : PySem.W.nsIn K mainGlobals "_law_rich" = some (some (.ref f11)))
    (l11 : K.lookup f11 = some ⟨oc11, od11, .func (PySem.W.fnOf "_law_rich" "_law_rich" (defArgs s__law_rich) (defBody s__law_rich) (defScope s__law_rich) .none kV11 dc11 pm11 an11 cd11 ct11), sl11⟩)
    (c11 : PySem.W.codeIn K cd11 "_law_rich" = true)
    (k11 : PySem.W.keepIn K (.ref f11) = true)
    (a12 : PySem.W.nsIn K mainGlobals "_law_letters" = some (some (.ref f12)))
    (l12 : K.lookup f12 = some ⟨oc12, od12, .func (PySem.W.fnOf "_law_letters" "_law_letters" (defArgs s__law_letters) (defBody s__law_letters) (defScope s__law_letters) .none kV12 dc12 pm12 an12 cd12 ct12), sl12⟩)
    (c12 : PySem.W.codeIn K cd12 "_law_letters" = true)
    (k12 : PySem.W.keepIn K (.ref f12) = true)
    (a13 : PySem.W.nsIn K mainGlobals "_law_receive" = some (some (.ref f13)))
    (l13 : K.lookup f13 = some ⟨oc13, od13, .func (PySem.W.fnOf "_law_receive" "_law_receive" (defArgs s__law_receive) (defBody s__law_receive) (defScope s__law_receive) .none kV13 dc13 pm13 an13 cd13 ct13), sl13⟩)
    (c13 : PySem.W.codeIn K cd13 "_law_receive" = true)
    (k13 : PySem.W.keepIn K (.ref f13) = true)
    (a14 : PySem.W.nsIn K mainGlobals "_law_call" = some (some (.ref f14)))
    (l14 : K.lookup f14 = some ⟨oc14, od14, .func (PySem.W.fnOf "_law_call" "_law_call" (defArgs s__law_call) (defBody s__law_call) (defScope s__law_call) .none kV14 dc14 pm14 an14 cd14 ct14), sl14⟩)
    (c14 : PySem.W.codeIn K cd14 "_law_call" = true)
    (k14 : PySem.W.keepIn K (.ref f14) = true)
    (a15 : PySem.W.nsIn K mainGlobals "_law_same" = some (some (.ref f15)))
    (l15 : K.lookup f15 = some ⟨oc15, od15, .func (PySem.W.fnOf "_law_same" "_law_same" (defArgs s__law_same) (defBody s__law_same) (defScope s__law_same) .none kV15 dc15 pm15 an15 cd15 ct15), sl15⟩)
    (c15 : PySem.W.codeIn K cd15 "_law_same" = true)
    (k15 : PySem.W.keepIn K (.ref f15) = true)
    (a16 : PySem.W.nsIn K mainGlobals "law" = some (some (.ref f16)))
    (l16 : K.lookup f16 = some ⟨oc16, od16, .func (PySem.W.fnOf "law" "law" (defArgs s_law) (defBody s_law) (defScope s_law) .none kV16 dc16 pm16 an16 cd16 ct16), sl16⟩)
    (c16 : PySem.W.codeIn K cd16 "law" = true)
    (k16 : PySem.W.keepIn K (.ref f16) = true)
    (pgClient : PySem.W.plainGet K cC Str.empty = true)
    (hdClient : PySem.W.hasDictIn K cC = true)
    (poClient : PySem.W.plainOver K cC = true)
    (saClient : PySem.W.findIn K (.ref cC) "__setattr__" = some (some (.builtin "object.__setattr__")))
    (mkClient : PySem.W.makesIn K cC = true)
    (kcClient : PySem.W.keepIn K (.ref cC) = true)
    (n_group : PySem.W.findIn K (.ref cC) "group" = some none)
    (n_name : PySem.W.findIn K (.ref cC) "name" = some none)
    (n_texts : PySem.W.findIn K (.ref cC) "texts" = some none)
    (n_done : PySem.W.findIn K (.ref cC) "done" = some none)
    (n_heard : PySem.W.findIn K (.ref cC) "heard" = some none)
    (pgGroup : PySem.W.plainGet K cG Str.empty = true)
    (hdGroup : PySem.W.hasDictIn K cG = true)
    (poGroup : PySem.W.plainOver K cG = true)
    (saGroup : PySem.W.findIn K (.ref cG) "__setattr__" = some (some (.builtin "object.__setattr__")))
    (mkGroup : PySem.W.makesIn K cG = true)
    (kcGroup : PySem.W.keepIn K (.ref cG) = true)
    (n_faults : PySem.W.findIn K (.ref cG) "faults" = some none)
    (n_machines : PySem.W.findIn K (.ref cG) "machines" = some none)
    (n_quorum : PySem.W.findIn K (.ref cG) "quorum" = some none)
    (n_blocking : PySem.W.findIn K (.ref cG) "blocking" = some none)
    (aMO : PySem.W.nsIn K mainGlobals "MOST_FAULTS" = some (some (.int 10 moT)))
    (z_len : PySem.W.nsIn K mainGlobals "len" = some none)
    (z_range : PySem.W.nsIn K mainGlobals "range" = some none)
    (z_max : PySem.W.nsIn K mainGlobals "max" = some none)
    (z_int : PySem.W.nsIn K mainGlobals "int" = some none)
    (z_bool : PySem.W.nsIn K mainGlobals "bool" = some none)
    (z_list : PySem.W.nsIn K mainGlobals "list" = some none)
    (z_isinstance : PySem.W.nsIn K mainGlobals "isinstance" = some none) :
    ∃ fd : FuncData, (∀ (s : Shared) (v : Value), BindsTo s fd ⟨[v], []⟩ [("script", v)]) ∧ ∀ base : Heap, K.In base → base.Ns mainGlobals mg → FnOk l.prog w K mg base CX0 5 fa fd ["script"] (spLaw K) := by
  have e := hfa.symm.trans (PySem.W.mg_of X G a16)
  cases e
  have F0 := fun_mk (st := s_Client___init__) l0 c0 k0
  have b0 := F0.binds (ps := ["self", "group", "name"]) fun _ _ _ _ _ _ us hl => match us, hl with | [_, _, _], _ => rfl
  have F1 := fun_mk (st := s_Client_pending) l1 c1 k1
  have b1 := F1.binds (ps := ["self"]) fun _ _ _ _ _ _ us hl => match us, hl with | [_], _ => rfl
  have F2 := fun_mk (st := s_Client_accepted) l2 c2 k2
  have b2 := F2.binds (ps := ["self"]) fun _ _ _ _ _ _ us hl => match us, hl with | [_], _ => rfl
  have F3 := fun_mk (st := s_Client_waiting) l3 c3 k3
  have b3 := F3.binds (ps := ["self"]) fun _ _ _ _ _ _ us hl => match us, hl with | [_], _ => rfl
  have F4 := fun_mk (st := s_Client_tick) l4 c4 k4
  have b4 := F4.binds (ps := ["self"]) fun _ _ _ _ _ _ us hl => match us, hl with | [_], _ => rfl
  have F5 := fun_mk (st := s_Client_submit) l5 c5 k5
  have b5 := F5.binds (ps := ["self", "text"]) fun _ _ _ _ _ _ us hl => match us, hl with | [_, _], _ => rfl
  have F6 := fun_mk (st := s_Client_receive) l6 c6 k6
  have b6 := F6.binds (ps := ["self", "sender", "letter"]) fun _ _ _ _ _ _ us hl => match us, hl with | [_, _, _], _ => rfl
  have F7 := fun_mk (st := s_Group___init__) l7 c7 k7
  have b7 := F7.binds (ps := ["self", "faults"]) fun _ _ _ _ _ _ us hl => match us, hl with | [_, _], _ => rfl
  have F8 := fun_mk (st := s_Group_members) l8 c8 k8
  have b8 := F8.binds (ps := ["self"]) fun _ _ _ _ _ _ us hl => match us, hl with | [_], _ => rfl
  have F9 := fun_mk (st := s_Group_is_member) l9 c9 k9
  have b9 := F9.binds (ps := ["self", "value"]) fun _ _ _ _ _ _ us hl => match us, hl with | [_, _], _ => rfl
  have F10 := fun_mk (st := s_is_integer) l10 c10 k10
  have b10 := F10.binds (ps := ["value", "least", "greatest"]) fun _ _ _ _ _ _ us hl => match us, hl with | [_, _, _], _ => rfl
  have F11 := fun_mk (st := s__law_rich) l11 c11 k11
  have b11 := F11.binds (ps := ["cell", "k"]) fun _ _ _ _ _ _ us hl => match us, hl with | [_, _], _ => rfl
  have F12 := fun_mk (st := s__law_letters) l12 c12 k12
  have b12 := F12.binds (ps := ["model", "machines"]) fun _ _ _ _ _ _ us hl => match us, hl with | [_, _], _ => rfl
  have F13 := fun_mk (st := s__law_receive) l13 c13 k13
  have b13 := F13.binds (ps := ["model", "machines", "sender", "letter"]) fun _ _ _ _ _ _ us hl => match us, hl with | [_, _, _, _], _ => rfl
  have F14 := fun_mk (st := s__law_call) l14 c14 k14
  have b14 := F14.binds (ps := ["client", "model", "machines", "rich"]) fun _ _ _ _ _ _ us hl => match us, hl with | [_, _, _, _], _ => rfl
  have F15 := fun_mk (st := s__law_same) l15 c15 k15
  have b15 := F15.binds (ps := ["client", "model"]) fun _ _ _ _ _ _ us hl => match us, hl with | [_, _], _ => rfl
  have F16 := fun_mk (st := s_law) l16 c16 k16
  have b16 := F16.binds (ps := ["script"]) fun _ _ _ _ _ _ us hl => match us, hl with | [_], _ => rfl
  let T : Txt K mg := {
    cC := cC, cG := cG, cl_Client := ⟨pgClient, hdClient, poClient, saClient⟩, cl_Group := ⟨pgGroup, hdGroup, poGroup, saGroup⟩
    d_Client___init__ := ⟨f0, _, F0, ⟨a0, i0, k0⟩, b0⟩
    d_Client_pending := ⟨f1, _, F1, ⟨a1, i1, k1⟩, b1⟩
    d_Client_accepted := ⟨f2, _, F2, ⟨a2, i2, k2⟩, b2⟩
    d_Client_waiting := ⟨f3, _, F3, ⟨a3, i3, k3⟩, b3⟩
    d_Client_tick := ⟨f4, _, F4, ⟨a4, i4, k4⟩, b4⟩
    d_Client_submit := ⟨f5, _, F5, ⟨a5, i5, k5⟩, b5⟩
    d_Client_receive := ⟨f6, _, F6, ⟨a6, i6, k6⟩, b6⟩
    d_Group___init__ := ⟨f7, _, F7, ⟨a7, i7, k7⟩, b7⟩
    d_Group_members := ⟨f8, _, F8, ⟨a8, i8, k8⟩, b8⟩
    d_Group_is_member := ⟨f9, _, F9, ⟨a9, i9, k9⟩, b9⟩
    d_is_integer := ⟨f10, _, F10, PySem.W.mg_of X G a10, b10⟩
    d__law_rich := ⟨f11, _, F11, PySem.W.mg_of X G a11, b11⟩
    d__law_letters := ⟨f12, _, F12, PySem.W.mg_of X G a12, b12⟩
    d__law_receive := ⟨f13, _, F13, PySem.W.mg_of X G a13, b13⟩
    d__law_call := ⟨f14, _, F14, PySem.W.mg_of X G a14, b14⟩
    d__law_same := ⟨f15, _, F15, PySem.W.mg_of X G a15, b15⟩
    d_law := ⟨fa, _, F16, PySem.W.mg_of X G a16, b16⟩
    mk_Client := ⟨mkClient, a0, i0, kcClient⟩, mk_Group := ⟨mkGroup, a7, i7, kcGroup⟩
    mg_Client := PySem.W.mg_of X G aClient, mg_Group := PySem.W.mg_of X G aGroup
    moT := moT, c_MOST_FAULTS := PySem.W.mg_of X G aMO
    n_group := n_group
    n_name := n_name
    n_texts := n_texts
    n_done := n_done
    n_heard := n_heard
    n_faults := n_faults
    n_machines := n_machines
    n_quorum := n_quorum
    n_blocking := n_blocking
    b_len := PySem.W.mg_none_of X G z_len
    b_range := PySem.W.mg_none_of X G z_range
    b_max := PySem.W.mg_none_of X G z_max
    b_int := PySem.W.mg_none_of X G z_int
    b_bool := PySem.W.mg_none_of X G z_bool
    b_list := PySem.W.mg_none_of X G z_list
    b_isinstance := PySem.W.mg_none_of X G z_isinstance
    }
  exact ⟨_, fun s v => .of_eq rfl, fun base _ _ => ok_law T⟩
theorem walk {l : PySem.W.OpenLaw} {q : Program} {loose : List Str} {XP : (Str → Option Value) → Heap → Prop} {YP : World → Heap → Prop} {d : DefRec} {K : Params → PySem.W.Frag} (hn : l.most = some 63) (hdf : d.params.defaults = [])
    (hY : ∀ (w : World) (h : Heap), YP w h → (K w.params).In h)
    (F : ∀ (w : World) (mg : Str → Option Value) (fa : Addr) (h : Heap), (K w.params).In h → h.Ns mainGlobals mg → mg d.name = some (.ref fa) →
      ∃ fd : FuncData, (∀ (s : Shared) (u : Value), BindsTo s fd ⟨[u], []⟩ [("script", u)]) ∧ ∀ base : Heap, (K w.params).In base → base.Ns mainGlobals mg → FnOk l.prog w (K w.params) mg base CX0 5 fa fd ["script"] (spLaw (K w.params))) :
    PySem.W.WalkO q loose XP YP l.row.toRowW d [] (fun f vs => PySem.call f vs) :=
  L2.walk_of (n := 63) (k := 5) (x := "script") (CX := fun _ => CX0) (sp := fun w => spLaw (K w.params)) hn (by decide) hdf ⟨rfl, by decide, by decide⟩ hY F (fun _ _ a ns hl _ hS => ⟨a, ns, rfl, hS, hl, fun _ => rfl⟩) fun _ _ _ _ _ z => z
end My

open PySem PySem.W PyProof.Rows in
set_option maxRecDepth 100000 in
set_option maxHeartbeats 0 in
theorem PySem.Challenge.cw_oathledger_k69_client_counts_answers_holds : PySem.Challenge.rw_oathledger_k69_client_counts_answers.Holds := by
  w_on; o_law; k_head; (case hw => w_witness2)
  k_fill
  refine My.walk (l := PySem.Challenge.rw_oathledger_k69_client_counts_answers) rfl rfl (fun w h Y => PySem.W.kIn_of Y) ?F
  case F =>
    intro w mg fa h KX G hmg
    refine' My.all_mk KX G hmg ?aClient ?aGroup ?a0 ?i0 ?l0 ?c0 ?k0 ?a1 ?i1 ?l1 ?c1 ?k1 ?a2 ?i2 ?l2 ?c2 ?k2 ?a3 ?i3 ?l3 ?c3 ?k3 ?a4 ?i4 ?l4 ?c4 ?k4 ?a5 ?i5 ?l5 ?c5 ?k5 ?a6 ?i6 ?l6 ?c6 ?k6 ?a7 ?i7 ?l7 ?c7 ?k7 ?a8 ?i8 ?l8 ?c8 ?k8 ?a9 ?i9 ?l9 ?c9 ?k9 ?a10 ?l10 ?c10 ?k10 ?a11 ?l11 ?c11 ?k11 ?a12 ?l12 ?c12 ?k12 ?a13 ?l13 ?c13 ?k13 ?a14 ?l14 ?c14 ?k14 ?a15 ?l15 ?c15 ?k15 ?a16 ?l16 ?c16 ?k16 ?pgClient ?hdClient ?poClient ?saClient ?mkClient ?kcClient ?n_group ?n_name ?n_texts ?n_done ?n_heard ?pgGroup ?hdGroup ?poGroup ?saGroup ?mkGroup ?kcGroup ?n_faults ?n_machines ?n_quorum ?n_blocking ?aMO ?z_len ?z_range ?z_max ?z_int ?z_bool ?z_list ?z_isinstance
    (case aClient => k_is)
    (case aGroup => k_is)
    (case a0 => k_is)
    (case i0 => k_is)
    (case l0 => k_is)
    (case c0 => k_is)
    (case k0 => k_is)
    (case a1 => k_is)
    (case i1 => k_is)
    (case l1 => k_is)
    (case c1 => k_is)
    (case k1 => k_is)
    (case a2 => k_is)
    (case i2 => k_is)
    (case l2 => k_is)
    (case c2 => k_is)
    (case k2 => k_is)
    (case a3 => k_is)
    (case i3 => k_is)
    (case l3 => k_is)
    (case c3 => k_is)
    (case k3 => k_is)
    (case a4 => k_is)
    (case i4 => k_is)
    (case l4 => k_is)
    (case c4 => k_is)
    (case k4 => k_is)
    (case a5 => k_is)
    (case i5 => k_is)
    (case l5 => k_is)
    (case c5 => k_is)
    (case k5 => k_is)
    (case a6 => k_is)
    (case i6 => k_is)
    (case l6 => k_is)
    (case c6 => k_is)
    (case k6 => k_is)
    (case a7 => k_is)
    (case i7 => k_is)
    (case l7 => k_is)
    (case c7 => k_is)
    (case k7 => k_is)
    (case a8 => k_is)
    (case i8 => k_is)
    (case l8 => k_is)
    (case c8 => k_is)
    (case k8 => k_is)
    (case a9 => k_is)
    (case i9 => k_is)
    (case l9 => k_is)
    (case c9 => k_is)
    (case k9 => k_is)
    (case a10 => k_is)
    (case l10 => k_is)
    (case c10 => k_is)
    (case k10 => k_is)
    (case a11 => k_is)
    (case l11 => k_is)
    (case c11 => k_is)
    (case k11 => k_is)
    (case a12 => k_is)
    (case l12 => k_is)
    (case c12 => k_is)
    (case k12 => k_is)
    (case a13 => k_is)
    (case l13 => k_is)
    (case c13 => k_is)
    (case k13 => k_is)
    (case a14 => k_is)
    (case l14 => k_is)
    (case c14 => k_is)
    (case k14 => k_is)
    (case a15 => k_is)
    (case l15 => k_is)
    (case c15 => k_is)
    (case k15 => k_is)
    (case a16 => k_is)
    (case l16 => k_is)
    (case c16 => k_is)
    (case k16 => k_is)
    (case pgClient => k_is)
    (case hdClient => k_is)
    (case poClient => k_is)
    (case saClient => k_is)
    (case mkClient => k_is)
    (case kcClient => k_is)
    (case n_group => k_is)
    (case n_name => k_is)
    (case n_texts => k_is)
    (case n_done => k_is)
    (case n_heard => k_is)
    (case pgGroup => k_is)
    (case hdGroup => k_is)
    (case poGroup => k_is)
    (case saGroup => k_is)
    (case mkGroup => k_is)
    (case kcGroup => k_is)
    (case n_faults => k_is)
    (case n_machines => k_is)
    (case n_quorum => k_is)
    (case n_blocking => k_is)
    (case aMO => k_is)
    (case z_len => k_is)
    (case z_range => k_is)
    (case z_max => k_is)
    (case z_int => k_is)
    (case z_bool => k_is)
    (case z_list => k_is)
    (case z_isinstance => k_is)
#print axioms PySem.Challenge.cw_oathledger_k69_client_counts_answers_holds
