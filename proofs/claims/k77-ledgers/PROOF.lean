import PyProof.Rows.All
import Wide.All
import OpenK.AllK
import Wide.FinOn
import HandS.ForMost
import HandS.Deep
import HandS.TupAny
import HandS.DictComp
import HandS.Evl
import PySem.Challenge.RW_oathledger_k77_ledgers_compared
set_option Elab.async false
set_option linter.all false
set_option maxRecDepth 100000
set_option maxHeartbeats 4000000
namespace My
open PySem L2

/-! ### data that never changes -/
mutual
inductive Tp (H : Hp) : V → PyData → Prop
  | non : Tp H .non .none
  | bl (b : Bool) : Tp H (.bl b) (.bool b)
  | int (i : Int) : Tp H (.int i) (.int i)
  | str (x : Str) : Tp H (.str x) (.str x)
  | tup {a : Addr} {xs : List V} {ds : List PyData} (h : H a = some (.tup xs)) (hs : TpA H xs ds) : Tp H (.ref a) (.tuple ds)
inductive TpA (H : Hp) : List V → List PyData → Prop
  | nil : TpA H [] []
  | cons {v : V} {vs : List V} {d : PyData} {ds : List PyData} (h : Tp H v d) (hs : TpA H vs ds) : TpA H (v :: vs) (d :: ds)
end
/-- every tuple stays -/
def TLe (H H' : Hp) : Prop := ∀ a xs, H a = some (.tup xs) → H' a = some (.tup xs)
theorem TLe.refl (H : Hp) : TLe H H := fun _ _ h => h
theorem TLe.trans {H H1 H2 : Hp} (a : TLe H H1) (b : TLe H1 H2) : TLe H H2 := fun x xs h => b x xs (a x xs h)
mutual
theorem Tp.mono {H H' : Hp} (e : TLe H H') : ∀ {v : V} {d : PyData}, Tp H v d → Tp H' v d
  | _, _, .non => .non
  | _, _, .bl b => .bl b
  | _, _, .int i => .int i
  | _, _, .str x => .str x
  | _, _, .tup h hs => .tup (e _ _ h) (TpA.mono e hs)
theorem TpA.mono {H H' : Hp} (e : TLe H H') : ∀ {vs : List V} {ds : List PyData}, TpA H vs ds → TpA H' vs ds
  | _, _, .nil => .nil
  | _, _, .cons h hs => .cons (Tp.mono e h) (TpA.mono e hs)
end
mutual
theorem Tp.dp {K : PySem.W.Frag} {H : Hp} : ∀ {v : V} {d : PyData}, Tp H v d → Dp K H v d
  | _, _, .non => .non
  | _, _, .bl b => .bl b
  | _, _, .int i => .int i
  | _, _, .str x => .str x
  | _, _, .tup h hs => .tup (SqT.of h) (TpA.dp hs)
theorem TpA.dp {K : PySem.W.Frag} {H : Hp} : ∀ {vs : List V} {ds : List PyData}, TpA H vs ds → DpAll K H vs ds
  | _, _, .nil => .nil
  | _, _, .cons h hs => .cons (Tp.dp h) (TpA.dp hs)
end
theorem TpA.len {H : Hp} : ∀ {vs : List V} {ds : List PyData}, TpA H vs ds → vs.length = ds.length
  | _, _, .nil => rfl
  | _, _, .cons _ hs => congrArg (· + 1) (TpA.len hs)
theorem TpA.get {H : Hp} : ∀ {vs : List V} {ds : List PyData} {i : Nat} {d : PyData}, TpA H vs ds → ds[i]? = some d → ∃ v, vs[i]? = some v ∧ Tp H v d
  | _, _, 0, d, .cons h _, e => by
    have e' := Option.some.inj e
    subst e'
    exact ⟨_, rfl, h⟩
  | _, _, i + 1, d, .cons _ hs, e => by
    obtain ⟨v, h1, h2⟩ := TpA.get (i := i) hs (by simpa using e)
    exact ⟨v, by simpa using h1, h2⟩
theorem TpA.getV {H : Hp} : ∀ {vs : List V} {ds : List PyData} {i : Nat} {v : V}, TpA H vs ds → vs[i]? = some v → ∃ d, ds[i]? = some d ∧ Tp H v d
  | _, _, 0, v, .cons h _, e => by
    have e' := Option.some.inj e
    subst e'
    exact ⟨_, rfl, h⟩
  | _, _, i + 1, v, .cons _ hs, e => by
    obtain ⟨d, h1, h2⟩ := TpA.getV (i := i) hs (by simpa using e)
    exact ⟨d, by simpa using h1, h2⟩
theorem TpA.app {H : Hp} : ∀ {vs ws : List V} {ds es : List PyData}, TpA H vs ds → TpA H ws es → TpA H (vs ++ ws) (ds ++ es)
  | _, _, _, _, .nil, b => b
  | _, _, _, _, .cons h hs, b => .cons h (TpA.app hs b)
theorem TpA.snoc {H : Hp} {vs : List V} {ds : List PyData} {v : V} {d : PyData} (a : TpA H vs ds) (h : Tp H v d) : TpA H (vs ++ [v]) (ds ++ [d]) := a.app (.cons h .nil)
theorem TpA.take {H : Hp} : ∀ {vs : List V} {ds : List PyData} (n : Nat), TpA H vs ds → TpA H (vs.take n) (ds.take n)
  | _, _, 0, _ => by simpa using TpA.nil
  | _, _, n + 1, .nil => .nil
  | _, _, n + 1, .cons h hs => .cons h (TpA.take n hs)
theorem TpA.drop {H : Hp} : ∀ {vs : List V} {ds : List PyData} (n : Nat), TpA H vs ds → TpA H (vs.drop n) (ds.drop n)
  | _, _, 0, a => a
  | _, _, n + 1, .nil => .nil
  | _, _, n + 1, .cons h hs => TpA.drop n hs
theorem TpA.set {H : Hp} : ∀ {vs : List V} {ds : List PyData} (n : Nat) {v : V} {d : PyData}, TpA H vs ds → Tp H v d → TpA H (vs.set n v) (ds.set n d)
  | _, _, _, _, _, .nil, _ => .nil
  | _, _, 0, _, _, .cons _ hs, h => .cons h hs
  | _, _, n + 1, _, _, .cons h0 hs, h => .cons h0 (TpA.set n hs h)
theorem tupI {H : Hp} {v : V} {ds : List PyData} (h : Tp H v (.tuple ds)) : ∃ a xs, v = .ref a ∧ H a = some (.tup xs) ∧ TpA H xs ds := by
  cases h with
  | tup h hs => exact ⟨_, _, rfl, h, hs⟩
theorem intI {H : Hp} {v : V} {i : Int} (h : Tp H v (.int i)) : v = .int i := by cases h; rfl
theorem strI {H : Hp} {v : V} {x : Str} (h : Tp H v (.str x)) : v = .str x := by cases h; rfl
theorem noneI {H : Hp} {v : V} (h : Tp H v .none) : v = .non := by cases h; rfl
theorem nilI {H : Hp} {vs : List V} (h : TpA H vs []) : vs = [] := by cases h; rfl
theorem consI {H : Hp} {vs : List V} {d : PyData} {ds : List PyData} (h : TpA H vs (d :: ds)) : ∃ v r, vs = v :: r ∧ Tp H v d ∧ TpA H r ds := by
  cases h with
  | cons h hs => exact ⟨_, _, rfl, h, hs⟩
theorem tpInts {H : Hp} : ∀ ns : List Int, TpA H (ns.map V.int) (ns.map PyData.int)
  | [] => .nil
  | n :: ns => .cons (.int n) (tpInts ns)

/-! ### a step of the heap: all but S as it was, tuples stay -/
structure Stp (S : List Addr) (H H' : Hp) : Prop where
  fx : ∀ b o, b ∉ S → H b = some o → H' b = some o
  tl : TLe H H'
theorem Stp.refl (S : List Addr) (H : Hp) : Stp S H H := ⟨fun _ _ _ h => h, .refl H⟩
theorem Stp.trans {S : List Addr} {H H1 H2 : Hp} (a : Stp S H H1) (b : Stp S H1 H2) : Stp S H H2 := ⟨fun x o n h => b.fx x o n (a.fx x o n h), a.tl.trans b.tl⟩
theorem Stp.new {S : List Addr} {H : Hp} {p : Addr} {o : HO} (h : H p = none) : Stp S H (upd H p o) :=
  ⟨fun b u _ e => by rw [upd_ne (ne_of_none e h)]; exact e, fun b u e => by rw [upd_ne (ne_of_none e h)]; exact e⟩
theorem Stp.wr {S : List Addr} {H : Hp} {l : Addr} {o u : HO} (h : H l = some u) (hu : ∀ xs, u ≠ .tup xs) (hl : l ∈ S) : Stp S H (upd H l o) :=
  ⟨fun b v n e => by rw [upd_ne (fun z => n (by rw [z]; exact hl))]; exact e, fun b xs e => by rw [upd_ne (ne_of e h (Ne.symm (hu xs)))]; exact e⟩
theorem Stp.wl {S : List Addr} {H : Hp} {l : Addr} {o : HO} {xs : List V} (h : H l = some (.lst xs)) (hl : l ∈ S) : Stp S H (upd H l o) := .wr h (fun _ z => nomatch z) hl
theorem Stp.mono {S S' : List Addr} {H H' : Hp} (a : Stp S H H') (h : ∀ b ∈ S, b ∈ S') : Stp S' H H' := ⟨fun b o n e => a.fx b o (fun z => n (h b z)) e, a.tl⟩
theorem Stp.up {S : List Addr} {H H' : Hp} (a : Stp [] H H') : Stp S H H' := a.mono fun _ z => nomatch z
/-- an object that the beginning does not know may be written -/
theorem Stp.own {S : List Addr} {H H' : Hp} {l : Addr} {o : HO} {xs : List V} (a : Stp S H H') (h0 : H l = none) (h : H' l = some (.lst xs)) : Stp S H (upd H' l o) :=
  ⟨fun b v n e => by rw [upd_ne (ne_of_none e h0)]; exact a.fx b v n e, fun b ys e => by rw [upd_ne (ne_of_none e h0)]; exact a.tl b ys e⟩
theorem Stp.ownD {S : List Addr} {H H' : Hp} {l : Addr} {o : HO} (a : Stp S H H') (h0 : H l = none) : Stp S H (upd H' l o) :=
  ⟨fun b v n e => by rw [upd_ne (ne_of_none e h0)]; exact a.fx b v n e, fun b ys e => by rw [upd_ne (ne_of_none e h0)]; exact a.tl b ys e⟩
theorem Stp.sql {K : PySem.W.Frag} {S : List Addr} {H H' : Hp} {a : Addr} {xs : List V} (e : Stp S H H') (ha : a ∉ S) (h : SqL K H a xs) : SqL K H' a xs := by
  rcases h with (h | ⟨o, h⟩) | h
  · exact .inl (.inl (e.fx _ _ ha h))
  · exact .inl (.inr ⟨o, e.fx _ _ ha h⟩)
  · exact .inr h
theorem Stp.back {S : List Addr} {H H' : Hp} {p : Addr} (e : Stp S H H') (hp : p ∉ S) (h : H' p = none) : H p = none := by
  cases q : H p with
  | none => rfl
  | some o => rw [e.fx p o hp q] at h; cases h
/-- a list that the loops leave as it is -/
def Ls (S : List Addr) (H : Hp) (a : Addr) (xs : List V) : Prop := a ∉ S ∧ H a = some (.lst xs)
theorem Ls.mono {S : List Addr} {H H' : Hp} {a : Addr} {xs : List V} (h : Ls S H a xs) (e : Stp S H H') : Ls S H' a xs := ⟨h.1, e.fx _ _ h.1 h.2⟩
theorem Ls.sql {K : PySem.W.Frag} {S : List Addr} {H : Hp} {a : Addr} {xs : List V} (h : Ls S H a xs) : SqL K H a xs := .of h.2

/-! ### a new place -/
structure Nw (H : Hp) (p : Addr) : Prop where
  h : H p = none
theorem Nw.ne1 {H : Hp} {a b : Addr} {o : HO} (n : Nw H b) (h : H a = some o) : a ≠ b := ne_of_none h n.h
theorem Nw.ne2 {H : Hp} {a b : Addr} {o : HO} (n : Nw H b) (h : H a = some o) : b ≠ a := (ne_of_none h n.h).symm
theorem Nw.ne3 {H : Hp} {a b : Addr} {o : HO} (n : Nw (upd H a o) b) : a ≠ b := ne_of_none upd_same n.h
theorem Nw.back {H : Hp} {a b : Addr} {o : HO} (n : Nw (upd H a o) b) : Nw H b := ⟨by have h := n.h; rw [upd_ne (Ne.symm n.ne3)] at h; exact h⟩
theorem Nw.bk {S : List Addr} {H H' : Hp} {p : Addr} (n : Nw H' p) (e : Stp S H H') (hp : p ∉ S) : Nw H p := ⟨e.back hp n.h⟩

/-! ### rules for a search -/
section
variable {S : List Addr} {H H1 H2 : Hp} {a b p l : Addr} {o u : HO} {xs ys : List V} {K : PySem.W.Frag}
theorem s_ne1 (h' : H b = none) (h : H a = some o) : a ≠ b := ne_of_none h h'
theorem s_ne2 (h' : H b = none) (h : H a = some o) : b ≠ a := (ne_of_none h h').symm
theorem s_ne3 (h : upd H b o a = none) : a ≠ b := fun e => by rw [e, upd_same] at h; cases h
theorem s_ne4 (h : upd H b o a = none) : b ≠ a := (s_ne3 h).symm
theorem s_ls (h : Ls (b :: S) H a xs) : a ≠ b := fun e => h.1 (by rw [e]; exact List.mem_cons_self)
theorem s_ls' (h : Ls (b :: S) H a xs) : b ≠ a := (s_ls h).symm
theorem s_hp (h : a ≠ b) (h' : H a = some o) : upd H b u a = some o := (upd_ne h).trans h'
theorem s_lsh (h : Ls S H a xs) : H a = some (.lst xs) := h.2
theorem s_fx0 (e : Stp [] H H1) (h : H a = some o) : H1 a = some o := e.fx _ _ (fun z => nomatch z) h
theorem s_fx1 (e : Stp [b] H H1) (n : a ≠ b) (h : H a = some o) : H1 a = some o := e.fx _ _ (by simpa using n) h
theorem s_tl (e : Stp S H H1) (h : H a = some (.tup xs)) : H1 a = some (.tup xs) := e.tl _ _ h
theorem s_bk (h : upd H b o a = none) : H a = none := by
  rw [upd_ne (s_ne3 h)] at h; exact h
theorem s_bk0 (e : Stp [] H H1) (h : H1 p = none) : H p = none := e.back (fun z => nomatch z) h
theorem s_bk1 (e : Stp [b] H H1) (hb : H1 b = some o) (h : H1 p = none) : H p = none := e.back (by simpa using s_ne2 h hb) h
theorem s_newN (e : Stp S H H1) (h : Nw H1 p) : Stp S H (upd H1 p o) := e.trans (.new h.h)
theorem s_ownN (e : Stp S H H1) (h0 : Nw H l) (h : H1 l = some (.lst xs)) : Stp S H (upd H1 l o) := e.own h0.h h
theorem s_ownDN (e : Stp S H H1) (h0 : Nw H l) : Stp S H (upd H1 l o) := e.ownD h0.h
theorem s_new (e : Stp S H H1) (h : H1 p = none) : Stp S H (upd H1 p o) := e.trans (.new h)
theorem s_wl (e : Stp S H H1) (h : H1 l = some (.lst xs)) (hl : l ∈ S) : Stp S H (upd H1 l o) := e.trans (.wl h hl)
theorem s_own (e : Stp S H H1) (h0 : H l = none) (h : H1 l = some (.lst xs)) : Stp S H (upd H1 l o) := e.own h0 h
theorem s_lm (h : Ls S H a xs) (e : Stp S H H1) : Ls S H1 a xs := h.mono e
theorem s_lsq (h : Ls S H a xs) : SqL K H a xs := h.sql
theorem s_sq (h : H a = some (.lst xs)) : SqL K H a xs := .of h
theorem s_sq0 (e : Stp [] H H1) (h : SqL K H a xs) : SqL K H1 a xs := e.sql (fun z => nomatch z) h
theorem s_lsi (h : H a = some (.lst xs)) (n : a ≠ b) : Ls [b] H a xs := ⟨by simpa using n, h⟩
end

/-! ### the first that is found -/
def fs {α : Type} : Nat → (Nat → Option α) → Option α
  | 0, _ => none
  | n + 1, f => match fs n f with
    | some x => some x
    | none => f n
theorem fs_none {α : Type} {f : Nat → Option α} : ∀ {n : Nat}, (∀ j, j < n → f j = none) → fs n f = none
  | 0, _ => rfl
  | n + 1, h => by
    show (match fs n f with | some x => some x | none => f n) = none
    rw [fs_none fun j hj => h j (Nat.lt_succ_of_lt hj)]
    exact h n (Nat.lt_succ_self n)
theorem fs_some {α : Type} {f : Nat → Option α} {i : Nat} {x : α} : ∀ {n : Nat}, (∀ j, j < i → f j = none) → i < n → f i = some x → fs n f = some x
  | 0, _, hi, _ => absurd hi (Nat.not_lt_zero _)
  | n + 1, h, hi, e => by
    show (match fs n f with | some x => some x | none => f n) = some x
    by_cases q : i = n
    · subst q
      rw [fs_none h]; exact e
    · rw [fs_some h (by omega) e]

/-! ### equality of data -/
theorem eqvAll_nil : PyData.eqvAll [] [] = true := by rw [PyData.eqvAll]
theorem eqvAll_cons (x y : PyData) (xs ys : List PyData) : PyData.eqvAll (x :: xs) (y :: ys) = (PyData.eqv x y && PyData.eqvAll xs ys) := by rw [PyData.eqvAll]
theorem eqv_tup (xs ys : List PyData) : PyData.eqv (.tuple xs) (.tuple ys) = PyData.eqvAll xs ys := by rw [PyData.eqv]
theorem eqv_lst (xs ys : List PyData) : PyData.eqv (.list xs) (.list ys) = PyData.eqvAll xs ys := by rw [PyData.eqv]
theorem eqv_int (i j : Int) : PyData.eqv (.int i) (.int j) = decide (i = j) := by rw [PyData.eqv]; exact Bool.beq_eq_decide_eq i j
theorem eqv_str (i j : Str) : PyData.eqv (.str i) (.str j) = decide (i = j) := by rw [PyData.eqv]; exact Bool.beq_eq_decide_eq i j
theorem shaped_of {d : PyData} (h : d.canLay0 = true) (hd : d.depth ≤ 64) : SeqAt.shaped d = true := by
  unfold SeqAt.shaped
  rw [h, decide_eq_true hd]; rfl

/-! ### the readings of built-ins, by name -/
section
variable {X : Cx}
def rLen (K : PySem.W.Frag) : List V → Hp → VK → Prop := fun xs H Q => ∃ p ys, xs = [.ref p] ∧ (SqL K H p ys ∨ SqT K H p ys) ∧ Q (.int ys.length) H
theorem c_len : CallR X (.builtin "len") (rLen X.K) := call_len_seq
def rLenS : List V → Hp → VK → Prop := fun xs H Q => ∃ z, xs = [.str z] ∧ z.length ≤ sizeLine ∧ Q (.int z.length) H
theorem c_lenS : CallR X (.builtin "len") rLenS := call_len_str
def rLenD : List V → Hp → VK → Prop := fun xs H Q => ∃ a kvs, xs = [V.ref a] ∧ H a = some (.dK kvs) ∧ Q (.int kvs.length) H
theorem c_lenD : CallR X (.builtin "len") rLenD := call_lenD
def rInt : List V → Hp → VK → Prop := fun xs H Q => (∃ i, xs = [.int i] ∧ Q (.int i) H) ∨ ∃ k, xs = [.bl k] ∧ Q (.int (if k then 1 else 0)) H
theorem c_int : CallR X (.type "int") rInt := call_int1
def rAbs : List V → Hp → VK → Prop := fun xs H Q => ∃ i, xs = [.int i] ∧ Q (.int (if i < 0 then -i else i)) H
theorem c_abs : CallR X (.builtin "abs") rAbs := call_abs
def rMax2 : List V → Hp → VK → Prop := fun xs H Q => ∃ i j, xs = [.int i, .int j] ∧ Q (.int (if j > i then j else i)) H
theorem c_max2 (hc : X.calm = true) : CallR X (.builtin "max") rMax2 := call_max2 hc
def rMin2 : List V → Hp → VK → Prop := fun xs H Q => ∃ i j, xs = [.int i, .int j] ∧ Q (.int (if j < i then j else i)) H
theorem c_min2 (hc : X.calm = true) : CallR X (.builtin "min") rMin2 := call_min2 hc
def rList (K : PySem.W.Frag) : List V → Hp → VK → Prop := fun xs H Q => ∃ p ys, xs = [.ref p] ∧ (SqL K H p ys ∨ SqT K H p ys) ∧ ∀ l, H l = none → Q (.ref l) (upd H l (.lst ys))
theorem c_list : CallR X (.type "list") (rList X.K) := call_list_of
def rIsN : R2 := fun x y H Q => y = .non ∧ Q (.bl (decide (x = .non))) H
theorem o_isN : OpR X (compareOp .Is) rIsN := op_isN
def rNotN : R2 := fun x y H Q => y = .non ∧ Q (.bl (!decide (x = .non))) H
theorem o_notN : OpR X (compareOp .IsNot) rNotN := op_notN
end

theorem hu65 {A : Around} {k : Nat} (hr : Room k A) : A.units + 65 < cLine := by have := hr.un; omega

/-! ### readings, a step at a time -/
section
variable {σ : L2.St} {H : Hp} {Q : VK} {D : Ends} {K : PySem.W.Frag}
theorem g_seq {t u : TS} (k : t { D with nx := u D } σ H) : tSeq t u D σ H := k
theorem g_set {te : TE} {i : Nat} (k : te σ H fun v H1 => D.nx (σ.set i (some v)) H1) : tAsg te (gName i) D σ H := k
theorem g_asg {te : TE} {g : TG} (k : te σ H fun v H1 => g v σ H1 D.nx) : tAsg te g D σ H := k
theorem g_ret {te : TE} (k : te σ H D.rt) : tRet te D σ H := k
theorem g_retN (k : D.rt .non H) : tRetN D σ H := k
theorem g_ifS {c : TT} {t u : TS} (k : c σ H fun b H1 => if b = true then t D σ H1 else u D σ H1) : tIfS c t u D σ H := k
theorem g_next (k : D.nx σ H) : tNext D σ H := k
theorem g_drop {te : TE} (k : te σ H fun _ H1 => D.nx σ H1) : tDrop te D σ H := k
theorem g_var {i : Nat} {v : V} (h : σ[i]? = some (some v)) (k : Q v H) : tVar i σ H Q := ⟨v, h, k⟩
theorem g_c {v : V} (k : Q v H) : tC v σ H Q := k
theorem g_op {r : R2} {ta tb : TE} (k : ta σ H fun x H1 => tb σ H1 fun y H2 => r x y H2 Q) : tOp r ta tb σ H Q := k
theorem g_un {r : V → Hp → VK → Prop} {ta : TE} (k : ta σ H fun x H1 => r x H1 Q) : tUn r ta σ H Q := k
theorem g_neg {i : Int} (k : Q (.int (-i)) H) : rU (fun i => .int (-i)) (.int i) H Q := ⟨i, rfl, k⟩
theorem g_I0 {g : Int → Int → V} {i j : Int} (k : Q (g i j) H) : rI0 g (.int i) (.int j) H Q := ⟨i, j, rfl, rfl, k⟩
theorem g_I {C : Int → Int → Prop} {g : Int → Int → V} {i j : Int} (c : C i j) (k : Q (g i j) H) : rI C g (.int i) (.int j) H Q := ⟨i, j, rfl, rfl, c, k⟩
theorem g_test {t : TE} {Q : Bool → Hp → Prop} (k : t σ H fun x H' => ∃ k, x = .bl k ∧ Q k H') : tTest t σ H Q := k
theorem g_tB {t : TE} {Q : Bool → Hp → Prop} (k : t σ H fun x H' => ∃ k, x = .bl k ∧ Q k H') : tB t σ H Q := k
theorem g_exbl {b : Bool} {Q : Bool → Prop} (k : Q b) : ∃ k, V.bl b = .bl k ∧ Q k := ⟨b, rfl, k⟩
theorem g_eqI {i j : Int} (k : Q (.bl (decide (i = j))) H) : rEq (.int i) (.int j) H Q := by
  refine ⟨rfl, ?_⟩
  have e : decide (V.int i = V.int j) = decide (i = j) := by simp
  rw [e]; exact k
theorem g_neI {i j : Int} (k : Q (.bl (!decide (i = j))) H) : rNe (.int i) (.int j) H Q := by
  refine ⟨rfl, ?_⟩
  have e : decide (V.int i = V.int j) = decide (i = j) := by simp
  rw [e]; exact k
theorem g_eqS {i j : Str} (k : Q (.bl (decide (i = j))) H) : rEq (.str i) (.str j) H Q := by
  refine ⟨rfl, ?_⟩
  have e : decide (V.str i = V.str j) = decide (i = j) := by simp
  rw [e]; exact k
theorem g_neS {i j : Str} (k : Q (.bl (!decide (i = j))) H) : rNe (.str i) (.str j) H Q := by
  refine ⟨rfl, ?_⟩
  have e : decide (V.str i = V.str j) = decide (i = j) := by simp
  rw [e]; exact k
theorem g_nil {Q : List V → Hp → Prop} (k : Q [] H) : tNil σ H Q := k
theorem g_cons {ta : TE} {tr : TA} {Q : List V → Hp → Prop} (k : ta σ H fun x H1 => tr σ H1 fun xs H2 => Q (x :: xs) H2) : tCons ta tr σ H Q := k
def rMkT : List V → Hp → VK → Prop := fun xs H1 Q => xs.length ≤ sizeLine ∧ ∀ p, H1 p = none → Q (.ref p) (upd H1 p (.tup xs))
def rMkL : List V → Hp → VK → Prop := fun xs H1 Q => xs.length ≤ sizeLine ∧ ∀ p, H1 p = none → Q (.ref p) (upd H1 p (.lst xs))
theorem g_tup {t : TA} (k : t σ H fun xs H1 => rMkT xs H1 Q) : tTup t σ H Q := k
theorem g_lst {t : TA} (k : t σ H fun xs H1 => rMkL xs H1 Q) : tLst t σ H Q := k
theorem g_mkT {xs : List V} (hz : xs.length ≤ sizeLine) (k : ∀ p, Nw H p → Q (.ref p) (upd H p (.tup xs))) : rMkT xs H Q := ⟨hz, fun p hp => k p ⟨hp⟩⟩
theorem g_mkL {xs : List V} (hz : xs.length ≤ sizeLine) (k : ∀ p, Nw H p → Q (.ref p) (upd H p (.lst xs))) : rMkL xs H Q := ⟨hz, fun p hp => k p ⟨hp⟩⟩
theorem sz16 {α : Type} {xs : List α} (h : xs.length ≤ 100000) : xs.length ≤ sizeLine := Nat.le_trans h (by decide)
theorem g_cb {r : List V → Hp → VK → Prop} {t : TA} (k : t σ H fun vs H1 => r vs H1 Q) : tCB r t σ H Q := k
theorem g_call {sp : Sp} {E : XK} {t : TA} (k : t σ H fun vs H1 => sp (vs ++ []) H1 Q E) : tCall sp [] E t σ H Q := k
theorem g_and {t u : TT} {Q : Bool → Hp → Prop} (k : t σ H fun c H1 => if c = true then u σ H1 Q else Q false H1) : tAnd t u σ H Q := k
theorem g_or {t u : TT} {Q : Bool → Hp → Prop} (k : t σ H fun c H1 => if c = true then Q true H1 else u σ H1 Q) : tOr t u σ H Q := k
theorem g_not {t : TT} {Q : Bool → Hp → Prop} (k : t σ H fun c H1 => Q (!c) H1) : tNot t σ H Q := k
theorem g_ix {r : R2} {ta tb : TE} (k : ta σ H fun x H1 => tb σ H1 fun y H2 => r x y H2 Q) : tOp r ta tb σ H Q := k
theorem g_ixL {p : Addr} {xs : List V} {i : Int} {v : V} (h : SqL K H p xs) (e : atI xs i = some v) (k : Q v H) : rIxL K (.ref p) (.int i) H Q := ⟨p, xs, i, v, rfl, rfl, h, e, k⟩
theorem g_ixT {p : Addr} {xs : List V} {i : Int} {v : V} (h : H p = some (.tup xs)) (e : atI xs i = some v) (k : Q v H) : rIxT K (.ref p) (.int i) H Q := ⟨p, xs, i, v, rfl, rfl, SqT.of h, e, k⟩
theorem g_iteD {p A B : Prop} [Decidable p] (h1 : p → A) (h2 : ¬ p → B) : if decide p = true then A else B := by
  by_cases h : p
  · rw [if_pos (decide_eq_true h)]; exact h1 h
  · rw [if_neg (by simpa using h)]; exact h2 h
theorem g_iteN {p A B : Prop} [Decidable p] (h1 : ¬ p → A) (h2 : p → B) : if (!decide p) = true then A else B := by
  by_cases h : p
  · rw [if_neg (by simpa using h)]; exact h2 h
  · rw [if_pos (by simpa using h)]; exact h1 h
theorem g_iteB {b : Bool} {A B : Prop} (h1 : b = true → A) (h2 : b = false → B) : if b = true then A else B := by
  cases b with
  | true => exact h1 rfl
  | false => exact h2 rfl
theorem g_andV {ta tb : TE} (k : ta σ H fun x H1 => ∃ c, x = .bl c ∧ if c = true then tb σ H1 Q else Q (.bl false) H1) : tAndV ta tb σ H Q := k
theorem g_if {t : TT} {ta tb : TE} (k : t σ H fun c H1 => if c = true then ta σ H1 Q else tb σ H1 Q) : tIf t ta tb σ H Q := k
theorem g_gsub {to ti : TE} {t : TSet} {v : V} {Q : L2.St → Hp → Prop} (k : to σ H fun o H1 => ti σ H1 fun i H2 => t o i v H2 fun H3 => Q σ H3) : gSub to ti t v σ H Q := k
theorem g_setL {p : Addr} {xs : List V} {i : Int} {j : Nat} {v : V} {Q : Hp → Prop} (h : H p = some (.lst xs)) (e : ixN xs.length i = some j) (k : Q (upd H p (.lst (xs.set j v)))) : rSetL (.ref p) (.int i) v H Q := ⟨p, xs, i, j, rfl, rfl, h, e, k⟩
theorem g_bm {T : String} {r : V → List V → Hp → VK → Prop} {to : TE} {t : TA} (k : to σ H fun x H1 => tyV K T x H1 ∧ t σ H1 fun xs H2 => r x xs H2 Q) : tBM K T r to t σ H Q := k
theorem g_tyL {p : Addr} {xs : List V} {P : Prop} (h : H p = some (.lst xs)) (k : P) : tyV K "list" (.ref p) H ∧ P := ⟨.inl ⟨rfl, _, SqL.of h⟩, k⟩
theorem g_app {l : Addr} {xs : List V} {y : V} (h : H l = some (.lst xs)) (hz : xs.length < sizeLine) (k : Q .non (upd H l (.lst (xs ++ [y])))) : rAppend (.ref l) [y] H Q := ⟨l, xs, y, rfl, rfl, h, hz, k⟩
theorem g_ext {l b : Addr} {xs zs : List V} (h : H l = some (.lst xs)) (hb : H b = some (.lst zs)) (hz : xs.length + zs.length ≤ sizeLine) (k : Q .non (upd H l (.lst (xs ++ zs)))) : rExtend (.ref l) [.ref b] H Q := ⟨l, b, xs, zs, rfl, rfl, h, hb, hz, k⟩
def ForR (lo : Int) (n : Nat) (g : TG) (tb : TS) (D : Ends) (σ : L2.St) (H : Hp) : Prop := ∃ Pv : Nat → L2.St → Hp → Prop, Pv 0 σ H ∧
  (∀ i σ H, i < n → Pv i σ H → g (.int (lo + i)) σ H fun σ2 H2 => tb { D with nx := Pv (i + 1), ct := Pv (i + 1), bk := D.nx } σ2 H2) ∧ ∀ σ H, Pv n σ H → D.nx σ H
def ForL (K : PySem.W.Frag) (a : Addr) (xs : List V) (g : TG) (tb : TS) (D : Ends) (σ : L2.St) (H : Hp) : Prop := ∃ Pv : Nat → L2.St → Hp → Prop, Pv 0 σ H ∧ (∀ i σ H, i ≤ xs.length → Pv i σ H → SqL K H a xs) ∧
  (∀ i x σ H, xs[i]? = some x → Pv i σ H → g x σ H fun σ2 H2 => tb { D with nx := Pv (i + 1), ct := Pv (i + 1), bk := D.nx } σ2 H2) ∧ ∀ σ H, Pv xs.length σ H → D.nx σ H
def ForJ (J : It) (g : TG) (tb : TS) (D : Ends) (σ : L2.St) (H1 : Hp) : Prop := ∃ W : Nat → Nat → L2.St → Hp → Prop, (∃ m, W 0 m σ H1) ∧ ∀ i m σ H, W i m σ H →
  (J.stop i H ∧ D.nx σ H) ∨ (J.go i H ∧ ∃ N : L2.St → Hp → Prop, (∀ σ' H', N σ' H' → ∃ m', m' < m ∧ W (i + 1) m' σ' H') ∧ ∀ x H', J.yld i H x H' → g x σ H' fun σ2 H2 => tb { D with nx := N, ct := N, bk := D.nx } σ2 H2)
theorem g_for {wi : TI} {g : TG} {tb : TS} (k : wi σ H fun J H1 => ForJ J g tb D σ H1) : tFor wi g tb D σ H := k
theorem g_iR1 {ta : TA} {R : It → Hp → Prop} (k : ta σ H fun vs H1 => ∃ j : Int, vs = [.int j] ∧ -(2 ^ 62) ≤ j ∧ j < 2 ^ 62 ∧ R (Itr 0 j.toNat) H1) : iRng1 ta σ H R := k
theorem g_iR2 {ta : TA} {R : It → Hp → Prop} (k : ta σ H fun vs H1 => ∃ i j : Int, vs = [.int i, .int j] ∧ (-(2 ^ 62) ≤ i ∧ i < 2 ^ 62 ∧ -(2 ^ 62) ≤ j ∧ j < 2 ^ 62) ∧ R (Itr i (j - i).toNat) H1) : iRng2 ta σ H R := k
theorem g_iL {tl : TE} {R : It → Hp → Prop} (k : tl σ H fun x H1 => ∃ a, x = .ref a ∧ (∃ xs, SqL K H1 a xs) ∧ R (Itl K a) H1) : iList K tl σ H R := k
theorem g_rng1 {n : Int} {g : TG} {tb : TS} (h1 : -(2 ^ 62) ≤ n) (h2 : n < 2 ^ 62) (k : ForR 0 n.toNat g tb D σ H) : ∃ j : Int, [V.int n] = [.int j] ∧ -(2 ^ 62) ≤ j ∧ j < 2 ^ 62 ∧ ForJ (Itr 0 j.toNat) g tb D σ H := by
  obtain ⟨Pv, h0, hs, hd⟩ := k
  exact ⟨n, rfl, h1, h2, for_range Pv h0 hs hd⟩
theorem g_rng2 {a n : Int} {g : TG} {tb : TS} (h1 : -(2 ^ 62) ≤ a ∧ a < 2 ^ 62 ∧ -(2 ^ 62) ≤ n ∧ n < 2 ^ 62) (k : ForR a (n - a).toNat g tb D σ H) :
    ∃ i j : Int, [V.int a, V.int n] = [.int i, .int j] ∧ (-(2 ^ 62) ≤ i ∧ i < 2 ^ 62 ∧ -(2 ^ 62) ≤ j ∧ j < 2 ^ 62) ∧ ForJ (Itr i (j - i).toNat) g tb D σ H := by
  obtain ⟨Pv, h0, hs, hd⟩ := k
  exact ⟨a, n, rfl, h1, for_range Pv h0 hs hd⟩
theorem g_forL {a : Addr} {xs : List V} {g : TG} {tb : TS} (h : SqL K H a xs) (k : ForL K a xs g tb D σ H) : ∃ a', V.ref a = .ref a' ∧ (∃ xs, SqL K H a' xs) ∧ ForJ (Itl K a') g tb D σ H := by
  obtain ⟨Pv, h0, hl, hs, hd⟩ := k
  exact ⟨a, rfl, ⟨xs, h⟩, for_list (K := K) Pv h0 hl hs hd⟩
theorem g_gname {i : Nat} {v : V} {Q : L2.St → Hp → Prop} (k : Q (σ.set i (some v)) H) : gName i v σ H Q := k
theorem g_gtup {n : Nat} {t : TGs} {a : Addr} {xs : List V} {Q : L2.St → Hp → Prop} (h : H a = some (.tup xs)) (hn : xs.length = n) (k : t xs σ H Q) : gTup K n t (.ref a) σ H Q := ⟨a, xs, rfl, SqT.of h, hn, k⟩
theorem g_gcons {t : TG} {u : TGs} {v : V} {r : List V} {Q : L2.St → Hp → Prop} (k : t v σ H fun σ' H' => u r σ' H' Q) : gCons t u (v :: r) σ H Q := ⟨v, r, rfl, k⟩
theorem g_gnil {Q : L2.St → Hp → Prop} (k : Q σ H) : gNil [] σ H Q := ⟨rfl, k⟩
theorem g_ixTS {p : Addr} {xs : List V} {i : Int} {v : V} (h : SqT K H p xs) (e : atI xs i = some v) (k : Q v H) : rIxT K (.ref p) (.int i) H Q := ⟨p, xs, i, v, rfl, rfl, h, e, k⟩
theorem g_neD {x y : V} {d e : PyData} (hx : Tp H x d) (hy : Tp H y e) (sd : SeqAt.shaped d = true) (se : SeqAt.shaped e = true) (k : Q (.bl (!PyData.eqv d e)) H) : rNeD K x y H Q := ⟨d, e, hx.dp, hy.dp, sd, se, k⟩
theorem g_lenL {p : Addr} {xs : List V} (h : SqL K H p xs) (k : Q (.int xs.length) H) : rLen K [.ref p] H Q := ⟨p, xs, rfl, .inl h, k⟩
theorem g_lenT {p : Addr} {xs : List V} (h : H p = some (.tup xs)) (k : Q (.int xs.length) H) : rLen K [.ref p] H Q := ⟨p, xs, rfl, .inr (SqT.of h), k⟩
theorem g_int1 {i : Int} (k : Q (.int i) H) : rInt [.int i] H Q := .inl ⟨i, rfl, k⟩
theorem g_abs {i : Int} (k : Q (.int (if i < 0 then -i else i)) H) : rAbs [.int i] H Q := ⟨i, rfl, k⟩
theorem g_min {i j : Int} (k : Q (.int (if j < i then j else i)) H) : rMin2 [.int i, .int j] H Q := ⟨i, j, rfl, k⟩
theorem g_max {i j : Int} (k : Q (.int (if j > i then j else i)) H) : rMax2 [.int i, .int j] H Q := ⟨i, j, rfl, k⟩
theorem g_listL {p : Addr} {xs : List V} (h : SqL K H p xs) (k : ∀ l, Nw H l → Q (.ref l) (upd H l (.lst xs))) : rList K [.ref p] H Q := ⟨p, xs, rfl, .inl h, fun l hl => k l ⟨hl⟩⟩
theorem g_listT {p : Addr} {xs : List V} (h : H p = some (.tup xs)) (k : ∀ l, Nw H l → Q (.ref l) (upd H l (.lst xs))) : rList K [.ref p] H Q := ⟨p, xs, rfl, .inr (SqT.of h), fun l hl => k l ⟨hl⟩⟩
theorem g_isN {v : V} (k : Q (.bl (decide (v = .non))) H) : rIsN v .non H Q := ⟨rfl, k⟩
theorem g_notN {v : V} (k : Q (.bl (!decide (v = .non))) H) : rNotN v .non H Q := ⟨rfl, k⟩
theorem g_cat {l b : Addr} {xs zs : List V} (h : H l = some (.lst xs)) (hb : H b = some (.lst zs)) (hz : xs.length + zs.length ≤ sizeLine) (k : ∀ p, Nw H p → Q (.ref p) (upd H p (.lst (xs ++ zs)))) : rCat (.ref l) (.ref b) H Q := ⟨l, b, xs, zs, rfl, rfl, h, hb, hz, fun p hp => k p ⟨hp⟩⟩
theorem g_slL {p : Addr} {xs : List V} {lo hi : Option Int} (h : SqL K H p xs) (k : ∀ q, Nw H q → Q (.ref q) (upd H q (.lst (cutV xs lo hi)))) : rSlL K (.ref p) lo hi H Q := ⟨p, xs, rfl, h, fun q hq => k q ⟨hq⟩⟩
theorem g_sl {r : V → Option Int → Option Int → Hp → VK → Prop} {te : TE} {tl th : TO} (k : te σ H fun x H1 => tl σ H1 fun l H2 => th σ H2 fun u H3 => r x l u H3 Q) : tSl r te tl th σ H Q := k
theorem g_noP {Q : Option Int → Hp → Prop} (k : Q none H) : tNoPart σ H Q := k
theorem g_part {t : TE} {Q : Option Int → Hp → Prop} (k : t σ H fun x H1 => ∃ i, x = .int i ∧ Q (some i) H1) : tPart t σ H Q := k
theorem g_exint {i : Int} {Q : Int → Prop} (k : Q i) : ∃ j, V.int i = .int j ∧ Q j := ⟨i, rfl, k⟩
theorem g_dNew (k : ∀ p, Nw H p → Q (.ref p) (upd H p (.dK []))) : tDNewK σ H Q := fun p hp => k p ⟨hp⟩
def rDNi (x y : V) (H : Hp) (Q : VK) : Prop := ∃ a o, x = .ref a ∧ DGet H a y o ∧ Q (.bl (!o.isSome)) H
def rDIn (x y : V) (H : Hp) (Q : VK) : Prop := ∃ a o, x = .ref a ∧ DGet H a y o ∧ Q (.bl o.isSome) H
def rDGet (x y : V) (H : Hp) (Q : VK) : Prop := ∃ a v, x = .ref a ∧ DGet H a y (some v) ∧ Q v H
def rDGet2 (a : Addr) (y z : V) (H : Hp) (Q : VK) : Prop := ∃ o, DGet H a y o ∧ Q (o.getD z) H
def rDPut (x y v : V) (H : Hp) (Q : Hp → Prop) : Prop := ∃ a H4, x = .ref a ∧ DPut H a y v H4 ∧ Q H4
theorem g_dnotin {ty td : TE} (k : ty σ H fun y H1 => td σ H1 fun x H2 => rDNi x y H2 Q) : tDNotIn ty td σ H Q := k
theorem g_din {ty td : TE} (k : ty σ H fun y H1 => td σ H1 fun x H2 => rDIn x y H2 Q) : tDIn ty td σ H Q := k
theorem g_dget {td ty : TE} (k : td σ H fun x H1 => ty σ H1 fun y H2 => rDGet x y H2 Q) : tDGet td ty σ H Q := k
theorem g_dput {td ty tv : TE} (k : tv σ H fun v H1 => td σ H1 fun x H2 => ty σ H2 fun y H3 => rDPut x y v H3 fun H4 => D.nx σ H4) : sDPut td ty tv D σ H := k
theorem g_dget2 {td ty tx : TE} (k : td σ H fun x H1 => ∃ a, x = .ref a ∧ IsD H1 a ∧ ty σ H1 fun y H2 => tx σ H2 fun z H3 => rDGet2 a y z H3 Q) : tDGet2 td ty tx σ H Q := k
theorem g_isD {a : Addr} {kvs : List (L2.Key × V)} {P : Addr → Prop} (h : H a = some (.dK kvs)) (k : P a) : ∃ a', V.ref a = .ref a' ∧ IsD H a' ∧ P a' := ⟨a, rfl, .inl ⟨kvs, .inl h⟩, k⟩
theorem g_dniT {a b : Addr} {kvs : List (List L2.Key × V)} {ks : List L2.Key} (h : H a = some (.dT kvs)) (hb : H b = some (.tup (ks.map kV))) (k : Q (.bl (!(valV kvs ks).isSome)) H) : rDNi (.ref a) (.ref b) H Q := ⟨a, _, rfl, .t h hb, k⟩
theorem g_get2I {a : Addr} {kvs : List (L2.Key × V)} {i : Int} {z : V} (h : H a = some (.dK kvs)) (k : Q ((valV kvs (.inl i)).getD z) H) : rDGet2 a (.int i) z H Q := ⟨_, .k (k := .inl i) h, k⟩
theorem g_getI {a : Addr} {kvs : List (L2.Key × V)} {i : Int} {v : V} (h : H a = some (.dK kvs)) (e : valV kvs (.inl i) = some v) (k : Q v H) : rDGet (.ref a) (.int i) H Q := ⟨a, v, rfl, by rw [← e]; exact .k (k := .inl i) h, k⟩
theorem g_putI {a : Addr} {kvs : List (L2.Key × V)} {i : Int} {v : V} {Q : Hp → Prop} (h : H a = some (.dK kvs)) (hz : kvs.length < sizeLine) (k : Q (upd H a (.dK (putK kvs (.inl i) v)))) : rDPut (.ref a) (.int i) v H Q := ⟨a, _, rfl, .k (k := .inl i) h hz, k⟩
theorem g_ifM {c : TT} {t u : TS} (M : Bool → Hp → Prop) (k2 : ∀ H1, M true H1 → t D σ H1) (k3 : ∀ H1, M false H1 → u D σ H1) (k : ∀ Q : Bool → Hp → Prop, (∀ b H1, M b H1 → Q b H1) → c σ H Q) : tIfS c t u D σ H :=
  k _ fun b H1 m => by
    cases b with
    | true => exact k2 H1 m
    | false => exact k3 H1 m
theorem g_catA {a b : Addr} {xs ys : List V} (h : H a = some (.tup xs)) (h2 : H b = some (.tup ys)) (hz : xs.length + ys.length ≤ sizeLine) (k : ∀ (p : Addr) (H' : Hp), Stp [] H H' → H' p = some (.tup (xs ++ ys)) → Q (.ref p) H') : rCatA K (.ref a) (.ref b) H Q := by
  refine ⟨a, b, xs, ys, rfl, rfl, SqT.of h, SqT.of h2, hz, fun e => ?_, fun _ e => ?_, fun _ _ p hp => k p _ (.new hp) upd_same⟩
  · rw [e] at k; exact k b H (.refl _ _) h2
  · rw [e, List.append_nil] at k; exact k a H (.refl _ _) h
theorem g_disp {trs : List (TE × TE)} (k : ∀ p, Nw H p → tPairs trs σ (upd H p (.dK [])) fun ps H2 => H2 p = some (.dK []) ∧ ∃ kvs : List (L2.Key × V), ps = kvs.map (fun kv => (kV kv.1, kv.2)) ∧ kvs.length ≤ 15 ∧ Q (.ref p) (upd H2 p (.dK (mergeK [] kvs)))) : tDisp trs σ H Q := fun p hp => k p ⟨hp⟩
theorem g_pcons {tk tv : TE} {r : List (TE × TE)} {Q : List (V × V) → Hp → Prop} (k : tk σ H fun x H1 => tv σ H1 fun y H2 => tPairs r σ H2 fun ps H3 => Q ((x, y) :: ps) H3) : tPairs ((tk, tv) :: r) σ H Q := k
theorem g_pnil {Q : List (V × V) → Hp → Prop} (k : Q [] H) : tPairs [] σ H Q := k
def LcJ (J : It) (g : TG) (tt : TT) (te : TE) (vs : List Nat) (σ : L2.St) (Q : VK) (H1 : Hp) : Prop := ∀ D, H1 D = none → ∃ W : Nat → Nat → Hp → Prop, (∃ m, W 0 m (upd H1 D (.lst []))) ∧ ∀ i m H, W i m H →
  (J.stop i H ∧ Q (.ref D) H) ∨ (J.go i H ∧ ∃ More : Hp → Prop, (∀ H', More H' → ∃ m', m' < m ∧ W (i + 1) m' H') ∧ ∀ x H', J.yld i H x H' → g x (wipe σ vs) H' fun σ2 H2 => wipe σ2 vs = wipe σ vs ∧ tt σ2 H2 fun b H3 =>
    if b = true then te σ2 H3 fun y H4 => ∃ acc, H4 D = some (.lst acc) ∧ acc.length < sizeLine ∧ More (upd H4 D (.lst (acc ++ [y]))) else More H3)
theorem g_lc {wi : TI} {g : TG} {tt : TT} {te : TE} {vs : List Nat} (k : wi σ H fun J H1 => LcJ J g tt te vs σ Q H1) : tLc wi g tt te vs σ H Q := k
theorem g_lcL {g : TG} {tt : TT} {te : TE} {vs : List Nat} {a : Addr} {xs : List V} (h : SqL K H a xs)
    (k : ∀ D, Nw H D → ∃ Pv : Nat → Hp → Prop, Pv 0 (upd H D (.lst [])) ∧ (∀ i H', i ≤ xs.length → Pv i H' → SqL K H' a xs) ∧
      (∀ i x H', xs[i]? = some x → Pv i H' → g x (wipe σ vs) H' fun σ2 H2 => wipe σ2 vs = wipe σ vs ∧ tt σ2 H2 fun b H3 =>
        if b = true then te σ2 H3 fun y H4 => ∃ acc, H4 D = some (.lst acc) ∧ acc.length < sizeLine ∧ Pv (i + 1) (upd H4 D (.lst (acc ++ [y]))) else Pv (i + 1) H3) ∧ ∀ H', Pv xs.length H' → Q (.ref D) H') :
    ∃ a', V.ref a = .ref a' ∧ (∃ xs, SqL K H a' xs) ∧ LcJ (Itl K a') g tt te vs σ Q H := by
  refine ⟨a, rfl, ⟨xs, h⟩, fun D hD => ?_⟩
  obtain ⟨Pv, h0, hl, hs, hd⟩ := k D ⟨hD⟩
  exact lc_list (K := K) Pv h0 hl hs hd
theorem g_yes {Q : Bool → Hp → Prop} (k : Q true H) : tYes σ H Q := k
theorem g_neSame {x y : V} {d : PyData} (hx : Dp K H x d) (hy : Dp K H y d) (sd : SeqAt.shaped d = true) (e : PyData.eqv d d = true) (k : Q (.bl false) H) : rNeD K x y H Q := ⟨d, d, hx, hy, sd, sd, by rw [e]; exact k⟩
theorem g_sig {t : TS} {σ' : L2.St} (e : σ' = σ) (k : t D σ' H) : t D σ H := e ▸ k
end
end My

set_option maxRecDepth 100000
set_option maxHeartbeats 4000000
/-! {k: v for x in xs} whose keys are tuples of ints and texts -/
namespace My
open PySem PySem.Spec PyProof.Rows L2
theorem dT_set {X : Cx} {pins : List (Addr × Obj)} {σ : L2.St} {H : Hp} {s : Shared} {E : Value → Shared → Prop} {D b : Addr} {ps : List (List L2.Key × V)} {ks : List L2.Key} {y : V} {r : Value} {Q : Unit → Shared → Prop}
    (room : X.A.units < cLine) (inv : Inv X pins σ H s) (hD : H D = some (.dT ps)) (hb : H b = some (.tup (ks.map kV))) (sz : ps.length < sizeLine) (ry : RelV y r)
    (go : ∀ s2, Inv X pins σ (upd H D (.dT (putK ps ks y))) s2 → Q () s2) : wpAny (model X.prog X.w) X.A (dictSet D (.ref b) r) Q E s := by
  obtain ⟨z0, nsys, ws, rw0, dict⟩ := dt_of inv.hok hD
  have small : ws.length ≤ sizeLine := Paired.length rw0 ▸ z0
  have grown : (putK ps ks y).length ≤ sizeLine := Nat.le_trans (length_putK ps ks y) sz
  refine wpAny_dictSet_heap (knd := tupleKind (mixKind X.prog X.w)) (hsz := small) room (key_of inv.hok hb) dict fun heap2 dict2 same => go _ ?_
  obtain ⟨ob, arr, n, at2, g2, g3, g4, _, g6⟩ := dict2
  refine d_write inv (by rw [hD]; exact True.intro) same ⟨ob, at2⟩ ⟨grown, nsys, _, (rw0.put ks hb ry).keeps fun t xs et => ?_, ob, arr, n, at2, g2, g3, g4, g6⟩
  have apart : t ≠ D := ne_of et hD (fun z => nomatch z)
  exact (upd_ne apart).trans et
section
variable {X : Cx}
def tDcT (wi : TI) (g : TG) (tt : TT) (tk tv : TE) (vs : List Nat) : TE := fun σ H Q => wi σ H fun J H1 => ∀ D, H1 D = none → ∃ W : Nat → Nat → Hp → Prop, (∃ m, W 0 m (upd H1 D (.dT []))) ∧ ∀ i m H, W i m H →
  (J.stop i H ∧ Q (.ref D) H) ∨ (J.go i H ∧ ∃ More : Hp → Prop, (∀ H', More H' → ∃ m', m' < m ∧ W (i + 1) m' H') ∧ ∀ x H', J.yld i H x H' → g x (wipe σ vs) H' fun σ2 H2 => wipe σ2 vs = wipe σ vs ∧ tt σ2 H2 fun b H3 =>
    if b = true then tk σ2 H3 fun y H4 => tv σ2 H4 fun z H5 => ∃ ps ks a, y = .ref a ∧ H5 a = some (.tup (ks.map kV)) ∧ H5 D = some (.dT ps) ∧ ps.length < sizeLine ∧ More (upd H5 D (.dT (putK ps ks z))) else More H3)
abbrev InBlk (X : Cx) (scope : Scope) (G : Cx → Prop) : Prop := ∀ (s : Shared) (H : Hp) (C : Addr) (cl : List (Str × Addr)) (fp : List Addr), G (X.blk s H scope (compEnvC scope cl C X.env) fp)
theorem dcT_run {kx vx tg iter : Expr} {ifs : List Expr} {scope : Scope} {own : List (Str × Nat)} {pos pos' : Pos} {wi : TI} {g : TG} {tt : TT} {tk tv : TE} {use : Option (Value → Sem Unit)} {Qf : Value → Shared → Prop} {pins : List (Addr × Obj)} {s : Shared} {σ : L2.St} {H : Hp} {Q : VK}
    (room : X.A.units < cLine) (calm : X.calm = true) (nodup : X.N.Nodup) (src : PI X tg iter wi) (blk : BlkOk X.N X.env.scope scope own)
    (pgs : InBlk X scope fun Y => PG Y tg g) (pts : InBlk X scope fun Y => PTs Y ifs tt) (pks : InBlk X scope fun Y => PE Y kx tk) (pvs : InBlk X scope fun Y => PE Y vx tv)
    (folded : ∀ x, foldedSetIterable iter X.env x = pure x) (inv : Inv X pins σ H s) (want : tDcT wi g tt tk tv (own.map (·.2)) σ H Q)
    (out : ∀ D C u m G, Inv X pins σ G u → Q (.ref D) G → u.heap.Ns C m → FpOk X pins G C → compPost (model X.prog X.w) X.A X.xe use Qf (.ref D) C (.ok .next) u) :
    wpAny (model X.prog X.w) X.A (comprehension (.DictComp kx vx [⟨tg, iter, ifs, 0⟩] scope pos) scope X.env pos' newDict false (eval iter X.env) use) Qf X.xe s := by
  have closed : ∀ y ∈ scope.names, y.2 = .free → ∃ c, X.env.cells.lookup y.1 = some c := fun y hy free => (blk.free y hy free).elim (fun z => inv.ok.has _ (.inl z)) fun z => inv.ok.has _ (.inr z)
  refine wpAny_comprehension_free (use := use) rfl folded (closure_ok closed) blk.kind (fun y hy kind => by rw [blk.uniq y hy, kind])
    (thn (src.run pins s σ H _ inv want) fun xv s1 first => thn first fun itv s2 begun => ?_)
  obtain ⟨it, fp, tn, J, H2, rfl, inv2, tu, at0, fpOk, rest⟩ := begun
  refine wpAny_newObj_type (newEnv_comp ?_)
  generalize eD : s2.heap.objs.size = D
  have newD : H2 D = none := inv2.hok.fresh (Nat.le_of_eq eD)
  obtain ⟨W, ⟨n0, start⟩, turns⟩ := rest D newD
  generalize es3 : ({ s2 with heap := s2.heap.push { cls := .type "dict", data := .dict #[] } } : Shared) = s3
  have heap3 : s3.heap = s2.heap.push { cls := .type "dict", data := .dict #[] } := by rw [← es3]
  have inv3 : Inv X pins σ (upd H2 D (.dT [])) s3 := by
    have laid := inv2.laid (a := s2.heap.objs.size) (o := .dT []) (h' := s2.heap.push { cls := .type "dict", data := .dict #[] }) (t' := s2.toks) (fun _ _ q => Heap.get?_push_of_some _ q) (Nat.le_refl _) (dt_empty s2.heap inv2.big)
    rw [eD] at laid
    rw [← es3]
    exact laid
  have before : ∀ b ∈ fp, b < s2.heap.objs.size := fun b hb => (tu.obj _ _ at0 b hb).elim fun _ q => Heap.lt_size q.1
  have fp3 : ∀ b ∈ fp, FpOk X pins (upd H2 D (.dT [])) b ∧ b < s3.heap.objs.size := fun b hb => by
    have lt := before b hb
    refine ⟨⟨(upd_ne (by rw [← eD]; exact Nat.ne_of_lt lt)).trans (fpOk b hb).1, (fpOk b hb).2⟩, ?_⟩
    rw [heap3, Heap.size_push]
    exact Nat.lt_succ_of_lt lt
  have at3 : tn 0 s3.heap := tu.keep _ _ _ at0 fun b _ o q => by rw [heap3]; exact Heap.get?_push_of_some _ q
  have inv4 := block_start inv3 blk nodup fp3
  have tgt := pgs s3 (upd H2 D (.dT [])) s3.heap.objs.size (cellsFrom (s3.heap.objs.size + 1) scope.names (cloFrom X.env.cells scope.names [])) fp
  have tst := pts s3 (upd H2 D (.dT [])) s3.heap.objs.size (cellsFrom (s3.heap.objs.size + 1) scope.names (cloFrom X.env.cells scope.names [])) fp
  have key := pks s3 (upd H2 D (.dT [])) s3.heap.objs.size (cellsFrom (s3.heap.objs.size + 1) scope.names (cloFrom X.env.cells scope.names [])) fp
  have val := pvs s3 (upd H2 D (.dT [])) s3.heap.objs.size (cellsFrom (s3.heap.objs.size + 1) scope.names (cloFrom X.env.cells scope.names [])) fp
  show codeAny _ _ (.compStart (.DictComp kx vx [⟨tg, iter, ifs, 0⟩] scope pos) 0 (.ref it) (.ref D) (compEnvC scope (cellsFrom (s3.heap.objs.size + 1) scope.names (cloFrom X.env.cells scope.names [])) s3.heap.objs.size X.env)) (compPost (model X.prog X.w) X.A X.xe use Qf (.ref D) s3.heap.objs.size) { s3 with heap := pushCells (s3.heap.push { cls := .type "dict", data := .dict #[] }) scope.names }
  have free3 : ∀ b ∈ fp, (upd H2 D (.dT [])) b = none := fun b hb => (fp3 b hb).1.1
  generalize eEnv : compEnvC scope (cellsFrom (s3.heap.objs.size + 1) scope.names (cloFrom X.env.cells scope.names [])) s3.heap.objs.size X.env = env4 at inv4 tgt tst key val ⊢
  have locals4 : env4.locals = s3.heap.objs.size := by subst eEnv; rfl
  generalize eH3 : upd H2 D (.dT []) = H3 at inv3 inv4 tgt tst key val start free3 fp3
  generalize es4 : ({ s3 with heap := pushCells (s3.heap.push { cls := .type "dict", data := .dict #[] }) scope.names } : Shared) = s4 at inv4 ⊢
  have at4 : tn 0 s4.heap := tu.keep _ _ _ at3 fun b _ o q => by rw [← es4]; exact pushCells_keeps _ _ _ _ (Heap.get?_push_of_some _ q)
  have steady : ∀ {τ : L2.St} {G : Hp} {u : Shared}, Inv (X.blk s3 H3 scope env4 fp) [] τ G u → (∀ b ∈ fp, G b = none) → ∀ b ∈ fp, FpOk (X.blk s3 H3 scope env4 fp) [] G b := fun {τ G u} iv free b hb =>
    ⟨free b hb, (iv.ok.exf b hb).1, iv.ok.exfs b hb, .inl hb, fun x c q => (iv.ok.exf b hb).2 x c q, fun p hp => by simp [Cx.blk] at hp⟩
  have loop : codeAny (model X.prog X.w) X.A (.compLoop (.DictComp kx vx [⟨tg, iter, ifs, 0⟩] scope pos) 0 (.ref it) (.ref D) env4) (compPost (model X.prog X.w) X.A X.xe use Qf (.ref D) s3.heap.objs.size) s4 := by
    refine compLoop_anyD (fun n u => ∃ i G, Inv (X.blk s3 H3 scope env4 fp) [] (wipe σ (own.map (·.2))) G u ∧ tn i u.heap ∧ (∀ b ∈ fp, G b = none) ∧ W i n G) ?_ n0 ⟨0, H3, inv4, at4, free3, start⟩
    rintro n s5 ⟨i, H5, inv5, at5, free5, w5⟩
    rcases turns i n H5 w5 with ⟨over, fin⟩ | ⟨more, More, again, step⟩
    · have ended := tu.done (X.blk s3 H3 scope env4 fp) rfl rfl rfl calm i [] s5 _ H5 (fun _ _ => False) inv5 (steady inv5 free5) at5 over
      refine thnF ended fun r s6 ⟨none6, inv6⟩ => ?_
      subst none6
      have inv7 : Inv X pins σ H5 s6 := inv3.call' (ch := fp) inv6.os inv6.base inv6.hok inv6.bare fun b hb => ⟨(fp3 b hb).1.2.2.2.1, (fp3 b hb).1.2.1, (fp3 b hb).1.2.2.2.2.1, (fp3 b hb).1.2.2.2.2.2⟩
      have freeC : H5 s3.heap.objs.size = none := by rw [← locals4]; exact inv6.free
      obtain ⟨mm, ns6, _⟩ := inv6.loc
      have ns7 : s6.heap.Ns s3.heap.objs.size mm := by rw [← locals4]; exact ns6
      exact out D s3.heap.objs.size s6 mm H5 inv7 fin ns7 (inv3.fpOk (Nat.le_refl _) freeC)
    · have drawn := tu.item (X.blk s3 H3 scope env4 fp) rfl rfl rfl calm i [] s5 _ H5 (fun _ _ => False) inv5 (steady inv5 free5) at5 more
      refine thnF drawn fun r s6 ⟨u, some6, next6⟩ => ?_
      subst some6
      refine thnF next6 fun _ s7 ⟨x, H7, inv7, r7, yld7, at7, free7⟩ => ?_
      have pin7 := inv7.pinned (steady inv7 free7) (tu.obj _ _ at7)
      refine thnF (tgt.run _ s7 _ H7 x u _ pin7 r7 (step x H7 yld7)) fun _ s8 ⟨σ8, H8, inv8, wiped, q8⟩ => ?_
      refine thnF (tst.run _ s8 σ8 H8 _ inv8 q8) fun b s9 ⟨H9, inv9, q9⟩ => ?_
      have back : ∀ {u' : Shared} {G : Hp}, Inv (X.blk s3 H3 scope env4 fp) ([] ++ pinsAt fp s7.heap) σ8 G u' → More G → ∃ m, m < n ∧ ∃ i G, Inv (X.blk s3 H3 scope env4 fp) [] (wipe σ (own.map (·.2))) G u' ∧ tn i u'.heap ∧ (∀ b ∈ fp, G b = none) ∧ W i m G := fun {u' G} iv nx => by
        obtain ⟨m', less, w'⟩ := again G nx
        have stays : ∀ b ∈ fp, ∀ o, s7.heap.get? b = some o → u'.heap.get? b = some o ∧ G b = none := fun b hb o q =>
          ⟨(iv.pin (b, o) (List.mem_append_right _ (List.mem_append_right _ (mem_pinsAt hb q)))).1, (iv.pin (b, o) (List.mem_append_right _ (List.mem_append_right _ (mem_pinsAt hb q)))).2.1⟩
        have same8 : (wipe σ (own.map (·.2))).length = σ8.length := by rw [← wiped, wipe_length]
        refine ⟨m', less, i + 1, G, (iv.unpinned (pins := [])).weak same8 (fun j v q => (wipe_some (by rw [wiped]; exact q)).1), tu.keep _ _ _ at7 fun b hb o q => (stays b hb o q).1, fun b hb => ?_, w'⟩
        obtain ⟨o, q, _⟩ := tu.obj _ _ at7 b hb
        exact (stays b hb o q).2
      cases b with
      | false =>
        simp only [Bool.false_eq_true, if_false] at q9 ⊢
        exact back inv9 q9
      | true =>
        simp only [if_true] at q9 ⊢
        refine thnF (key.run _ s9 σ8 H9 _ inv9 q9) fun kv s10 ⟨ky, H10, inv10, rk, q10⟩ => ?_
        refine thnF (val.run _ s10 σ8 H10 _ inv10 q10) fun vv s11 ⟨vy, H11, inv11, rv, ps, ks, a, ea, ha, hD11, hz11, nx⟩ => ?_
        subst ea
        obtain rfl : kv = Value.ref a := rk
        exact dT_set (X := X.blk s3 H3 scope env4 fp) room inv11 hD11 ha hz11 rv fun s12 inv12 => back inv12 nx
  exact codeAny_compStart_dict loop (tu.self X.A 0 _ _ _ at4 loop)
theorem pe_dcT {kx vx tg iter : Expr} {ifs : List Expr} {scope : Scope} {own : List (Str × Nat)} {pos : Pos} {wi : TI} {g : TG} {tt : TT} {tk tv : TE} (room : X.A.units < cLine) (calm : X.calm = true) (nodup : X.N.Nodup) (src : PI X tg iter wi) (blk : BlkOk X.N X.env.scope scope own)
    (pgs : InBlk X scope fun Y => PG Y tg g) (pts : InBlk X scope fun Y => PTs Y ifs tt) (pks : InBlk X scope fun Y => PE Y kx tk) (pvs : InBlk X scope fun Y => PE Y vx tv)
    (folded : ∀ x, foldedSetIterable iter X.env x = pure x := by intro _; rfl) : PE X (.DictComp kx vx [⟨tg, iter, ifs, 0⟩] scope pos) (tDcT wi g tt tk tv (own.map (·.2))) := by
  refine ⟨fun pins s σ H Q inv want => ?_⟩
  rw [arm_eval_DictComp]
  refine dcT_run room calm nodup src blk pgs pts pks pvs folded inv want fun D C u m G inv2 q ns ⟨f0, f1, f2, f3, f4, f5⟩ => ⟨m, ns, fun heap8 same => ?_⟩
  exact ⟨.ref D, G, inv2.turned (t' := u.toks) (fun b o hb q => (same.2 b hb).trans q) f0 f1 f3 f4 f5, rfl, q⟩
theorem swD {k v : Expr} {gs : List Comprehension} {scope : Scope} {pos py : Pos} {y : Str} {l : Nat} {env : Env} (kind : env.scope.kind = .function) (loc : env.scope.names.lookup y = some .local) (row : (py.line == pos.line) = true)
    (other : (scope.names.any fun (n, k) => n == y && (k == .local || k == .cell)) = false) : swapsWith (.DictComp k v gs scope pos) (some (.Name y py)) l env = pure true := by
  have k1 : env.kindOf y = some .local := loc
  have k2 : env.blockKind = .function := by unfold Env.blockKind; rw [kind]; rfl
  unfold swapsWith
  simp only [k2, k1, other, Expr.pos, row]
  rfl
theorem ps_setDcT {i : Nat} {y : Str} {py : Pos} {kx vx tg iter : Expr} {ifs : List Expr} {scope : Scope} {own : List (Str × Nat)} {pos spos : Pos} {wi : TI} {g : TG} {tt : TT} {tk tv : TE} (room : X.A.units < cLine) (calm : X.calm = true) (nodup : X.N.Nodup) (at_ : X.N[i]? = some y) (loc : X.env.scope.names.lookup y = some .local)
    (sw : swapsWith (.DictComp kx vx [⟨tg, iter, ifs, 0⟩] scope pos) (some (.Name y py)) spos.line X.env = pure true) (src : PI X tg iter wi) (blk : BlkOk X.N X.env.scope scope own)
    (pgs : InBlk X scope fun Y => PG Y tg g) (pts : InBlk X scope fun Y => PTs Y ifs tt) (pks : InBlk X scope fun Y => PE Y kx tk) (pvs : InBlk X scope fun Y => PE Y vx tv)
    (folded : ∀ x, foldedSetIterable iter X.env x = pure x := by intro _; rfl) : PS X (.Assign [.Name y py] (.DictComp kx vx [⟨tg, iter, ifs, 0⟩] scope pos) spos) (tAsg (tDcT wi g tt tk tv (own.map (·.2))) (gName i)) := by
  refine ⟨fun pins s σ H D inv want => ?_⟩
  rw [exec_Assign_Name_used _ _ _ _ sw]
  refine wpAny_bind (wpAny_standAt (wpAny_bind ?_))
  show wpAny _ X.A (do let _ ← comprehension (.DictComp kx vx [⟨tg, iter, ifs, 0⟩] scope pos) scope X.env (firstIterPos [⟨tg, iter, ifs, 0⟩] pos) newDict false (eval iter X.env) (some (assign (.Name y py) X.env))) _ _ s
  have want' : tDcT wi g tt tk tv (own.map (·.2)) σ H (fun x H1 => gName i x σ H1 D.nx) := want
  refine wpAny_bind (thn (dcT_run (Qf := fun _ u => SP X pins D .next u) room calm nodup src blk pgs pts pks pvs folded inv want' fun L C u m G inv2 q ns ⟨f0, f1, f2, f3, f4, f5⟩ => ?_) fun _ u hq => wpAny_pure (wpAny_pure hq))
  show wpAny _ _ (assign (.Name y py) X.env (.ref L)) _ _ _
  refine wpAny_assign_Name (store_ok2 (v := V.ref L) inv2 nodup at_ (.inl loc) rfl (fun u2 inv3 ⟨a, same, where_⟩ => ?_) (.inr loc))
  have apart : C ≠ a := where_.elim (fun z => by rw [z]; exact f1) fun z e => f4 y a z e.symm
  exact ⟨m, ns.sameBut same apart, fun heap9 same9 => ⟨_, G, inv3.turned (t' := u2.toks) (fun b o hb e => (same9.2 b hb).trans e) f0 f1 f3 f4 f5, q⟩⟩
def DcJ (J : It) (g : TG) (tt : TT) (tk tv : TE) (vs : List Nat) (σ : L2.St) (Q : VK) (H1 : Hp) : Prop := ∀ D, H1 D = none → ∃ W : Nat → Nat → Hp → Prop, (∃ m, W 0 m (upd H1 D (.dT []))) ∧ ∀ i m H, W i m H →
  (J.stop i H ∧ Q (.ref D) H) ∨ (J.go i H ∧ ∃ More : Hp → Prop, (∀ H', More H' → ∃ m', m' < m ∧ W (i + 1) m' H') ∧ ∀ x H', J.yld i H x H' → g x (wipe σ vs) H' fun σ2 H2 => wipe σ2 vs = wipe σ vs ∧ tt σ2 H2 fun b H3 =>
    if b = true then tk σ2 H3 fun y H4 => tv σ2 H4 fun z H5 => ∃ ps ks a, y = .ref a ∧ H5 a = some (.tup (ks.map kV)) ∧ H5 D = some (.dT ps) ∧ ps.length < sizeLine ∧ More (upd H5 D (.dT (putK ps ks z))) else More H3)
theorem g_dcT {σ : L2.St} {H : Hp} {Q : VK} {wi : TI} {g : TG} {tt : TT} {tk tv : TE} {vs : List Nat} (k : wi σ H fun J H1 => DcJ J g tt tk tv vs σ Q H1) : tDcT wi g tt tk tv vs σ H Q := k
theorem g_dcL {K : PySem.W.Frag} {σ : L2.St} {H : Hp} {Q : VK} {g : TG} {tt : TT} {tk tv : TE} {vs : List Nat} {a : Addr} {xs : List V} (h : SqL K H a xs)
    (k : ∀ D, Nw H D → ∃ Pv : Nat → Hp → Prop, Pv 0 (upd H D (.dT [])) ∧ (∀ i H', i ≤ xs.length → Pv i H' → SqL K H' a xs) ∧
      (∀ i x H', xs[i]? = some x → Pv i H' → g x (wipe σ vs) H' fun σ2 H2 => wipe σ2 vs = wipe σ vs ∧ tt σ2 H2 fun b H3 =>
        if b = true then tk σ2 H3 fun y H4 => tv σ2 H4 fun z H5 => ∃ ps ks a, y = .ref a ∧ H5 a = some (.tup (ks.map kV)) ∧ H5 D = some (.dT ps) ∧ ps.length < sizeLine ∧ Pv (i + 1) (upd H5 D (.dT (putK ps ks z))) else Pv (i + 1) H3) ∧ ∀ H', Pv xs.length H' → Q (.ref D) H') :
    ∃ a', V.ref a = .ref a' ∧ (∃ xs, SqL K H a' xs) ∧ DcJ (Itl K a') g tt tk tv vs σ Q H := by
  refine ⟨a, rfl, ⟨xs, h⟩, fun D hD => ?_⟩
  obtain ⟨Pv, h0, hl, hs, hd⟩ := k D ⟨hD⟩
  refine ⟨fun i m G => m = xs.length - i ∧ i ≤ xs.length ∧ Pv i G, ⟨_, rfl, Nat.zero_le _, h0⟩, ?_⟩
  rintro i m G ⟨rfl, hi, p⟩
  have stands := hl i G hi p
  rcases Nat.lt_or_ge i xs.length with lt | ge
  · refine .inr ⟨⟨xs, xs[i], stands, List.getElem?_eq_getElem lt⟩, Pv (i + 1), fun G' p' => ⟨_, by omega, rfl, lt, p'⟩, ?_⟩
    rintro x G' ⟨rfl, yl⟩
    exact hs i x _ (yl xs stands) p
  · have e : i = xs.length := Nat.le_antisymm hi ge
    rw [e] at p
    exact .inl ⟨⟨xs, stands, ge⟩, hd G p⟩
end
end My

set_option maxRecDepth 100000
set_option maxHeartbeats 8000000
namespace My
open PySem L2
local macro_rules | `(tactic| walk_at "ne") => `(tactic| first
  | assumption
  | exact Ne.symm (by assumption)
  | exact s_ls (by assumption)
  | exact s_ls' (by assumption)
  | ((refine Nw.ne1 (H := ?H) (o := ?o) ?n ?h); (case n => assumption); (case h => walk_at "hp"))
  | ((refine Nw.ne2 (H := ?H) (o := ?o) ?n ?h); (case n => assumption); (case h => walk_at "hp")))
local macro_rules | `(tactic| walk_at "hp") => `(tactic| first
  | assumption
  | exact upd_same
  | exact s_lsh (by assumption)
  | ((with_reducible refine s_hp ?n ?h); (case n => walk_at "ne"); (case h => walk_at "hp"))
  | ((refine s_fx0 (H := ?H) ?n ?h); (case n => assumption); (case h => walk_at "hp"))
  | ((refine s_fx1 (H := ?H) (b := ?b) ?e ?n ?h); (case e => assumption); (case n => walk_at "ne"); (case h => walk_at "hp"))
  | ((refine s_tl (S := ?S) (H := ?H) ?e ?h); (case e => assumption); (case h => walk_at "hp")))
local macro_rules | `(tactic| walk_at "mem") => `(tactic| first | exact List.mem_cons_self | exact List.mem_cons_of_mem _ List.mem_cons_self)
local macro_rules | `(tactic| walk_at "stp") => `(tactic| first
  | assumption
  | exact Stp.refl _ _
  | exact Stp.up (by assumption)
  | ((with_reducible refine s_newN ?e ?h); (case h => assumption); (case e => walk_at "stp"))
  | ((with_reducible refine s_wl (xs := ?xs) ?e ?h ?m); (case m => walk_at "mem"); (case h => walk_at "hp"); (case e => walk_at "stp"))
  | ((with_reducible refine s_ownN (xs := ?xs) ?e ?n ?h); (case n => assumption); (case h => walk_at "hp"); (case e => walk_at "stp"))
  | ((with_reducible refine s_ownDN ?e ?n); (case n => assumption); (case e => walk_at "stp"))
  | ((refine Stp.trans (H1 := ?H) ?a ?b); (case b => assumption); (case a => walk_at "stp")))
local macro_rules | `(tactic| walk_at "sql") => `(tactic| first
  | assumption
  | ((refine s_lsq (S := ?S) ?h); (case h => assumption))
  | ((refine s_sq ?h); (case h => walk_at "hp"))
  | ((refine s_lsq (S := ?S) (s_lm (H := ?H) ?h ?e)); (case h => assumption); (case e => walk_at "stp"))
  | ((refine s_sq0 (H := ?H) ?e ?h); (case h => assumption); (case e => walk_at "stp")))
local macro_rules | `(tactic| walk_at "go1") => `(tactic| first
  | with_reducible refine g_seq ?_
  | with_reducible refine g_set ?_
  | with_reducible refine g_ret ?_
  | with_reducible refine g_ifS ?_
  | with_reducible refine g_op ?_
  | ((with_reducible refine g_var (v := ?v) ?h ?_); (case h => exact rfl))
  | with_reducible refine g_c ?_
  | with_reducible refine g_I0 ?_
  | with_reducible refine g_cons ?_
  | with_reducible refine g_nil ?_
  | with_reducible refine g_cb ?_
  | with_reducible refine g_call ?_
  | with_reducible refine g_test ?_
  | with_reducible refine g_exbl ?_
  | with_reducible refine g_eqI ?_
  | with_reducible refine g_neI ?_
  | with_reducible refine g_eqS ?_
  | with_reducible refine g_neS ?_
  | with_reducible refine g_next ?_
  | with_reducible refine g_drop ?_
  | with_reducible refine g_asg ?_
  | with_reducible refine g_un ?_
  | with_reducible refine g_neg ?_
  | with_reducible refine g_tB ?_
  | with_reducible refine g_and ?_
  | with_reducible refine g_or ?_
  | with_reducible refine g_not ?_
  | with_reducible refine g_tup ?_
  | with_reducible refine g_lst ?_
  | with_reducible refine g_retN ?_
  | with_reducible refine g_if ?_
  | with_reducible refine g_andV ?_
  | with_reducible refine iteF ?_
  | with_reducible refine iteT ?_
  | with_reducible refine g_lc ?_
  | with_reducible refine g_gsub ?_
  | with_reducible refine g_pcons ?_
  | with_reducible refine g_pnil ?_
  | with_reducible refine g_dnotin ?_
  | with_reducible refine g_din ?_
  | with_reducible refine g_dget ?_
  | with_reducible refine g_dget2 ?_
  | with_reducible refine g_dput ?_
  | ((with_reducible refine g_isD (kvs := ?kvs) ?h ?_); (case h => walk_at "hp"))
  | ((with_reducible refine g_get2I (kvs := ?kvs) ?h ?_); (case h => walk_at "hp"))
  | with_reducible refine g_sl ?_
  | with_reducible refine g_noP ?_
  | with_reducible refine g_part ?_
  | with_reducible refine g_exint ?_
  | with_reducible refine g_gname ?_
  | with_reducible refine g_gcons ?_
  | with_reducible refine g_gnil ?_
  | with_reducible refine g_int1 ?_
  | with_reducible refine g_abs ?_
  | with_reducible refine g_min ?_
  | with_reducible refine g_max ?_
  | with_reducible refine g_for ?_
  | with_reducible refine g_isN ?_
  | with_reducible refine g_notN ?_
  | with_reducible refine g_iR1 ?_
  | with_reducible refine g_iR2 ?_
  | with_reducible refine g_iL ?_
  | with_reducible refine g_bm ?_
  | ((with_reducible refine g_I ?c ?_); (case c => first | assumption | exact .inl ⟨by decide, by decide⟩ | exact .inr ⟨by decide, by decide⟩ | exact ⟨by decide, by decide⟩ | exact ⟨by decide, by decide, by decide⟩ | ((show (0 : Int) < _); first | assumption | decide | omega)))
  | ((with_reducible refine g_setL (xs := ?xs) (j := ?j) ?h ?e ?_); (case h => walk_at "hp"); (case e => exact rfl))
  | ((with_reducible refine g_gtup (xs := ?xs) ?h ?e ?_); (case h => walk_at "hp"); (case e => exact rfl))
  | ((with_reducible refine g_tyL (xs := ?xs) ?h ?_); (case h => walk_at "hp"))
  | ((with_reducible refine g_rng1 ?h1 ?h2 ?_); (case h1 => omega); (case h2 => omega))
  | ((with_reducible refine g_ixT (xs := ?xs) (v := ?v) ?h ?e ?_); (case h => walk_at "hp"); (case e => exact rfl))
  | ((with_reducible refine g_ixTS (xs := ?xs) (v := ?v) ?h ?e ?_); (case h => assumption); (case e => exact rfl))
  | ((with_reducible refine g_ixL (xs := ?xs) (v := ?v) ?h ?e ?_); (case h => walk_at "sql"); (case e => exact rfl))
  | ((with_reducible refine g_lenL (xs := ?xs) ?h ?_); (case h => walk_at "sql"))
  | ((with_reducible refine g_lenT (xs := ?xs) ?h ?_); (case h => walk_at "hp")))
local macro_rules | `(tactic| walk_at "go") => `(tactic| repeat (walk_at "go1"))

def top (i : Nat) : Stmt := PySem.Challenge.pw_oathledger_k77_ledgers_compared.main.body.getD i (.Pass ⟨0, 0, 0, 0⟩)
abbrev s_follows : Stmt := top 2
theorem sc_follows : FnScope ["block", "parent"] ["block", "parent"] (defScope s_follows) := ⟨rfl, rfl, rfl, by decide +kernel, rfl, by decide +kernel, by decide +kernel⟩
abbrev s_ledger_commands : Stmt := top 4
theorem sc_ledger_commands : FnScope ["ledger", "commands", "block"] ["ledger"] (defScope s_ledger_commands) := ⟨rfl, rfl, rfl, by decide +kernel, rfl, by decide +kernel, by decide +kernel⟩
abbrev s_first_difference : Stmt := top 5
theorem sc_first_difference : FnScope ["first", "second", "index"] ["first", "second"] (defScope s_first_difference) := ⟨rfl, rfl, rfl, by decide +kernel, rfl, by decide +kernel, by decide +kernel⟩
abbrev s_agreement_fault : Stmt := top 6
theorem sc_agreement_fault : FnScope ["ledgers", "first", "second", "height"] ["ledgers"] (defScope s_agreement_fault) := ⟨rfl, rfl, rfl, by decide +kernel, rfl, by decide +kernel, by decide +kernel⟩
abbrev s_chain_fault : Stmt := top 7
theorem sc_chain_fault : FnScope ["ledger", "parent", "index"] ["ledger"] (defScope s_chain_fault) := ⟨rfl, rfl, rfl, by decide +kernel, rfl, by decide +kernel, by decide +kernel⟩
abbrev s_validity_fault : Stmt := top 8
theorem sc_validity_fault : FnScope ["ledger", "calls", "known", "greatest", "commands", "place", "client", "number", "_", "command"] ["ledger", "calls"] (defScope s_validity_fault) := ⟨rfl, rfl, rfl, by decide +kernel, rfl, by decide +kernel, by decide +kernel⟩
abbrev s_lost_fault : Stmt := top 9
theorem sc_lost_fault : FnScope ["events", "ledger", "event", "height"] ["events", "ledger"] (defScope s_lost_fault) := ⟨rfl, rfl, rfl, by decide +kernel, rfl, by decide +kernel, by decide +kernel⟩
abbrev s__law_draws : Stmt := top 11
theorem sc__law_draws : FnScope ["script", "draws", "k", "cell", "step", "mixed"] ["script"] (defScope s__law_draws) := ⟨rfl, rfl, rfl, by decide +kernel, rfl, by decide +kernel, by decide +kernel⟩
abbrev s__law_next : Stmt := top 12
theorem sc__law_next : FnScope ["draws", "at", "many", "index"] ["draws", "at", "many"] (defScope s__law_next) := ⟨rfl, rfl, rfl, by decide +kernel, rfl, by decide +kernel, by decide +kernel⟩
abbrev s__law_blocks : Stmt := top 14
theorem sc__law_blocks : FnScope ["commands", "draws", "at", "blocks", "epoch", "row", "command", "parent"] ["commands", "draws", "at"] (defScope s__law_blocks) := ⟨rfl, rfl, rfl, by decide +kernel, rfl, by decide +kernel, by decide +kernel⟩
abbrev s__law_drawn : Stmt := top 15
theorem sc__law_drawn : FnScope ["draws", "at", "numbers", "commands", "k", "client"] ["draws", "at"] (defScope s__law_drawn) := ⟨rfl, rfl, rfl, by decide +kernel, rfl, by decide +kernel, by decide +kernel⟩
abbrev s__law_other : Stmt := top 16
theorem sc__law_other : FnScope ["ledger", "draws", "at", "size", "other", "index", "block", "changed"] ["ledger", "draws", "at"] (defScope s__law_other) := ⟨rfl, rfl, rfl, by decide +kernel, rfl, by decide +kernel, by decide +kernel⟩
abbrev s__law_agreement : Stmt := top 17
theorem sc__law_agreement : FnScope ["ledgers", "i", "j", "k"] ["ledgers"] (defScope s__law_agreement) := ⟨rfl, rfl, rfl, by decide +kernel, rfl, by decide +kernel, by decide +kernel⟩
abbrev s__law_chain : Stmt := top 18
theorem sc__law_chain : FnScope ["ledger", "epoch", "k"] ["ledger"] (defScope s__law_chain) := ⟨rfl, rfl, rfl, by decide +kernel, rfl, by decide +kernel, by decide +kernel⟩
abbrev s__law_validity : Stmt := top 19
theorem sc__law_validity : FnScope ["commands", "calls", "k", "j"] ["commands", "calls"] (defScope s__law_validity) := ⟨rfl, rfl, rfl, by decide +kernel, rfl, by decide +kernel, by decide +kernel⟩
abbrev s__law_lost : Stmt := top 20
theorem sc__law_lost : FnScope ["events", "ledger", "event"] ["events", "ledger"] (defScope s__law_lost) := ⟨rfl, rfl, rfl, by decide +kernel, rfl, by decide +kernel, by decide +kernel⟩
abbrev s_law : Stmt := top 21
theorem sc_law : FnScope ["script", "draws", "at", "commands", "ledger", "ledgers", "events", "k", "block", "calls", "index", "row"] ["script"] (defScope s_law) := ⟨rfl, rfl, rfl, by decide +kernel, rfl, by decide +kernel, by decide +kernel⟩
structure Df (K : PySem.W.Frag) (mg : Str → Option Value) (x : Str) (st : Stmt) (ps : List Str) where
  f : Addr
  fd : FuncData
  F : Fun K x x st f fd
  m : mg x = some (.ref f)
  b : Binds K fd ps []
structure Txt (K : PySem.W.Frag) (mg : Str → Option Value) where
  d_follows : Df K mg "follows" s_follows ["block", "parent"]
  d_ledger_commands : Df K mg "ledger_commands" s_ledger_commands ["ledger"]
  d_first_difference : Df K mg "first_difference" s_first_difference ["first", "second"]
  d_agreement_fault : Df K mg "agreement_fault" s_agreement_fault ["ledgers"]
  d_chain_fault : Df K mg "chain_fault" s_chain_fault ["ledger"]
  d_validity_fault : Df K mg "validity_fault" s_validity_fault ["ledger", "calls"]
  d_lost_fault : Df K mg "lost_fault" s_lost_fault ["events", "ledger"]
  d__law_draws : Df K mg "_law_draws" s__law_draws ["script"]
  d__law_next : Df K mg "_law_next" s__law_next ["draws", "at", "many"]
  d__law_blocks : Df K mg "_law_blocks" s__law_blocks ["commands", "draws", "at"]
  d__law_drawn : Df K mg "_law_drawn" s__law_drawn ["draws", "at"]
  d__law_other : Df K mg "_law_other" s__law_other ["ledger", "draws", "at"]
  d__law_agreement : Df K mg "_law_agreement" s__law_agreement ["ledgers"]
  d__law_chain : Df K mg "_law_chain" s__law_chain ["ledger"]
  d__law_validity : Df K mg "_law_validity" s__law_validity ["commands", "calls"]
  d__law_lost : Df K mg "_law_lost" s__law_lost ["events", "ledger"]
  d_law : Df K mg "law" s_law ["script"]
  gA : Addr
  eA : Addr
  c_GENESIS : mg "GENESIS" = some (.ref gA)
  gT : ∀ H, SqT K H gA [.int 0, .int 0, .int 0, .ref eA]
  b_len : mg "len" = none
  b_range : mg "range" = none
  b_min : mg "min" = none
  b_max : mg "max" = none
  b_abs : mg "abs" = none
  b_int : mg "int" = none
  b_list : mg "list" = none

/-! ### the draws -/
def nx (ns : List Int) (i : Nat) (m : Int) : Int := ns.getD i 0 % m
def spNext : Sp := fun vs H Q _ => ∃ (dr at_ : Addr) (ns : List Int) (i : Nat) (m : Int), vs = [.ref dr, .ref at_, .int m] ∧ Ls [at_] H dr (ns.map V.int) ∧ H at_ = some (.lst [.int (i : Int)]) ∧ 0 < m ∧
  Q (.int (nx ns i m)) (upd H at_ (.lst [.int ((i + 1 : Nat) : Int)]))
section
variable {P : Program} {w : World} {K : PySem.W.Frag} {mg : Str → Option Value} {base : Heap}
theorem ix_int {ns : List Int} {i : Nat} (h : i < ns.length) : atI (ns.map V.int) (i : Int) = some (.int (ns.getD i 0)) := by
  refine atI_nat ?_
  rw [List.getElem?_map, List.getElem?_eq_getElem h, List.getD_eq_getElem?_getD, List.getElem?_eq_getElem h]; rfl
theorem ok__law_next (T : Txt K mg) : FnOk P w K mg base CX0 1 T.d__law_next.f T.d__law_next.fd ["draws", "at", "many"] spNext := by
  refine T.d__law_next.F.ok sc__law_next (fun vs H Q E h => ?_) (fun cdv A outer s H vs Q E hr h => ?_)
  · obtain ⟨_, _, _, _, _, rfl, _⟩ := h; rfl
  · obtain ⟨dr, at_, ns, i, m, rfl, hd, ha, hm, k⟩ := h
    refine ⟨_,
(pss_cons (ps_set (i := 3) sc__law_next.nd rfl (by first | exact .inl rfl | exact .inr rfl) (pe_ix ix_list (pv 1) pe_int (fun _ _ => rfl)))
 (pss_cons (ps_asg (pe_op op_add (pv 3) pe_int) (pg_sub (pv 1) pe_int set_list))
 (pss_cons (ps_if (pt_cmpR op_lt (pv 3) (pe_callB c_len (by rfl) T.b_len (by decide +kernel) (pa_cons (pv 0) pa_nil)) (nomark _))
 (pss_one (ps_ret (pe_op op_mod (pe_callTy c_int (by rfl) T.b_int (by decide +kernel) (pa_cons (pe_ix ix_list (pv 0) (pv 3) (fun _ _ => rfl)) pa_nil)) (pv 2))))
 pss_nil)
 (pss_one (ps_ret pe_int)))))
    , ?_⟩
    walk_at "go"
    rw [List.length_map]
    refine g_iteD (fun h1 => ?_) (fun h1 => ?_)
    · walk_at "go"
      refine g_ixL (xs := ns.map V.int) (by walk_at "sql") (ix_int (by omega)) ?_
      walk_at "go"
      exact k
    · walk_at "go"
      have e : nx ns i m = 0 := by
        unfold nx
        rw [List.getD_eq_getElem?_getD, List.getElem?_eq_none (by omega)]; simp
      rw [e] at k
      exact k

/-! ### the draws of a script: some list of ints -/
def spDraws (K : PySem.W.Frag) : Sp := fun vs H Q _ => ∃ (a : Addr) (ns : List Int), vs = [.ref a] ∧ SqL K H a (ns.map V.int) ∧ ns.length ≤ 63 ∧
  ∀ (p : Addr) (ds : List Int) (H' : Hp), Nw H p → Stp [] H H' → H' p = some (.lst (ds.map V.int)) → Q (.ref p) H'
theorem map_snoc (ds : List Int) (x : Int) : ds.map V.int ++ [V.int x] = (ds ++ [x]).map V.int := by simp
theorem ok__law_draws (T : Txt K mg) : FnOk P w K mg base CX0 1 T.d__law_draws.f T.d__law_draws.fd ["script"] (spDraws K) := by
  refine T.d__law_draws.F.ok sc__law_draws (fun vs H Q E h => ?_) (fun cdv A outer s H vs Q E hr h => ?_)
  · obtain ⟨_, _, rfl, _⟩ := h; rfl
  · obtain ⟨a, ns, rfl, hs, hz, k⟩ := h
    refine ⟨_,
(pss_cons (ps_set (i := 1) sc__law_draws.nd rfl (by first | exact .inl rfl | exact .inr rfl) (pe_lst pa_nil))
 (pss_cons (ps_for PassesOwn.never rfl (pi_range1 rfl T.b_range (pa_cons (pe_callB c_len (by rfl) T.b_len (by decide +kernel) (pa_cons (pv 0) pa_nil)) pa_nil)) (pg_name (i := 2) sc__law_draws.nd rfl (by first | exact .inl rfl | exact .inr rfl))
 (pss_cons (ps_set (i := 3) sc__law_draws.nd rfl (by first | exact .inl rfl | exact .inr rfl) (pe_callB c_abs (by rfl) T.b_abs (by decide +kernel) (pa_cons (pe_ix ix_list (pv 0) (pv 2) (fun _ _ => rfl)) pa_nil)))
 (pss_one (ps_if (pt_cmpR op_ge (pv 3) (pe_op op_pow pe_int pe_int) (nomark _))
 (pss_one (ps_for PassesOwn.never rfl (pi_range1 rfl T.b_range (pa_cons pe_int pa_nil)) (pg_name (i := 4) sc__law_draws.nd rfl (by first | exact .inl rfl | exact .inr rfl))
 (pss_cons (ps_expr (pe_bm PySem.F.plainAttrs_list PySem.F.slot_list_append PySem.F.type_list_append mt_append (pv 1) (pa_cons (pe_op op_mod (pe_callTy c_int (by rfl) T.b_int (by decide +kernel) (pa_cons (pv 3) pa_nil)) pe_int) pa_nil)))
 (pss_one (ps_set (i := 3) sc__law_draws.nd rfl (by first | exact .inl rfl | exact .inr rfl) (pe_op op_fdiv (pv 3) pe_int))))))
 (pss_cons (ps_set (i := 5) sc__law_draws.nd rfl (by first | exact .inl rfl | exact .inr rfl) (pe_op op_add (pv 3) pe_int))
 (pss_one (ps_for PassesOwn.never rfl (pi_range1 rfl T.b_range (pa_cons pe_int pa_nil)) (pg_name (i := 4) sc__law_draws.nd rfl (by first | exact .inl rfl | exact .inr rfl))
 (pss_cons (ps_set (i := 5) sc__law_draws.nd rfl (by first | exact .inl rfl | exact .inr rfl) (pe_op op_mod (pe_callTy c_int (by rfl) T.b_int (by decide +kernel) (pa_cons (pe_op op_add (pe_op op_add (pe_op op_mul (pv 5) pe_int) (pe_op op_mul pe_int (pe_op op_add (pv 2) (pv 4)))) pe_int) pa_nil)) pe_int))
 (pss_cons (ps_set (i := 5) sc__law_draws.nd rfl (by first | exact .inl rfl | exact .inr rfl) (pe_op op_mod (pe_callTy c_int (by rfl) T.b_int (by decide +kernel) (pa_cons (pe_op op_add (pe_op op_mul (pv 5) pe_int) pe_int) pa_nil)) pe_int))
 (pss_one (ps_expr (pe_bm PySem.F.plainAttrs_list PySem.F.slot_list_append PySem.F.type_list_append mt_append (pv 1) (pa_cons (pe_op op_mod (pe_callTy c_int (by rfl) T.b_int (by decide +kernel) (pa_cons (pe_op op_fdiv (pv 5) pe_int) pa_nil)) pe_int) pa_nil)))))))))))))
 (pss_one (ps_ret (pv 1)))))
    , ?_⟩
    walk_at "go"
    refine g_mkL (Nat.zero_le _) (fun l hl => ?_)
    walk_at "go"
    rw [List.length_map]
    refine g_rng1 (by omega) (by omega) ⟨fun i σ H' => ∃ (ds : List Int) (v2 v3 v4 v5 : Option V), σ = [some (.ref a), some (.ref l), v2, v3, v4, v5] ∧ Stp [] H H' ∧ H' l = some (.lst (ds.map V.int)) ∧ ds.length ≤ 40 * i,
      ⟨[], none, none, none, none, rfl, by walk_at "stp", upd_same, by simp⟩, fun i σ H' hi hP => ?_, fun σ H' hP => ?_⟩
    · obtain ⟨ds, v2, v3, v4, v5, rfl, st, hL, hd⟩ := hP
      have hi' : i < ns.length := by omega
      have hs' : SqL K H' a (ns.map V.int) := s_sq0 st hs
      walk_at "go"
      rw [Int.zero_add]
      refine g_ixL hs' (ix_int hi') ?_
      walk_at "go"
      refine g_iteD (fun h1 => ?_) (fun h1 => ?_)
      · walk_at "go"
        refine ⟨fun j σ H2 => ∃ (ds : List Int) (c : Int) (v4 v5 : Option V), σ = [some (.ref a), some (.ref l), some (.int (i : Int)), some (.int c), v4, v5] ∧ Stp [] H H2 ∧ H2 l = some (.lst (ds.map V.int)) ∧ ds.length ≤ 40 * i + j,
          ⟨ds, _, v4, v5, rfl, st, hL, by omega⟩, fun j σ H2 hj hP => ?_, fun σ H2 hP => ?_⟩
        · obtain ⟨ds, c, v4, v5, rfl, st, hL, hd⟩ := hP
          have hj' : j < 40 := hj
          walk_at "go"
          refine g_app hL (by rw [List.length_map, sizeLine_eq]; omega) ?_
          walk_at "go"
          exact ⟨ds ++ [c % 1000], c / 1000, _, _, rfl, by walk_at "stp", by rw [upd_same, map_snoc], by simp; omega⟩
        · obtain ⟨ds, c, v4, v5, rfl, st, hL, hd⟩ := hP
          have hd' : ds.length ≤ 40 * i + 40 := hd
          exact ⟨ds, _, _, _, _, rfl, st, hL, by omega⟩
      · walk_at "go"
        refine ⟨fun j σ H2 => ∃ (ds : List Int) (x : Int) (v4 : Option V), σ = [some (.ref a), some (.ref l), some (.int (i : Int)), some (.int (if ns.getD i 0 < 0 then -ns.getD i 0 else ns.getD i 0)), v4, some (.int x)] ∧ Stp [] H H2 ∧ H2 l = some (.lst (ds.map V.int)) ∧ ds.length ≤ 40 * i + j,
          ⟨ds, _, v4, rfl, st, hL, by omega⟩, fun j σ H2 hj hP => ?_, fun σ H2 hP => ?_⟩
        · obtain ⟨ds, x, v4, rfl, st, hL, hd⟩ := hP
          have hj' : j < 8 := hj
          walk_at "go"
          refine g_app hL (by rw [List.length_map, sizeLine_eq]; omega) ?_
          walk_at "go"
          refine ⟨ds ++ [_], _, _, rfl, by walk_at "stp", by rw [upd_same, map_snoc], by simp; omega⟩
        · obtain ⟨ds, x, v4, rfl, st, hL, hd⟩ := hP
          have hd' : ds.length ≤ 40 * i + 8 := hd
          exact ⟨ds, _, _, _, _, rfl, st, hL, by omega⟩
    · obtain ⟨ds, v2, v3, v4, v5, rfl, st, hL, hd⟩ := hP
      walk_at "go"
      exact k l ds H' hl st hL
end

/-! ### the data of this law -/
abbrev Cm := Int × Int
def encC (c : Cm) : PyData := .tuple [.int c.1, .int c.2, .str "get a"]
structure Bk where
  e : Int
  p : Int
  h : Int
  cs : List Cm
  deriving DecidableEq
def encB (b : Bk) : PyData := .tuple [.int b.e, .int b.p, .int b.h, .tuple (b.cs.map encC)]
def cmds (bs : List Bk) : List Cm := bs.flatMap (·.cs)
theorem cmds_snoc (bs : List Bk) (b : Bk) : cmds (bs ++ [b]) = cmds bs ++ b.cs := by simp [cmds]
theorem take_snoc {α : Type} {l : List α} {i : Nat} {x : α} (h : l[i]? = some x) : l.take (i + 1) = l.take i ++ [x] := by
  rw [List.take_add_one, h]; rfl
theorem cmds_take {bs : List Bk} {i : Nat} {b : Bk} (h : bs[i]? = some b) : cmds (bs.take (i + 1)) = cmds (bs.take i) ++ b.cs := by
  rw [take_snoc h, cmds_snoc]
theorem cmds_le (bs : List Bk) (i : Nat) : (cmds (bs.take i)).length ≤ (cmds bs).length := by
  have h : cmds bs = cmds (bs.take i) ++ cmds (bs.drop i) := by
    unfold cmds; rw [← List.flatMap_append, List.take_append_drop]
  rw [h, List.length_append]; omega
theorem lay_get : PyData.canLay0 (.str "get a") = true := by decide +kernel
theorem encC_lay (c : Cm) : (encC c).canLay0 = true := by
  unfold encC; rw [PyData.canLay0, PyData.canLayAll0, PyData.canLayAll0, PyData.canLayAll0, PyData.canLayAll0, lay_get]; rfl
theorem encC_dep (c : Cm) : (encC c).depth ≤ 1 := by
  unfold encC; simp [PyData.depth, PyData.depthAll]
theorem lay_map {α : Type} {f : α → PyData} (h : ∀ x, (f x).canLay0 = true) : ∀ l : List α, PyData.canLayAll0 (l.map f) = true
  | [] => rfl
  | a :: r => by rw [List.map_cons, PyData.canLayAll0, h a, lay_map h r]; rfl
theorem dep_map {α : Type} {f : α → PyData} {n : Nat} (h : ∀ x, (f x).depth ≤ n) : ∀ l : List α, PyData.depthAll (l.map f) ≤ n
  | [] => by simp [PyData.depthAll]
  | a :: r => by
    rw [List.map_cons, PyData.depthAll]
    have := h a; have := dep_map h r; omega
theorem encB_lay (b : Bk) : (encB b).canLay0 = true := by
  unfold encB
  rw [PyData.canLay0, PyData.canLayAll0, PyData.canLayAll0, PyData.canLayAll0, PyData.canLayAll0, PyData.canLayAll0, PyData.canLay0, PyData.canLay0, PyData.canLay0, PyData.canLay0, lay_map encC_lay]; rfl
theorem encB_dep (b : Bk) : (encB b).depth ≤ 3 := by
  unfold encB
  have h := dep_map encC_dep b.cs
  simp [PyData.depth, PyData.depthAll]; omega
theorem encB_sh (b : Bk) : SeqAt.shaped (encB b) = true := shaped_of (encB_lay b) (by have := encB_dep b; omega)
theorem encC_sh (b : Cm) : SeqAt.shaped (encC b) = true := shaped_of (encC_lay b) (by have := encC_dep b; omega)
theorem encC_eqv (a b : Cm) : PyData.eqv (encC a) (encC b) = decide (a = b) := by
  obtain ⟨a1, a2⟩ := a; obtain ⟨b1, b2⟩ := b
  unfold encC
  rw [eqv_tup, eqvAll_cons, eqvAll_cons, eqvAll_cons, eqvAll_nil, eqv_int, eqv_int, eqv_str]
  simp
theorem map_eqv {α : Type} [DecidableEq α] {f : α → PyData} (h : ∀ a b, PyData.eqv (f a) (f b) = decide (a = b)) : ∀ l m : List α, PyData.eqvAll (l.map f) (m.map f) = decide (l = m)
  | [], [] => by rw [List.map_nil, eqvAll_nil]; rfl
  | [], b :: m => by rw [List.map_nil, List.map_cons, PyData.eqvAll]; rfl
  | a :: l, [] => by rw [List.map_nil, List.map_cons, PyData.eqvAll]; rfl
  | a :: l, b :: m => by
    rw [List.map_cons, List.map_cons, eqvAll_cons, h, map_eqv h l m]
    by_cases e : a = b <;> simp [e]
theorem encB_eqv (a b : Bk) : PyData.eqv (encB a) (encB b) = decide (a = b) := by
  obtain ⟨a1, a2, a3, a4⟩ := a; obtain ⟨b1, b2, b3, b4⟩ := b
  unfold encB
  rw [eqv_tup, eqvAll_cons, eqvAll_cons, eqvAll_cons, eqvAll_cons, eqvAll_nil, eqv_int, eqv_int, eqv_int, eqv_tup, map_eqv encC_eqv]
  simp [Bool.and_assoc]
/-- a block that is read -/
theorem bkI {H : Hp} {v : V} {b : Bk} (h : Tp H v (encB b)) : ∃ a t xs, v = .ref a ∧ H a = some (.tup [.int b.e, .int b.p, .int b.h, .ref t]) ∧ H t = some (.tup xs) ∧ TpA H xs (b.cs.map encC) := by
  obtain ⟨a, xs, rfl, ha, hs⟩ := tupI h
  obtain ⟨v1, r1, rfl, h1, hs⟩ := consI hs
  obtain ⟨v2, r2, rfl, h2, hs⟩ := consI hs
  obtain ⟨v3, r3, rfl, h3, hs⟩ := consI hs
  obtain ⟨v4, r4, rfl, h4, hs⟩ := consI hs
  obtain rfl := nilI hs
  obtain rfl := intI h1
  obtain rfl := intI h2
  obtain rfl := intI h3
  obtain ⟨t, ys, rfl, ht, hy⟩ := tupI h4
  exact ⟨a, t, ys, rfl, ha, ht, hy⟩
theorem cmI {H : Hp} {v : V} {c : Cm} (h : Tp H v (encC c)) : ∃ a, v = .ref a ∧ H a = some (.tup [.int c.1, .int c.2, .str "get a"]) := by
  obtain ⟨a, xs, rfl, ha, hs⟩ := tupI h
  obtain ⟨v1, r1, rfl, h1, hs⟩ := consI hs
  obtain ⟨v2, r2, rfl, h2, hs⟩ := consI hs
  obtain ⟨v3, r3, rfl, h3, hs⟩ := consI hs
  obtain rfl := nilI hs
  obtain rfl := intI h1
  obtain rfl := intI h2
  obtain rfl := strI h3
  exact ⟨a, rfl, ha⟩
theorem g_neB {H : Hp} {K : PySem.W.Frag} {Q : VK} {x y : V} {a b : Bk} (hx : Tp H x (encB a)) (hy : Tp H y (encB b)) (k : Q (.bl (!decide (a = b))) H) : rNeD K x y H Q :=
  g_neD hx hy (encB_sh a) (encB_sh b) (by rw [encB_eqv]; exact k)
/-- a list of data that is read -/
def LD {α : Type} (K : PySem.W.Frag) (H : Hp) (a : Addr) (f : α → PyData) (l : List α) : Prop := ∃ xs, SqL K H a xs ∧ TpA H xs (l.map f)
theorem LD.get {α : Type} {K : PySem.W.Frag} {H : Hp} {a : Addr} {f : α → PyData} {l : List α} {xs : List V} (h : TpA H xs (l.map f)) {i : Nat} {x : α} (e : l[i]? = some x) : ∃ v, xs[i]? = some v ∧ Tp H v (f x) :=
  h.get (by rw [List.getElem?_map, e]; rfl)
theorem LD.getV {α : Type} {H : Hp} {f : α → PyData} {l : List α} {xs : List V} (h : TpA H xs (l.map f)) {i : Nat} {v : V} (e : xs[i]? = some v) : ∃ x, l[i]? = some x ∧ Tp H v (f x) := by
  obtain ⟨d, hd, ht⟩ := h.getV e
  rw [List.getElem?_map] at hd
  cases q : l[i]? with
  | none => rw [q] at hd; cases hd
  | some x => rw [q] at hd; cases hd; exact ⟨x, rfl, ht⟩
theorem LD.len {α : Type} {H : Hp} {f : α → PyData} {l : List α} {xs : List V} (h : TpA H xs (l.map f)) : xs.length = l.length := by rw [h.len, List.length_map]

/-! ### the program -/
def spFollows (K : PySem.W.Frag) : Sp := fun vs H Q _ => ∃ (a c : Addr) (e p h e' p' h' : Int) (t t' : V), vs = [.ref a, .ref c] ∧ SqT K H a [.int e, .int p, .int h, t] ∧ SqT K H c [.int e', .int p', .int h', t'] ∧
  Q (.bl (decide (p = e' ∧ h = h' + 1))) H
def spCmds (K : PySem.W.Frag) : Sp := fun vs H Q _ => ∃ (a : Addr) (bs : List Bk), vs = [.ref a] ∧ LD K H a encB bs ∧ (cmds bs).length ≤ 10000 ∧
  ∀ (p : Addr) (ys : List V) (H' : Hp), Nw H p → Stp [] H H' → H' p = some (.lst ys) → TpA H' ys ((cmds bs).map encC) → Q (.ref p) H'
def fdM (as bs : List Bk) : Option Nat := fs (min as.length bs.length) fun k => if as[k]? = bs[k]? then none else some (k + 1)
def onV : Option Nat → V
  | none => .non
  | some n => .int (n : Int)
def spFd (K : PySem.W.Frag) : Sp := fun vs H Q _ => ∃ (a b : Addr) (as bs : List Bk), vs = [.ref a, .ref b] ∧ LD K H a encB as ∧ LD K H b encB bs ∧ as.length ≤ 100 ∧ bs.length ≤ 100 ∧ Q (onV (fdM as bs)) H
section
variable {P : Program} {w : World} {K : PySem.W.Frag} {mg : Str → Option Value} {base : Heap}
theorem ok_follows (T : Txt K mg) : FnOk P w K mg base CX0 1 T.d_follows.f T.d_follows.fd ["block", "parent"] (spFollows K) := by
  refine T.d_follows.F.ok sc_follows (fun vs H Q E h => ?_) (fun cdv A outer s H vs Q E hr h => ?_)
  · obtain ⟨_, _, _, _, _, _, _, _, _, _, rfl, _⟩ := h; rfl
  · obtain ⟨a, c, e, p, h, e', p', h', t, t', rfl, ha, hc, k⟩ := h
    refine ⟨_,
(pss_one (ps_ret (pe_and (pe_cmpR op_eq (pe_ix ix_tup (pv 0) pe_int (fun _ _ => rfl)) (pe_ix ix_tup (pv 1) pe_int (fun _ _ => rfl)) (nomark _)) (pe_one (pe_cmpR op_eq (pe_ix ix_tup (pv 0) pe_int (fun _ _ => rfl)) (pe_op op_add (pe_ix ix_tup (pv 1) pe_int (fun _ _ => rfl)) pe_int) (nomark _))))))
    , ?_⟩
    walk_at "go"
    refine g_iteD (fun h1 => ?_) (fun h1 => ?_)
    · walk_at "go"
      rw [decide_eq_decide.mpr (show h = h' + 1 ↔ (p = e' ∧ h = h' + 1) from ⟨fun q => ⟨h1, q⟩, fun q => q.2⟩)]
      exact k
    · rw [decide_eq_false (fun q => h1 q.1)] at k
      exact k
theorem ok_ledger_commands (T : Txt K mg) : FnOk P w K mg base CX0 1 T.d_ledger_commands.f T.d_ledger_commands.fd ["ledger"] (spCmds K) := by
  refine T.d_ledger_commands.F.ok sc_ledger_commands (fun vs H Q E h => ?_) (fun cdv A outer s H vs Q E hr h => ?_)
  · obtain ⟨_, _, rfl, _⟩ := h; rfl
  · obtain ⟨a, bs, rfl, ⟨xs, hs, ht⟩, hz, k⟩ := h
    refine ⟨_,
(pss_cons (ps_set (i := 1) sc_ledger_commands.nd rfl (by first | exact .inl rfl | exact .inr rfl) (pe_lst pa_nil))
 (pss_cons (ps_for PassesOwn.never rfl (pi_list (pv 0)) (pg_name (i := 2) sc_ledger_commands.nd rfl (by first | exact .inl rfl | exact .inr rfl))
 (pss_one (ps_expr (pe_bm PySem.F.plainAttrs_list PySem.F.slot_list_extend PySem.F.type_list_extend mt_extend (pv 1) (pa_cons (pe_callTy c_list (by rfl) T.b_list (by decide +kernel) (pa_cons (pe_ix ix_tup (pv 2) pe_int (fun _ _ => rfl)) pa_nil)) pa_nil)))))
 (pss_one (ps_ret (pv 1)))))
    , ?_⟩
    walk_at "go"
    refine g_mkL (Nat.zero_le _) (fun l hl => ?_)
    walk_at "go"
    refine g_forL (xs := xs) (by walk_at "sql") ⟨fun i σ H' => ∃ (ys : List V) (v2 : Option V), σ = [some (.ref a), some (.ref l), v2] ∧ Stp [] H H' ∧ H' l = some (.lst ys) ∧ TpA H' ys ((cmds (bs.take i)).map encC),
      ⟨[], none, rfl, by walk_at "stp", upd_same, .nil⟩, fun i σ H' _ hP => ?_, fun i x σ H' hx hP => ?_, fun σ H' hP => ?_⟩
    · obtain ⟨ys, v2, rfl, st, hL, hT⟩ := hP
      exact s_sq0 st hs
    · obtain ⟨ys, v2, rfl, st, hL, hT⟩ := hP
      obtain ⟨b, hb, hB⟩ := LD.getV ht hx
      obtain ⟨c, t, zs, rfl, hc, htt, hzs⟩ := bkI (hB.mono st.tl)
      have e1 := cmds_take hb
      have e2 := cmds_le bs (i + 1)
      rw [e1, List.length_append] at e2
      have l1 := LD.len hT
      have l2 := LD.len hzs
      walk_at "go"
      refine g_listT htt (fun q hq => ?_)
      walk_at "go"
      refine g_ext (by walk_at "hp") upd_same (by rw [sizeLine_eq]; omega) ?_
      walk_at "go"
      have st2 : Stp [] H (upd (upd H' q (.lst zs)) l (.lst (ys ++ zs))) := by walk_at "stp"
      have tl2 : TLe H' (upd (upd H' q (.lst zs)) l (.lst (ys ++ zs))) := by
        have z : Stp [l] H' (upd (upd H' q (.lst zs)) l (.lst (ys ++ zs))) := by walk_at "stp"
        exact z.tl
      refine ⟨_, _, rfl, st2, upd_same, ?_⟩
      rw [e1, List.map_append]
      exact (hT.mono tl2).app (hzs.mono tl2)
    · obtain ⟨ys, v2, rfl, st, hL, hT⟩ := hP
      walk_at "go"
      rw [LD.len ht, List.take_length] at hT
      exact k l ys H' hl st hL hT
theorem ok_first_difference (T : Txt K mg) : FnOk P w K mg base CX0 1 T.d_first_difference.f T.d_first_difference.fd ["first", "second"] (spFd K) := by
  refine T.d_first_difference.F.ok sc_first_difference (fun vs H Q E h => ?_) (fun cdv A outer s H vs Q E hr h => ?_)
  · obtain ⟨_, _, _, _, rfl, _⟩ := h; rfl
  · obtain ⟨a, b, as, bs, rfl, ⟨xs, hs, ht⟩, ⟨ys, hs', ht'⟩, hz, hz', k⟩ := h
    refine ⟨_,
(pss_cons (ps_for PassesOwn.never rfl (pi_range1 rfl T.b_range (pa_cons (pe_callB (c_min2 rfl) (by rfl) T.b_min (by decide +kernel) (pa_cons (pe_callB c_len (by rfl) T.b_len (by decide +kernel) (pa_cons (pv 0) pa_nil)) (pa_cons (pe_callB c_len (by rfl) T.b_len (by decide +kernel) (pa_cons (pv 1) pa_nil)) pa_nil))) pa_nil)) (pg_name (i := 2) sc_first_difference.nd rfl (by first | exact .inl rfl | exact .inr rfl))
 (pss_one (ps_if (pt_cmpR (op_neD hr.units) (pe_ix ix_list (pv 0) (pv 2) (fun _ _ => rfl)) (pe_ix ix_list (pv 1) (pv 2) (fun _ _ => rfl)) (nomark _))
 (pss_one (ps_ret (pe_op op_add (pv 2) pe_int)))
 pss_nil)))
 (pss_one (ps_ret pe_non)))
    , ?_⟩
    have e1 := LD.len ht
    have e2 := LD.len ht'
    walk_at "go"
    rw [e1, e2]
    have e3 : (if (bs.length : Int) < (as.length : Int) then (bs.length : Int) else (as.length : Int)) = ((min as.length bs.length : Nat) : Int) := by
      split <;> omega
    rw [e3]
    refine ⟨fun i σ H' => ∃ v2, σ = [some (.ref a), some (.ref b), v2] ∧ H' = H ∧ ∀ j, j < i → as[j]? = bs[j]?, ⟨none, rfl, rfl, fun j hj => absurd hj (Nat.not_lt_zero _)⟩, fun i σ H' hi hP => ?_, fun σ H' hP => ?_⟩
    · obtain ⟨v2, rfl, rfl, hP⟩ := hP
      have hi1 : i < as.length := by omega
      have hi2 : i < bs.length := by omega
      obtain ⟨v, hv, hV⟩ := LD.get (K := K) (a := a) ht (List.getElem?_eq_getElem hi1)
      obtain ⟨u, hu, hU⟩ := LD.get (K := K) (a := a) ht' (List.getElem?_eq_getElem hi2)
      walk_at "go"
      rw [Int.zero_add]
      refine g_ixL hs (atI_nat hv) ?_
      walk_at "go"
      refine g_ixL hs' (atI_nat hu) ?_
      refine g_neB hV hU ?_
      walk_at "go"
      refine g_iteN (fun h1 => ?_) (fun h1 => ?_)
      · walk_at "go"
        have e : fdM as bs = some (i + 1) := fs_some (i := i) (fun j hj => if_pos (hP j hj)) (by omega) (if_neg (by rw [List.getElem?_eq_getElem hi1, List.getElem?_eq_getElem hi2]; simpa using h1))
        rw [e] at k
        exact k
      · walk_at "go"
        refine ⟨_, rfl, rfl, fun j hj => ?_⟩
        by_cases q : j = i
        · subst q
          rw [List.getElem?_eq_getElem hi1, List.getElem?_eq_getElem hi2, h1]
        · exact hP j (by omega)
    · obtain ⟨v2, rfl, rfl, hP⟩ := hP
      walk_at "go"
      have e : fdM as bs = none := fs_none fun j hj => if_pos (hP j (by omega))
      rw [e] at k
      exact k
end

/-- a list of ledgers that is read -/
def LL (K : PySem.W.Frag) (H : Hp) (a : Addr) (ls : List (List Bk)) : Prop := ∃ rs : List Addr, SqL K H a (rs.map V.ref) ∧ rs.length = ls.length ∧ ∀ (i : Nat) (r : Addr), rs[i]? = some r → ∃ l, ls[i]? = some l ∧ LD K H r encB l
theorem LL.get {K : PySem.W.Frag} {H : Hp} {ls : List (List Bk)} {rs : List Addr} (hl : rs.length = ls.length) (h : ∀ (i : Nat) (r : Addr), rs[i]? = some r → ∃ l, ls[i]? = some l ∧ LD K H r encB l) {i : Nat} (hi : i < ls.length) :
    ∃ r, rs[i]? = some r ∧ (rs.map V.ref)[i]? = some (.ref r) ∧ LD K H r encB (ls.getD i []) ∧ ls.getD i [] ∈ ls := by
  have e : rs[i]? = some (rs[i]'(by omega)) := List.getElem?_eq_getElem _
  obtain ⟨l, hl2, hd⟩ := h i _ e
  refine ⟨_, e, by rw [List.getElem?_map, e]; rfl, ?_, ?_⟩
  · rw [List.getD_eq_getElem?_getD, hl2]; exact hd
  · rw [List.getD_eq_getElem?_getD, hl2]; exact List.mem_of_getElem? hl2
def agM (ls : List (List Bk)) : Option (Nat × Nat × Nat) := fs ls.length fun i => fs (ls.length - (i + 1)) fun k => (fdM (ls.getD i []) (ls.getD (i + 1 + k) [])).map fun h => (i, i + 1 + k, h)
def encA : Option (Nat × Nat × Nat) → PyData
  | none => .none
  | some (i, j, h) => .tuple [.str "agreement", .int (i : Int), .int (j : Int), .int (h : Int)]
def spAg (K : PySem.W.Frag) : Sp := fun vs H Q _ => ∃ (a : Addr) (ls : List (List Bk)), vs = [.ref a] ∧ LL K H a ls ∧ ls.length ≤ 100 ∧ (∀ l ∈ ls, l.length ≤ 100) ∧
  ∀ (v : V) (H' : Hp), Stp [] H H' → Tp H' v (encA (agM ls)) → Q v H'
theorem ag_some {ls : List (List Bk)} {i k h : Nat} (h1 : ∀ i', i' < i → ∀ k', k' < ls.length - (i' + 1) → fdM (ls.getD i' []) (ls.getD (i' + 1 + k') []) = none)
    (h2 : ∀ k', k' < k → fdM (ls.getD i []) (ls.getD (i + 1 + k') []) = none) (hi : i < ls.length) (hk : k < ls.length - (i + 1)) (e : fdM (ls.getD i []) (ls.getD (i + 1 + k) []) = some h) : agM ls = some (i, i + 1 + k, h) := by
  refine fs_some (i := i) (fun j hj => fs_none fun k' hk' => by rw [h1 j hj k' hk']; rfl) hi (fs_some (i := k) (fun k' hk' => by rw [h2 k' hk']; rfl) hk (by rw [e]; rfl))
theorem ag_none {ls : List (List Bk)} (h1 : ∀ i', i' < ls.length → ∀ k', k' < ls.length - (i' + 1) → fdM (ls.getD i' []) (ls.getD (i' + 1 + k') []) = none) : agM ls = none :=
  fs_none fun j hj => fs_none fun k' hk' => by rw [h1 j hj k' hk']; rfl
def chM (bs : List Bk) : Option Nat := fs bs.length fun k => if (bs[k]?.map (·.p)) = some (if k = 0 then 0 else (bs[k - 1]?.map (·.e)).getD 0) ∧ (bs[k]?.map (·.h)) = some ((k : Int) + 1) then none else some (k + 1)
def encCh : Option Nat → PyData
  | none => .none
  | some k => .tuple [.str "chain", .int (k : Int)]
def spCh (K : PySem.W.Frag) : Sp := fun vs H Q _ => ∃ (a : Addr) (bs : List Bk), vs = [.ref a] ∧ LD K H a encB bs ∧ bs.length ≤ 100 ∧
  ∀ (v : V) (H' : Hp), Stp [] H H' → Tp H' v (encCh (chM bs)) → Q v H'
def encE (x : Nat × Bk) : PyData := .tuple [.str "final", .int (x.1 : Int), .int (x.1 : Int), encB x.2]
def loM (es : List (Nat × Bk)) (bs : List Bk) : Option (Nat × Int) := fs es.length fun i => match es[i]? with
  | some (k, b) => if b ∈ bs then none else some (k, b.h)
  | none => none
def encLo : Option (Nat × Int) → PyData
  | none => .none
  | some (k, h) => .tuple [.str "lost", .int (k : Int), .int h]
/-- heights as they should be -/
def Hts (bs : List Bk) : Prop := ∀ (i : Nat) (b : Bk), bs[i]? = some b → b.h = (i : Int) + 1
def spLo (K : PySem.W.Frag) : Sp := fun vs H Q _ => ∃ (a c : Addr) (es : List (Nat × Bk)) (bs : List Bk), vs = [.ref a, .ref c] ∧ LD K H a encE es ∧ LD K H c encB bs ∧ es.length ≤ 1000 ∧ bs.length ≤ 100 ∧ Hts bs ∧ (∀ x ∈ es, 1 ≤ x.2.h) ∧
  ∀ (v : V) (H' : Hp), Stp [] H H' → Tp H' v (encLo (loM es bs)) → Q v H'
section
variable {P : Program} {w : World} {K : PySem.W.Frag} {mg : Str → Option Value} {base : Heap}
theorem ok_agreement_fault (T : Txt K mg) : FnOk P w K mg base CX0 2 T.d_agreement_fault.f T.d_agreement_fault.fd ["ledgers"] (spAg K) := by
  refine T.d_agreement_fault.F.ok sc_agreement_fault (fun vs H Q E h => ?_) (fun cdv A outer s H vs Q E hr h => ?_)
  · obtain ⟨_, _, rfl, _⟩ := h; rfl
  · obtain ⟨a, ls, rfl, ⟨rs, hs, hl, hg⟩, hz, hz2, k⟩ := h
    refine ⟨_,
(pss_cons (ps_for PassesOwn.never rfl (pi_range1 rfl T.b_range (pa_cons (pe_callB c_len (by rfl) T.b_len (by decide +kernel) (pa_cons (pv 0) pa_nil)) pa_nil)) (pg_name (i := 1) sc_agreement_fault.nd rfl (by first | exact .inl rfl | exact .inr rfl))
 (pss_one (ps_for PassesOwn.never rfl (pi_range2 rfl T.b_range (pa_cons (pe_op op_add (pv 1) pe_int) (pa_cons (pe_callB c_len (by rfl) T.b_len (by decide +kernel) (pa_cons (pv 0) pa_nil)) pa_nil))) (pg_name (i := 2) sc_agreement_fault.nd rfl (by first | exact .inl rfl | exact .inr rfl))
 (pss_cons (ps_set (i := 3) sc_agreement_fault.nd rfl (by first | exact .inl rfl | exact .inr rfl) (pe_call (ok_first_difference T) (hr.mono (by decide)) rfl T.d_first_difference.m T.d_first_difference.F.kp T.d_first_difference.b .nil pass0 (pa_cons (pe_ix ix_list (pv 0) (pv 1) (fun _ _ => rfl)) (pa_cons (pe_ix ix_list (pv 0) (pv 2) (fun _ _ => rfl)) pa_nil))))
 (pss_one (ps_if (pt_cmpR o_notN (pv 3) pe_non (nomark _))
 (pss_one (ps_ret (pe_tup (pa_cons pe_str (pa_cons (pv 1) (pa_cons (pv 2) (pa_cons (pv 3) pa_nil)))))))
 pss_nil))))))
 (pss_one (ps_ret pe_non)))
    , ?_⟩
    have e1 : (rs.map V.ref).length = ls.length := by rw [List.length_map, hl]
    walk_at "go"
    rw [e1]
    refine ⟨fun i σ H' => ∃ v1 v2 v3, σ = [some (.ref a), v1, v2, v3] ∧ H' = H ∧ ∀ i', i' < i → ∀ k', k' < ls.length - (i' + 1) → fdM (ls.getD i' []) (ls.getD (i' + 1 + k') []) = none,
      ⟨none, none, none, rfl, rfl, fun _ hj => absurd hj (Nat.not_lt_zero _)⟩, fun i σ H' hi hP => ?_, fun σ H' hP => ?_⟩
    · obtain ⟨v1, v2, v3, rfl, rfl, hP⟩ := hP
      have hi' : i < ls.length := by omega
      walk_at "go"
      rw [e1]
      refine g_rng2 (by omega) ⟨fun k' σ H2 => ∃ v2 v3, σ = [some (.ref a), some (.int (i : Int)), v2, v3] ∧ H2 = H' ∧ ∀ k'', k'' < k' → fdM (ls.getD i []) (ls.getD (i + 1 + k'') []) = none,
        ⟨v2, v3, by rw [Int.zero_add]; rfl, rfl, fun _ hj => absurd hj (Nat.not_lt_zero _)⟩, fun k' σ H2 hk hQ => ?_, fun σ H2 hQ => ?_⟩
      · obtain ⟨v2, v3, rfl, rfl, hQ⟩ := hQ
        have hk' : k' < ls.length - (i + 1) := by omega
        obtain ⟨r1, hr1, hv1, hd1, hm1⟩ := LL.get hl hg hi'
        obtain ⟨r2, hr2, hv2, hd2, hm2⟩ := LL.get hl hg (i := i + 1 + k') (by omega)
        walk_at "go"
        refine g_ixL hs (atI_nat hv1) ?_
        walk_at "go"
        refine g_ixL hs (at_of (j := i + 1 + k') (by omega) hv2) ?_
        walk_at "go"
        refine ⟨r1, r2, _, _, rfl, hd1, hd2, hz2 _ hm1, hz2 _ hm2, ?_⟩
        walk_at "go"
        cases hf : fdM (ls.getD i []) (ls.getD (i + 1 + k') []) with
        | none =>
          refine g_iteN (fun z => absurd rfl z) (fun _ => ?_)
          walk_at "go"
          refine ⟨_, _, rfl, rfl, fun k'' hk'' => ?_⟩
          by_cases q : k'' = k'
          · subst q; exact hf
          · exact hQ k'' (by omega)
        | some n =>
          refine g_iteN (fun _ => ?_) (fun z => nomatch z)
          walk_at "go"
          refine g_mkT (sz16 (by decide : 4 ≤ 100000)) (fun q hq => ?_)
          refine k _ _ (by walk_at "stp") ?_
          rw [ag_some hP hQ hi' hk' hf]
          have e2 : (((i + 1 + k' : Nat)) : Int) = 0 + (i : Int) + 1 + (k' : Int) := by omega
          show Tp _ _ (.tuple [.str "agreement", .int (i : Int), .int ((i + 1 + k' : Nat) : Int), .int (n : Int)])
          rw [e2]
          exact .tup upd_same (.cons (.str _) (.cons (.int _) (.cons (.int _) (.cons (.int _) .nil))))
      · obtain ⟨v2, v3, rfl, rfl, hQ⟩ := hQ
        refine ⟨_, _, _, rfl, rfl, fun i' hi'' k' hk' => ?_⟩
        by_cases q : i' = i
        · subst q; exact hQ k' (by omega)
        · exact hP i' (by omega) k' hk'
    · obtain ⟨v1, v2, v3, rfl, rfl, hP⟩ := hP
      walk_at "go"
      refine k _ _ (by walk_at "stp") ?_
      rw [ag_none fun i' hi' => hP i' (by omega)]
      exact .non
theorem ch_step {bs : List Bk} {k : Nat} {b : Bk} {e : Int} (hb : bs[k]? = some b) (he : e = if k = 0 then 0 else (bs[k - 1]?.map (·.e)).getD 0) :
    (if (bs[k]?.map (·.p)) = some (if k = 0 then 0 else (bs[k - 1]?.map (·.e)).getD 0) ∧ (bs[k]?.map (·.h)) = some ((k : Int) + 1) then none else some (k + 1)) = if b.p = e ∧ b.h = (k : Int) + 1 then none else some (k + 1) := by
  rw [hb, ← he]
  simp
theorem ch_next {bs : List Bk} {k : Nat} {b : Bk} (hb : bs[k]? = some b) : b.e = if k + 1 = 0 then 0 else (bs[k + 1 - 1]?.map (·.e)).getD 0 := by
  rw [if_neg (Nat.succ_ne_zero k), Nat.add_sub_cancel, hb]; rfl
theorem ok_chain_fault (T : Txt K mg) : FnOk P w K mg base CX0 2 T.d_chain_fault.f T.d_chain_fault.fd ["ledger"] (spCh K) := by
  refine T.d_chain_fault.F.ok sc_chain_fault (fun vs H Q E h => ?_) (fun cdv A outer s H vs Q E hr h => ?_)
  · obtain ⟨_, _, rfl, _⟩ := h; rfl
  · obtain ⟨a, bs, rfl, ⟨xs, hs, ht⟩, hz, k⟩ := h
    refine ⟨_,
(pss_cons (ps_set (i := 1) sc_chain_fault.nd rfl (by first | exact .inl rfl | exact .inr rfl) (pe_glob (v := .ref T.gA) rfl T.c_GENESIS rfl))
 (pss_cons (ps_for PassesOwn.never rfl (pi_range1 rfl T.b_range (pa_cons (pe_callB c_len (by rfl) T.b_len (by decide +kernel) (pa_cons (pv 0) pa_nil)) pa_nil)) (pg_name (i := 2) sc_chain_fault.nd rfl (by first | exact .inl rfl | exact .inr rfl))
 (pss_cons (ps_if (pt_not (pt_val (pe_call (ok_follows T) (hr.mono (by decide)) rfl T.d_follows.m T.d_follows.F.kp T.d_follows.b .nil pass0 (pa_cons (pe_ix ix_list (pv 0) (pv 2) (fun _ _ => rfl)) (pa_cons (pv 1) pa_nil)))))
 (pss_one (ps_ret (pe_tup (pa_cons pe_str (pa_cons (pe_op op_add (pv 2) pe_int) pa_nil)))))
 pss_nil)
 (pss_one (ps_set (i := 1) sc_chain_fault.nd rfl (by first | exact .inl rfl | exact .inr rfl) (pe_ix ix_list (pv 0) (pv 2) (fun _ _ => rfl))))))
 (pss_one (ps_ret pe_non))))
    , ?_⟩
    have e1 := LD.len ht
    walk_at "go"
    rw [e1]
    refine ⟨fun i σ H' => ∃ (c : Addr) (e p : Int) (t : V) (v2 : Option V), σ = [some (.ref a), some (.ref c), v2] ∧ H' = H ∧ SqT K H c [.int e, .int p, .int (i : Int), t] ∧ (e = if i = 0 then 0 else (bs[i - 1]?.map (·.e)).getD 0) ∧
        ∀ j, j < i → (if (bs[j]?.map (·.p)) = some (if j = 0 then 0 else (bs[j - 1]?.map (·.e)).getD 0) ∧ (bs[j]?.map (·.h)) = some ((j : Int) + 1) then none else some (j + 1)) = (none : Option Nat),
      ⟨T.gA, 0, 0, .ref T.eA, none, rfl, rfl, T.gT H, rfl, fun _ hj => absurd hj (Nat.not_lt_zero _)⟩, fun i σ H' hi hP => ?_, fun σ H' hP => ?_⟩
    · obtain ⟨c, e, p, t, v2, rfl, rfl, hc, he, hP⟩ := hP
      have hi' : i < bs.length := by omega
      have hb := List.getElem?_eq_getElem hi'
      obtain ⟨v, hv, hV⟩ := LD.get (K := K) (a := a) ht hb
      obtain ⟨q, t2, zs, rfl, hq, htt, hzs⟩ := bkI hV
      have hst := ch_step hb he
      walk_at "go"
      rw [Int.zero_add]
      refine g_ixL hs (atI_nat hv) ?_
      walk_at "go"
      refine ⟨q, c, _, _, _, _, _, _, _, _, rfl, SqT.of hq, hc, ?_⟩
      walk_at "go"
      refine g_iteN (fun h1 => ?_) (fun h1 => ?_)
      · walk_at "go"
        refine g_mkT (sz16 (by decide : 2 ≤ 100000)) (fun r hr => ?_)
        refine k _ _ (by walk_at "stp") ?_
        rw [if_neg h1] at hst
        have e3 : chM bs = some (i + 1) := fs_some (i := i) hP hi' hst
        rw [e3]
        exact .tup upd_same (.cons (.str _) (.cons (.int _) .nil))
      · walk_at "go"
        refine g_ixL hs (atI_nat hv) ?_
        walk_at "go"
        rw [if_pos h1] at hst
        refine ⟨q, _, (bs[i]).p, .ref t2, _, rfl, rfl, ?_, ch_next hb, fun j hj => ?_⟩
        · have z := SqT.of (K := K) hq
          rw [h1.2] at z
          exact z
        · by_cases q : j = i
          · subst q; exact hst
          · exact hP j (by omega)
    · obtain ⟨c, e, p, t, v2, rfl, rfl, hc, he, hP⟩ := hP
      walk_at "go"
      refine k _ _ (by walk_at "stp") ?_
      have e3 : chM bs = none := fs_none fun j hj => hP j (by omega)
      rw [e3]
      exact .non
theorem evI {H : Hp} {v : V} {x : Nat × Bk} (h : Tp H v (encE x)) : ∃ a u, v = .ref a ∧ H a = some (.tup [.str "final", .int (x.1 : Int), .int (x.1 : Int), u]) ∧ Tp H u (encB x.2) := by
  obtain ⟨a, xs, rfl, ha, hs⟩ := tupI h
  obtain ⟨v1, r1, rfl, h1, hs⟩ := consI hs
  obtain ⟨v2, r2, rfl, h2, hs⟩ := consI hs
  obtain ⟨v3, r3, rfl, h3, hs⟩ := consI hs
  obtain ⟨v4, r4, rfl, h4, hs⟩ := consI hs
  obtain rfl := nilI hs
  obtain rfl := strI h1
  obtain rfl := intI h2
  obtain rfl := intI h3
  exact ⟨a, v4, rfl, ha, h4⟩
theorem hts_mem {bs : List Bk} (h : Hts bs) {b : Bk} {k : Nat} (hk : b.h = (k : Int) + 1) : b ∈ bs ↔ bs[k]? = some b := by
  refine ⟨fun m => ?_, fun e => List.mem_of_getElem? e⟩
  obtain ⟨j, hj⟩ := List.getElem?_of_mem m
  have e := h j b hj
  have e2 : j = k := by omega
  rw [← e2]; exact hj
theorem ok_lost_fault (T : Txt K mg) : FnOk P w K mg base CX0 1 T.d_lost_fault.f T.d_lost_fault.fd ["events", "ledger"] (spLo K) := by
  refine T.d_lost_fault.F.ok sc_lost_fault (fun vs H Q E h => ?_) (fun cdv A outer s H vs Q E hr h => ?_)
  · obtain ⟨_, _, _, _, rfl, _⟩ := h; rfl
  · obtain ⟨a, c, es, bs, rfl, ⟨xs, hs, ht⟩, ⟨ys, hs', ht'⟩, hz, hz', hH, h1h, k⟩ := h
    refine ⟨_,
(pss_cons (ps_for PassesOwn.never rfl (pi_list (pv 0)) (pg_name (i := 2) sc_lost_fault.nd rfl (by first | exact .inl rfl | exact .inr rfl))
 (pss_one (ps_if (pt_cmpR op_eq (pe_ix ix_tup (pv 2) pe_int (fun _ _ => rfl)) pe_str (nomark _))
 (pss_cons (ps_set (i := 3) sc_lost_fault.nd rfl (by first | exact .inl rfl | exact .inr rfl) (pe_ix ix_tup (pe_ix ix_tup (pv 2) pe_int (fun _ _ => rfl)) pe_int (fun _ _ => rfl)))
 (pss_one (ps_if (PW.pt (pw_or (pt_cmpR op_gt (pv 3) (pe_callB c_len (by rfl) T.b_len (by decide +kernel) (pa_cons (pv 1) pa_nil)) (nomark _)) (pw_or1 (pt_cmpR (op_neD hr.units) (pe_ix ix_list (pv 1) (pe_op op_sub (pv 3) pe_int) (fun _ _ => rfl)) (pe_ix ix_tup (pv 2) pe_int (fun _ _ => rfl)) (nomark _)))))
 (pss_one (ps_ret (pe_tup (pa_cons pe_str (pa_cons (pe_ix ix_tup (pv 2) pe_int (fun _ _ => rfl)) (pa_cons (pv 3) pa_nil))))))
 pss_nil)))
 pss_nil)))
 (pss_one (ps_ret pe_non)))
    , ?_⟩
    have e1 := LD.len ht
    have e2 := LD.len ht'
    walk_at "go"
    refine g_forL hs ⟨fun i σ H' => ∃ (v2 v3 : Option V), σ = [some (.ref a), some (.ref c), v2, v3] ∧ H' = H ∧ ∀ j, j < i → (match es[j]? with | some (k, b) => if b ∈ bs then none else some (k, b.h) | none => none) = (none : Option (Nat × Int)),
      ⟨none, none, rfl, rfl, fun _ hj => absurd hj (Nat.not_lt_zero _)⟩, fun i σ H' _ hP => ?_, fun i x σ H' hx hP => ?_, fun σ H' hP => ?_⟩
    · obtain ⟨v2, v3, rfl, rfl, hP⟩ := hP
      exact hs
    · obtain ⟨v2, v3, rfl, rfl, hP⟩ := hP
      obtain ⟨⟨n, b⟩, hb, hB⟩ := LD.getV ht hx
      obtain ⟨q, u, rfl, hq, hu⟩ := evI hB
      dsimp only at hq hu
      obtain ⟨q2, t2, zs, rfl, hq2, htt, hzs⟩ := bkI hu
      have hb1 := h1h _ (List.mem_of_getElem? hb)
      have hi : i < es.length := by rw [← e1]; exact (List.getElem?_eq_some_iff.mp hx).1
      obtain ⟨m, hm⟩ : ∃ m : Nat, b.h = (m : Int) + 1 := ⟨(b.h - 1).toNat, by have : 1 ≤ b.h := hb1; omega⟩
      have hmem := hts_mem hH hm
      have done : b ∉ bs → loM es bs = some (n, b.h) := fun hn => fs_some (i := i) hP hi (by rw [hb]; exact if_neg hn)
      have next : b ∈ bs → ∀ j, j < i + 1 → (match es[j]? with | some (k, b) => if b ∈ bs then none else some (k, b.h) | none => none) = (none : Option (Nat × Int)) := fun hn j hj => by
        by_cases q : j = i
        · subst q; rw [hb]; exact if_pos hn
        · exact hP j (by omega)
      walk_at "go"
      refine g_iteD (fun _ => ?_) (fun z => absurd rfl z)
      walk_at "go"
      rw [e2]
      have fin : ∀ r, Nw H' r → b ∉ bs → Q (V.ref r) (upd H' r (.tup [.str "lost", .int (n : Int), .int b.h])) := fun r hr hn => by
        refine k _ _ (by walk_at "stp") ?_
        rw [done hn]
        exact .tup upd_same (.cons (.str _) (.cons (.int _) (.cons (.int _) .nil)))
      refine g_iteD (fun h2 => ?_) (fun h2 => ?_)
      · walk_at "go"
        walk_at "go"
        refine g_mkT (sz16 (by decide : 3 ≤ 100000)) (fun r hr => fin r hr fun hn => ?_)
        have := (List.getElem?_eq_some_iff.mp (hmem.mp hn)).1
        omega
      · walk_at "go"
        have hm' : m < bs.length := by omega
        obtain ⟨v, hv, hV⟩ := LD.get (K := K) (a := c) ht' (List.getElem?_eq_getElem hm')
        refine g_ixL hs' (at_of (j := m) (by omega) hv) ?_
        walk_at "go"
        refine g_neB hV hu ?_
        walk_at "go"
        refine g_iteN (fun h3 => ?_) (fun h3 => ?_)
        · walk_at "go"
          refine g_mkT (sz16 (by decide : 3 ≤ 100000)) (fun r hr => fin r hr fun hn => ?_)
          have := hmem.mp hn
          rw [List.getElem?_eq_getElem hm'] at this
          exact h3 (Option.some.inj this)
        · walk_at "go"
          refine ⟨_, _, rfl, rfl, next (hmem.mpr ?_)⟩
          rw [List.getElem?_eq_getElem hm', h3]
    · obtain ⟨v2, v3, rfl, rfl, hP⟩ := hP
      walk_at "go"
      refine k _ _ (by walk_at "stp") ?_
      have e3 : loM es bs = none := fs_none fun j hj => hP j (by omega)
      rw [e3]
      exact .non
end

theorem any_eqv {α : Type} [DecidableEq α] {f : α → PyData} (h : ∀ a b, PyData.eqv (f a) (f b) = decide (a = b)) (x : α) : ∀ l : List α, (l.map f).any (fun z => PyData.eqv z (f x)) = decide (x ∈ l)
  | [] => by simp
  | a :: r => by
    rw [List.map_cons, List.any_cons, h, any_eqv h x r]
    by_cases e : a = x
    · subst e; simp
    · have e' : ¬ x = a := fun z => e z.symm
      simp [e, e']
theorem sh_list {α : Type} {f : α → PyData} {n : Nat} (hl : ∀ x, (f x).canLay0 = true) (hd : ∀ x, (f x).depth ≤ n) (hn : n ≤ 60) (l : List α) : SeqAt.shaped (.list (l.map f)) = true := by
  refine shaped_of ?_ ?_
  · rw [PyData.canLay0]; exact lay_map hl l
  · rw [PyData.depth]; have := dep_map hd l; omega
theorem g_notInB {K : PySem.W.Frag} {H : Hp} {Q : VK} {x : V} {p : Addr} {xs : List V} {b : Bk} {bs : List Bk} (hx : Tp H x (encB b)) (hs : SqL K H p xs) (ht : TpA H xs (bs.map encB)) (k : Q (.bl (!decide (b ∈ bs))) H) : rNotInD K x (.ref p) H Q :=
  ⟨_, _, hx.dp, .lst hs ht.dp, encB_sh b, sh_list encB_lay encB_dep (by decide) bs, by rw [any_eqv encB_eqv]; exact k⟩
theorem g_notInC {K : PySem.W.Frag} {H : Hp} {Q : VK} {x : V} {p : Addr} {xs : List V} {b : Cm} {bs : List Cm} (hx : Tp H x (encC b)) (hs : SqL K H p xs) (ht : TpA H xs (bs.map encC)) (k : Q (.bl (!decide (b ∈ bs))) H) : rNotInD K x (.ref p) H Q :=
  ⟨_, _, hx.dp, .lst hs ht.dp, encC_sh b, sh_list encC_lay encC_dep (by decide) bs, by
    have e2 : (bs.map encC).any (fun z => PyData.eqv z (encC b)) = decide (b ∈ bs) := by rw [any_eqv encC_eqv]; exact decide_eq_decide.mpr Iff.rfl
    rw [e2]; exact k⟩
section
variable {P : Program} {w : World} {K : PySem.W.Frag} {mg : Str → Option Value} {base : Heap}
theorem fd_some {as bs : List Bk} {k : Nat} (h : ∀ j, j < k → j < bs.length → as[j]? = bs[j]?) (h1 : k < as.length) (h2 : k < bs.length) (hn : as[k]? ≠ bs[k]?) : fdM as bs = some (k + 1) :=
  fs_some (i := k) (fun j hj => if_pos (h j hj (by omega))) (by omega) (if_neg hn)
theorem fd_none {as bs : List Bk} (h : ∀ j, j < as.length → j < bs.length → as[j]? = bs[j]?) : fdM as bs = none :=
  fs_none fun j hj => if_pos (h j (by omega) (by omega))
theorem ok__law_agreement (T : Txt K mg) : FnOk P w K mg base CX0 1 T.d__law_agreement.f T.d__law_agreement.fd ["ledgers"] (spAg K) := by
  refine T.d__law_agreement.F.ok sc__law_agreement (fun vs H Q E h => ?_) (fun cdv A outer s H vs Q E hr h => ?_)
  · obtain ⟨_, _, rfl, _⟩ := h; rfl
  · obtain ⟨a, ls, rfl, ⟨rs, hs, hl, hg⟩, hz, hz2, k⟩ := h
    refine ⟨_,
(pss_cons (ps_for PassesOwn.never rfl (pi_range1 rfl T.b_range (pa_cons (pe_callB c_len (by rfl) T.b_len (by decide +kernel) (pa_cons (pv 0) pa_nil)) pa_nil)) (pg_name (i := 1) sc__law_agreement.nd rfl (by first | exact .inl rfl | exact .inr rfl))
 (pss_one (ps_for PassesOwn.never rfl (pi_range2 rfl T.b_range (pa_cons (pe_op op_add (pv 1) pe_int) (pa_cons (pe_callB c_len (by rfl) T.b_len (by decide +kernel) (pa_cons (pv 0) pa_nil)) pa_nil))) (pg_name (i := 2) sc__law_agreement.nd rfl (by first | exact .inl rfl | exact .inr rfl))
 (pss_one (ps_for PassesOwn.never rfl (pi_range1 rfl T.b_range (pa_cons (pe_callB c_len (by rfl) T.b_len (by decide +kernel) (pa_cons (pe_ix ix_list (pv 0) (pv 1) (fun _ _ => rfl)) pa_nil)) pa_nil)) (pg_name (i := 3) sc__law_agreement.nd rfl (by first | exact .inl rfl | exact .inr rfl))
 (pss_one (ps_if (PW.pt (pw_and (pt_cmpR op_lt (pv 3) (pe_callB c_len (by rfl) T.b_len (by decide +kernel) (pa_cons (pe_ix ix_list (pv 0) (pv 2) (fun _ _ => rfl)) pa_nil)) (nomark _)) (pw_and1 (pt_cmpR (op_neD hr.units) (pe_ix ix_list (pe_ix ix_list (pv 0) (pv 1) (fun _ _ => rfl)) (pv 3) (fun _ _ => rfl)) (pe_ix ix_list (pe_ix ix_list (pv 0) (pv 2) (fun _ _ => rfl)) (pv 3) (fun _ _ => rfl)) (nomark _)))))
 (pss_one (ps_ret (pe_tup (pa_cons pe_str (pa_cons (pv 1) (pa_cons (pv 2) (pa_cons (pe_op op_add (pv 3) pe_int) pa_nil)))))))
 pss_nil)))))))
 (pss_one (ps_ret pe_non)))
    , ?_⟩
    have e1 : (rs.map V.ref).length = ls.length := by rw [List.length_map, hl]
    walk_at "go"
    rw [e1]
    refine ⟨fun i σ H' => ∃ v1 v2 v3, σ = [some (.ref a), v1, v2, v3] ∧ H' = H ∧ ∀ i', i' < i → ∀ k', k' < ls.length - (i' + 1) → fdM (ls.getD i' []) (ls.getD (i' + 1 + k') []) = none,
      ⟨none, none, none, rfl, rfl, fun _ hj => absurd hj (Nat.not_lt_zero _)⟩, fun i σ H' hi hP => ?_, fun σ H' hP => ?_⟩
    · obtain ⟨v1, v2, v3, rfl, rfl, hP⟩ := hP
      have hi' : i < ls.length := by omega
      walk_at "go"
      rw [e1]
      refine g_rng2 (by omega) ⟨fun k' σ H2 => ∃ v2 v3, σ = [some (.ref a), some (.int (i : Int)), v2, v3] ∧ H2 = H' ∧ ∀ k'', k'' < k' → fdM (ls.getD i []) (ls.getD (i + 1 + k'') []) = none,
        ⟨v2, v3, by rw [Int.zero_add]; rfl, rfl, fun _ hj => absurd hj (Nat.not_lt_zero _)⟩, fun k' σ H2 hk hQ => ?_, fun σ H2 hQ => ?_⟩
      · obtain ⟨v2, v3, rfl, rfl, hQ⟩ := hQ
        have hk' : k' < ls.length - (i + 1) := by omega
        obtain ⟨r1, hr1, hv1, hd1, hm1⟩ := LL.get hl hg hi'
        obtain ⟨r2, hr2, hv2, hd2, hm2⟩ := LL.get hl hg (i := i + 1 + k') (by omega)
        have hb1 := hz2 _ hm1
        have hb2 := hz2 _ hm2
        generalize hl1 : ls.getD i [] = l1 at hd1 hb1 hQ
        generalize hl2 : ls.getD (i + 1 + k') [] = l2 at hd2 hb2
        obtain ⟨xs, hxs, hxt⟩ := hd1
        obtain ⟨ys, hys, hyt⟩ := hd2
        have e2 := LD.len hxt
        have e3 := LD.len hyt
        walk_at "go"
        refine g_ixL hs (atI_nat hv1) ?_
        walk_at "go"
        rw [e2]
        refine ⟨fun m σ H3 => ∃ v3, σ = [some (.ref a), some (.int (i : Int)), some (.int ((i + 1 + k' : Nat) : Int)), v3] ∧ H3 = H2 ∧ ∀ j, j < m → j < l2.length → l1[j]? = l2[j]?,
          ⟨v3, by rw [show (0 : Int) + (i : Int) + 1 + (k' : Int) = ((i + 1 + k' : Nat) : Int) by omega]; rfl, rfl, fun _ hj => absurd hj (Nat.not_lt_zero _)⟩, fun m σ H3 hm hR => ?_, fun σ H3 hR => ?_⟩
        · obtain ⟨v3, rfl, rfl, hR⟩ := hR
          have hm' : m < l1.length := by omega
          walk_at "go"
          refine g_ixL hs (atI_nat hv2) ?_
          walk_at "go"
          rw [e3]
          refine g_iteD (fun h1 => ?_) (fun h1 => ?_)
          · have hm2' : m < l2.length := by omega
            obtain ⟨v, hv, hV⟩ := LD.get (K := K) (a := a) hxt (List.getElem?_eq_getElem hm')
            obtain ⟨u, hu, hU⟩ := LD.get (K := K) (a := a) hyt (List.getElem?_eq_getElem hm2')
            walk_at "go"
            refine g_ixL hs (atI_nat hv1) ?_
            walk_at "go"
            rw [Int.zero_add]
            refine g_ixL hxs (atI_nat hv) ?_
            walk_at "go"
            refine g_ixL hs (atI_nat hv2) ?_
            walk_at "go"
            refine g_ixL hys (atI_nat hu) ?_
            refine g_neB hV hU ?_
            walk_at "go"
            refine g_iteN (fun h2 => ?_) (fun h2 => ?_)
            · walk_at "go"
              refine g_mkT (sz16 (by decide : 4 ≤ 100000)) (fun q hq => ?_)
              refine k _ _ (by walk_at "stp") ?_
              have hf : fdM (ls.getD i []) (ls.getD (i + 1 + k') []) = some (m + 1) := by
                rw [hl1, hl2]
                refine fd_some hR hm' hm2' ?_
                rw [List.getElem?_eq_getElem hm', List.getElem?_eq_getElem hm2']
                simpa using h2
              rw [ag_some hP (by rw [hl1]; exact hQ) hi' hk' hf]
              exact .tup upd_same (.cons (.str _) (.cons (.int _) (.cons (.int _) (.cons (.int _) .nil))))
            · walk_at "go"
              refine ⟨_, rfl, rfl, fun j hj hj2 => ?_⟩
              by_cases q : j = m
              · subst q
                rw [List.getElem?_eq_getElem hm', List.getElem?_eq_getElem hm2', h2]
              · exact hR j (by omega) hj2
          · walk_at "go"
            walk_at "go"
            exact ⟨_, rfl, rfl, fun j hj hj2 => hR j (by omega) hj2⟩
        · obtain ⟨v3, rfl, rfl, hR⟩ := hR
          refine ⟨_, _, rfl, rfl, fun k'' hk'' => ?_⟩
          by_cases q : k'' = k'
          · subst q
            rw [hl2]
            exact fd_none fun j hj hj2 => hR j (by omega) hj2
          · exact hQ k'' (by omega)
      · obtain ⟨v2, v3, rfl, rfl, hQ⟩ := hQ
        refine ⟨_, _, _, rfl, rfl, fun i' hi'' k' hk' => ?_⟩
        by_cases q : i' = i
        · subst q; exact hQ k' (by omega)
        · exact hP i' (by omega) k' hk'
    · obtain ⟨v1, v2, v3, rfl, rfl, hP⟩ := hP
      walk_at "go"
      refine k _ _ (by walk_at "stp") ?_
      rw [ag_none fun i' hi' => hP i' (by omega)]
      exact .non
theorem ok__law_chain (T : Txt K mg) : FnOk P w K mg base CX0 1 T.d__law_chain.f T.d__law_chain.fd ["ledger"] (spCh K) := by
  refine T.d__law_chain.F.ok sc__law_chain (fun vs H Q E h => ?_) (fun cdv A outer s H vs Q E hr h => ?_)
  · obtain ⟨_, _, rfl, _⟩ := h; rfl
  · obtain ⟨a, bs, rfl, ⟨xs, hs, ht⟩, hz, k⟩ := h
    refine ⟨_,
(pss_cons (ps_set (i := 1) sc__law_chain.nd rfl (by first | exact .inl rfl | exact .inr rfl) pe_int)
 (pss_cons (ps_for PassesOwn.never rfl (pi_range1 rfl T.b_range (pa_cons (pe_callB c_len (by rfl) T.b_len (by decide +kernel) (pa_cons (pv 0) pa_nil)) pa_nil)) (pg_name (i := 2) sc__law_chain.nd rfl (by first | exact .inl rfl | exact .inr rfl))
 (pss_cons (ps_if (PW.pt (pw_or (pt_cmpR op_ne (pe_ix ix_tup (pe_ix ix_list (pv 0) (pv 2) (fun _ _ => rfl)) pe_int (fun _ _ => rfl)) (pv 1) (nomark _)) (pw_or1 (pt_cmpR op_ne (pe_ix ix_tup (pe_ix ix_list (pv 0) (pv 2) (fun _ _ => rfl)) pe_int (fun _ _ => rfl)) (pe_op op_add (pv 2) pe_int) (nomark _)))))
 (pss_one (ps_ret (pe_tup (pa_cons pe_str (pa_cons (pe_op op_add (pv 2) pe_int) pa_nil)))))
 pss_nil)
 (pss_one (ps_set (i := 1) sc__law_chain.nd rfl (by first | exact .inl rfl | exact .inr rfl) (pe_ix ix_tup (pe_ix ix_list (pv 0) (pv 2) (fun _ _ => rfl)) pe_int (fun _ _ => rfl))))))
 (pss_one (ps_ret pe_non))))
    , ?_⟩
    have e1 := LD.len ht
    walk_at "go"
    rw [e1]
    refine ⟨fun i σ H' => ∃ (e : Int) (v2 : Option V), σ = [some (.ref a), some (.int e), v2] ∧ H' = H ∧ (e = if i = 0 then 0 else (bs[i - 1]?.map (·.e)).getD 0) ∧
        ∀ j, j < i → (if (bs[j]?.map (·.p)) = some (if j = 0 then 0 else (bs[j - 1]?.map (·.e)).getD 0) ∧ (bs[j]?.map (·.h)) = some ((j : Int) + 1) then none else some (j + 1)) = (none : Option Nat),
      ⟨0, none, rfl, rfl, rfl, fun _ hj => absurd hj (Nat.not_lt_zero _)⟩, fun i σ H' hi hP => ?_, fun σ H' hP => ?_⟩
    · obtain ⟨e, v2, rfl, rfl, he, hP⟩ := hP
      have hi' : i < bs.length := by omega
      have hb := List.getElem?_eq_getElem hi'
      obtain ⟨v, hv, hV⟩ := LD.get (K := K) (a := a) ht hb
      obtain ⟨q, t2, zs, rfl, hq, htt, hzs⟩ := bkI hV
      have hst := ch_step hb he
      have bad : ∀ r, Nw H' r → ¬ ((bs[i]).p = e ∧ (bs[i]).h = (i : Int) + 1) → Q (.ref r) (upd H' r (.tup [.str "chain", .int ((i : Int) + 1)])) := fun r hr h1 => by
        refine k _ _ (by walk_at "stp") ?_
        rw [if_neg h1] at hst
        have e3 : chM bs = some (i + 1) := fs_some (i := i) hP hi' hst
        rw [e3]
        exact .tup upd_same (.cons (.str _) (.cons (.int _) .nil))
      walk_at "go"
      rw [Int.zero_add]
      refine g_ixL hs (atI_nat hv) ?_
      walk_at "go"
      refine g_iteN (fun h1 => ?_) (fun h1 => ?_)
      · walk_at "go"
        walk_at "go"
        exact g_mkT (sz16 (by decide : 2 ≤ 100000)) fun r hr => bad r hr fun z => h1 z.1
      · walk_at "go"
        refine g_ixL hs (atI_nat hv) ?_
        walk_at "go"
        refine g_iteN (fun h2 => ?_) (fun h2 => ?_)
        · walk_at "go"
          exact g_mkT (sz16 (by decide : 2 ≤ 100000)) fun r hr => bad r hr fun z => h2 z.2
        · walk_at "go"
          refine g_ixL hs (atI_nat hv) ?_
          walk_at "go"
          rw [if_pos (show (bs[i]).p = e ∧ (bs[i]).h = (i : Int) + 1 from ⟨h1, h2⟩)] at hst
          refine ⟨_, _, rfl, rfl, ch_next hb, fun j hj => ?_⟩
          by_cases q : j = i
          · subst q; exact hst
          · exact hP j (by omega)
    · obtain ⟨e, v2, rfl, rfl, he, hP⟩ := hP
      walk_at "go"
      refine k _ _ (by walk_at "stp") ?_
      have e3 : chM bs = none := fs_none fun j hj => hP j (by omega)
      rw [e3]
      exact .non
theorem ok__law_lost (T : Txt K mg) : FnOk P w K mg base CX0 1 T.d__law_lost.f T.d__law_lost.fd ["events", "ledger"] (spLo K) := by
  refine T.d__law_lost.F.ok sc__law_lost (fun vs H Q E h => ?_) (fun cdv A outer s H vs Q E hr h => ?_)
  · obtain ⟨_, _, _, _, rfl, _⟩ := h; rfl
  · obtain ⟨a, c, es, bs, rfl, ⟨xs, hs, ht⟩, ⟨ys, hs', ht'⟩, hz, hz', hH, h1h, k⟩ := h
    refine ⟨_,
(pss_cons (ps_for PassesOwn.never rfl (pi_list (pv 0)) (pg_name (i := 2) sc__law_lost.nd rfl (by first | exact .inl rfl | exact .inr rfl))
 (pss_one (ps_if (PW.pt (pw_and (pt_cmpR op_eq (pe_ix ix_tup (pv 2) pe_int (fun _ _ => rfl)) pe_str (nomark _)) (pw_and1 (pt_cmpR (op_notInD (hu65 hr)) (pe_ix ix_tup (pv 2) pe_int (fun _ _ => rfl)) (pv 1) (by rfl)))))
 (pss_one (ps_ret (pe_tup (pa_cons pe_str (pa_cons (pe_ix ix_tup (pv 2) pe_int (fun _ _ => rfl)) (pa_cons (pe_ix ix_tup (pe_ix ix_tup (pv 2) pe_int (fun _ _ => rfl)) pe_int (fun _ _ => rfl)) pa_nil))))))
 pss_nil)))
 (pss_one (ps_ret pe_non)))
    , ?_⟩
    have e1 := LD.len ht
    walk_at "go"
    refine g_forL hs ⟨fun i σ H' => ∃ (v2 : Option V), σ = [some (.ref a), some (.ref c), v2] ∧ H' = H ∧ ∀ j, j < i → (match es[j]? with | some (k, b) => if b ∈ bs then none else some (k, b.h) | none => none) = (none : Option (Nat × Int)),
      ⟨none, rfl, rfl, fun _ hj => absurd hj (Nat.not_lt_zero _)⟩, fun i σ H' _ hP => ?_, fun i x σ H' hx hP => ?_, fun σ H' hP => ?_⟩
    · obtain ⟨v2, rfl, rfl, hP⟩ := hP
      exact hs
    · obtain ⟨v2, rfl, rfl, hP⟩ := hP
      obtain ⟨⟨n, b⟩, hb, hB⟩ := LD.getV ht hx
      obtain ⟨q, u, rfl, hq, hu⟩ := evI hB
      dsimp only at hq hu
      obtain ⟨q2, t2, zs, rfl, hq2, htt, hzs⟩ := bkI hu
      have hi : i < es.length := by rw [← e1]; exact (List.getElem?_eq_some_iff.mp hx).1
      walk_at "go"
      refine g_iteD (fun _ => ?_) (fun z => absurd rfl z)
      walk_at "go"
      refine g_notInB hu hs' ht' ?_
      walk_at "go"
      refine g_iteN (fun h2 => ?_) (fun h2 => ?_)
      · walk_at "go"
        refine g_mkT (sz16 (by decide : 3 ≤ 100000)) (fun r hr => ?_)
        refine k _ _ (by walk_at "stp") ?_
        have e3 : loM es bs = some (n, b.h) := fs_some (i := i) hP hi (by rw [hb]; exact if_neg h2)
        rw [e3]
        exact .tup upd_same (.cons (.str _) (.cons (.int _) (.cons (.int _) .nil)))
      · walk_at "go"
        refine ⟨_, rfl, rfl, fun j hj => ?_⟩
        by_cases q : j = i
        · subst q; rw [hb]; exact if_pos h2
        · exact hP j (by omega)
    · obtain ⟨v2, rfl, rfl, hP⟩ := hP
      walk_at "go"
      refine k _ _ (by walk_at "stp") ?_
      have e3 : loM es bs = none := fs_none fun j hj => hP j (by omega)
      rw [e3]
      exact .non
end

def badBy (c d : Cm) : Bool := decide (d.1 = c.1 ∧ c.2 ≤ d.2)
def vaM (cs calls : List Cm) : Option (Bool × Nat) := fs cs.length fun k => match cs[k]? with
  | none => none
  | some c => if c ∉ calls then some (true, k) else if (cs.take k).any (badBy c) = true then some (false, k) else none
def encV : Option (Bool × Nat) → PyData
  | none => .none
  | some (true, k) => .tuple [.str "unknown", .int (k : Int)]
  | some (false, k) => .tuple [.str "again", .int (k : Int)]
def spVa (K : PySem.W.Frag) : Sp := fun vs H Q _ => ∃ (a c : Addr) (bs : List Bk) (calls : List Cm), vs = [.ref a, .ref c] ∧ LD K H a encB bs ∧ LD K H c encC calls ∧ (cmds bs).length ≤ 1000 ∧ calls.length ≤ 1000 ∧ (∀ x ∈ cmds bs, 1 ≤ x.2) ∧
  ∀ (v : V) (H' : Hp), Stp [] H H' → Tp H' v (encV (vaM (cmds bs) calls)) → Q v H'
def spLv (K : PySem.W.Frag) : Sp := fun vs H Q _ => ∃ (a c : Addr) (cs calls : List Cm), vs = [.ref a, .ref c] ∧ LD K H a encC cs ∧ LD K H c encC calls ∧ cs.length ≤ 1000 ∧ calls.length ≤ 1000 ∧
  ∀ (v : V) (H' : Hp), Stp [] H H' → Tp H' v (encV (vaM cs calls)) → Q v H'
def keyC (c : Cm) : List L2.Key := [.inl c.1, .inl c.2, .inr "get a"]
theorem keyC_inj {c d : Cm} : keyC c = keyC d ↔ c = d := by
  obtain ⟨a, b⟩ := c; obtain ⟨a', b'⟩ := d
  simp [keyC]
theorem any_take {cs : List Cm} {f : Cm → Bool} {k : Nat} : (cs.take k).any f = true ↔ ∃ j d, j < k ∧ cs[j]? = some d ∧ f d = true := by
  rw [List.any_eq_true]
  constructor
  · rintro ⟨d, hd, hf⟩
    obtain ⟨j, hj⟩ := List.getElem?_of_mem hd
    rw [List.getElem?_take] at hj
    split at hj
    · exact ⟨j, d, by assumption, hj, hf⟩
    · cases hj
  · rintro ⟨j, d, hj, hd, hf⟩
    refine ⟨d, List.mem_of_getElem? (i := j) ?_, hf⟩
    rw [List.getElem?_take, if_pos hj]; exact hd
/-- what greatest holds ahead of turn k -/
def Gr (cs : List Cm) (k : Nat) (kvs : List (L2.Key × V)) : Prop := ∀ c : Int, (∃ n : Int, valV kvs (.inl c) = some (.int n) ∧ (∃ j d, j < k ∧ cs[j]? = some d ∧ d.1 = c ∧ d.2 = n) ∧ ∀ j d, j < k → cs[j]? = some d → d.1 = c → d.2 ≤ n) ∨
  (valV kvs (.inl c) = none ∧ ∀ j d, j < k → cs[j]? = some d → d.1 ≠ c)
theorem gr_get {cs : List Cm} {k : Nat} {kvs : List (L2.Key × V)} (g : Gr cs k kvs) {c : Cm} (h1 : 1 ≤ c.2) : ∃ n : Int, (valV kvs (.inl c.1)).getD (.int 0) = .int n ∧ (c.2 ≤ n ↔ (cs.take k).any (badBy c) = true) := by
  rcases g c.1 with ⟨n, e, ⟨j, d, hj, hd, h3, h4⟩, hle⟩ | ⟨e, hno⟩
  · refine ⟨n, by rw [e]; rfl, fun h => any_take.mpr ⟨j, d, hj, hd, ?_⟩, fun h => ?_⟩
    · unfold badBy; exact decide_eq_true ⟨h3, by rw [h4]; exact h⟩
    · obtain ⟨j', d', hj', hd', hb⟩ := any_take.mp h
      unfold badBy at hb
      obtain ⟨b1, b2⟩ := of_decide_eq_true hb
      have := hle j' d' hj' hd' b1
      omega
  · refine ⟨0, by rw [e]; rfl, fun h => by omega, fun h => ?_⟩
    obtain ⟨j', d', hj', hd', hb⟩ := any_take.mp h
    unfold badBy at hb
    exact absurd (of_decide_eq_true hb).1 (hno j' d' hj' hd')
theorem gr_next {cs : List Cm} {k : Nat} {kvs : List (L2.Key × V)} (g : Gr cs k kvs) {c : Cm} (hc : cs[k]? = some c) (hno : (cs.take k).any (badBy c) = false) : Gr cs (k + 1) (putK kvs (.inl c.1) (.int c.2)) := by
  intro e
  by_cases q : e = c.1
  · subst q
    refine .inl ⟨c.2, by rw [valV_put, if_pos rfl], ⟨k, c, Nat.lt_succ_self k, hc, rfl, rfl⟩, fun j d hj hd h1 => ?_⟩
    by_cases q2 : j = k
    · subst q2
      rw [hc] at hd; cases hd; exact Int.le_refl _
    · rcases Int.le_total d.2 c.2 with h | h
      · exact h
      · have : (cs.take k).any (badBy c) = true := any_take.mpr ⟨j, d, by omega, hd, by unfold badBy; exact decide_eq_true ⟨h1, h⟩⟩
        rw [hno] at this; cases this
  · have hv : valV (putK kvs (.inl c.1) (.int c.2)) (.inl e) = valV kvs (.inl e) := by
      rw [valV_put, if_neg (fun z => q (Sum.inl.inj z))]
    rcases g e with ⟨n, e1, ⟨j, d, hj, hd, h3, h4⟩, hle⟩ | ⟨e1, hno'⟩
    · refine .inl ⟨n, by rw [hv, e1], ⟨j, d, by omega, hd, h3, h4⟩, fun j' d' hj' hd' h1 => ?_⟩
      by_cases q2 : j' = k
      · subst q2
        rw [hc] at hd'; cases hd'; exact absurd h1.symm q
      · exact hle j' d' (by omega) hd' h1
    · refine .inr ⟨by rw [hv, e1], fun j' d' hj' hd' h1 => ?_⟩
      by_cases q2 : j' = k
      · subst q2
        rw [hc] at hd'; cases hd'; exact absurd h1.symm q
      · exact hno' j' d' (by omega) hd' h1
theorem len_putK {κ : Type} [DecidableEq κ] (kvs : List (κ × V)) (k : κ) (v : V) : (putK kvs k v).length ≤ kvs.length + 1 := length_putK kvs k v
section
variable {P : Program} {w : World} {K : PySem.W.Frag} {mg : Str → Option Value} {base : Heap}
theorem ok__law_validity (T : Txt K mg) : FnOk P w K mg base CX0 1 T.d__law_validity.f T.d__law_validity.fd ["commands", "calls"] (spLv K) := by
  refine T.d__law_validity.F.ok sc__law_validity (fun vs H Q E h => ?_) (fun cdv A outer s H vs Q E hr h => ?_)
  · obtain ⟨_, _, _, _, rfl, _⟩ := h; rfl
  · obtain ⟨a, c, cs, calls, rfl, ⟨xs, hs, ht⟩, ⟨ys, hs', ht'⟩, hz, hz', k⟩ := h
    refine ⟨_,
(pss_cons (ps_for PassesOwn.never rfl (pi_range1 rfl T.b_range (pa_cons (pe_callB c_len (by rfl) T.b_len (by decide +kernel) (pa_cons (pv 0) pa_nil)) pa_nil)) (pg_name (i := 2) sc__law_validity.nd rfl (by first | exact .inl rfl | exact .inr rfl))
 (pss_cons (ps_if (pt_cmpR (op_notInD (hu65 hr)) (pe_ix ix_list (pv 0) (pv 2) (fun _ _ => rfl)) (pv 1) (by rfl))
 (pss_one (ps_ret (pe_tup (pa_cons pe_str (pa_cons (pv 2) pa_nil)))))
 pss_nil)
 (pss_one (ps_for PassesOwn.never rfl (pi_range1 rfl T.b_range (pa_cons (pv 2) pa_nil)) (pg_name (i := 3) sc__law_validity.nd rfl (by first | exact .inl rfl | exact .inr rfl))
 (pss_one (ps_if (PW.pt (pw_and (pt_cmpR op_eq (pe_ix ix_tup (pe_ix ix_list (pv 0) (pv 3) (fun _ _ => rfl)) pe_int (fun _ _ => rfl)) (pe_ix ix_tup (pe_ix ix_list (pv 0) (pv 2) (fun _ _ => rfl)) pe_int (fun _ _ => rfl)) (nomark _)) (pw_and1 (pt_cmpR op_ge (pe_ix ix_tup (pe_ix ix_list (pv 0) (pv 3) (fun _ _ => rfl)) pe_int (fun _ _ => rfl)) (pe_ix ix_tup (pe_ix ix_list (pv 0) (pv 2) (fun _ _ => rfl)) pe_int (fun _ _ => rfl)) (nomark _)))))
 (pss_one (ps_ret (pe_tup (pa_cons pe_str (pa_cons (pv 2) pa_nil)))))
 pss_nil))))))
 (pss_one (ps_ret pe_non)))
    , ?_⟩
    have e1 := LD.len ht
    walk_at "go"
    rw [e1]
    refine ⟨fun i σ H' => ∃ (v2 v3 : Option V), σ = [some (.ref a), some (.ref c), v2, v3] ∧ H' = H ∧ ∀ j, j < i → (match cs[j]? with | none => none | some c => if c ∉ calls then some (true, j) else if (cs.take j).any (badBy c) = true then some (false, j) else none) = (none : Option (Bool × Nat)),
      ⟨none, none, rfl, rfl, fun _ hj => absurd hj (Nat.not_lt_zero _)⟩, fun i σ H' hi hP => ?_, fun σ H' hP => ?_⟩
    · obtain ⟨v2, v3, rfl, rfl, hP⟩ := hP
      have hi' : i < cs.length := by omega
      obtain ⟨v, hv, hV⟩ := LD.get (K := K) (a := a) ht (List.getElem?_eq_getElem hi')
      obtain ⟨q, rfl, hq⟩ := cmI hV
      walk_at "go"
      rw [Int.zero_add]
      refine g_ixL hs (atI_nat hv) ?_
      walk_at "go"
      refine g_notInC hV hs' ht' ?_
      walk_at "go"
      refine g_iteN (fun h1 => ?_) (fun h1 => ?_)
      · walk_at "go"
        refine g_mkT (sz16 (by decide : 2 ≤ 100000)) (fun r hr => ?_)
        refine k _ _ (by walk_at "stp") ?_
        have e2 : vaM cs calls = some (true, i) := fs_some (i := i) hP hi' (by rw [List.getElem?_eq_getElem hi']; exact if_pos h1)
        rw [e2]
        exact .tup upd_same (.cons (.str _) (.cons (.int _) .nil))
      · walk_at "go"
        refine ⟨fun j σ H2 => ∃ (v3 : Option V), σ = [some (.ref a), some (.ref c), some (.int (i : Int)), v3] ∧ H2 = H' ∧ ∀ j' d, j' < j → cs[j']? = some d → badBy (cs[i]) d = false,
          ⟨v3, rfl, rfl, fun _ _ hj => absurd hj (Nat.not_lt_zero _)⟩, fun j σ H2 hj hQ => ?_, fun σ H2 hQ => ?_⟩
        · obtain ⟨v3, rfl, rfl, hQ⟩ := hQ
          have hj' : j < i := by omega
          have hjc : j < cs.length := by omega
          obtain ⟨u, hu, hU⟩ := LD.get (K := K) (a := a) ht (List.getElem?_eq_getElem hjc)
          obtain ⟨r, rfl, hr'⟩ := cmI hU
          have nxt : badBy (cs[i]) (cs[j]) = false → ∀ j' d, j' < j + 1 → cs[j']? = some d → badBy (cs[i]) d = false := fun hb j' d hj2 hd => by
            by_cases z : j' = j
            · subst z
              rw [List.getElem?_eq_getElem hjc] at hd; cases hd; exact hb
            · exact hQ j' d (by omega) hd
          walk_at "go"
          rw [Int.zero_add]
          refine g_ixL hs (atI_nat hu) ?_
          walk_at "go"
          refine g_ixL hs (atI_nat hv) ?_
          walk_at "go"
          refine g_iteD (fun h2 => ?_) (fun h2 => ?_)
          · walk_at "go"
            refine g_ixL hs (atI_nat hu) ?_
            walk_at "go"
            refine g_ixL hs (atI_nat hv) ?_
            walk_at "go"
            refine g_iteD (fun h3 => ?_) (fun h3 => ?_)
            · walk_at "go"
              refine g_mkT (sz16 (by decide : 2 ≤ 100000)) (fun r hr => ?_)
              refine k _ _ (by walk_at "stp") ?_
              have e3 : (cs.take i).any (badBy (cs[i])) = true := any_take.mpr ⟨j, _, hj', List.getElem?_eq_getElem hjc, by unfold badBy; exact decide_eq_true ⟨h2, h3⟩⟩
              have e2 : vaM cs calls = some (false, i) := fs_some (i := i) hP hi' (by rw [List.getElem?_eq_getElem hi']; exact (if_neg (fun z => z h1)).trans (if_pos e3))
              rw [e2]
              exact .tup upd_same (.cons (.str _) (.cons (.int _) .nil))
            · walk_at "go"
              exact ⟨_, rfl, rfl, nxt (by unfold badBy; exact decide_eq_false fun z => h3 z.2)⟩
          · walk_at "go"
            walk_at "go"
            exact ⟨_, rfl, rfl, nxt (by unfold badBy; exact decide_eq_false fun z => h2 z.1)⟩
        · obtain ⟨v3, rfl, rfl, hQ⟩ := hQ
          refine ⟨_, _, rfl, rfl, fun j hj => ?_⟩
          by_cases q : j = i
          · subst q
            have e3 : ¬ (cs.take j).any (badBy (cs[j])) = true := fun z => by
              obtain ⟨j', d, h1, h2, h3⟩ := any_take.mp z
              rw [hQ j' d (by omega) h2] at h3; cases h3
            rw [List.getElem?_eq_getElem hi']
            exact (if_neg (fun z => z h1)).trans (if_neg e3)
          · exact hP j (by omega)
    · obtain ⟨v2, v3, rfl, rfl, hP⟩ := hP
      walk_at "go"
      refine k _ _ (by walk_at "stp") ?_
      have e3 : vaM cs calls = none := fs_none fun j hj => hP j (by omega)
      rw [e3]
      exact .non
theorem ok_validity_fault (T : Txt K mg) : FnOk P w K mg base CX0 2 T.d_validity_fault.f T.d_validity_fault.fd ["ledger", "calls"] (spVa K) := by
  refine T.d_validity_fault.F.ok sc_validity_fault (fun vs H Q E h => ?_) (fun cdv A outer s H vs Q E hr h => ?_)
  · obtain ⟨_, _, _, _, rfl, _⟩ := h; rfl
  · obtain ⟨a, c, bs, calls, rfl, ⟨xs, hs, ht⟩, ⟨ys, hs', ht'⟩, hz, hz', h1, k⟩ := h
    refine ⟨_,
(pss_cons (ps_setDcT (i := 2) (own := [("command", 9)]) (g := gName 9) (tt := tYes) hr.units0 rfl sc_validity_fault.nd rfl rfl (swD rfl rfl rfl (by decide +kernel)) (pi_list (pv 1)) (blkOk_by (own := [("command", 9)]) (N := ["ledger", "calls", "known", "greatest", "commands", "place", "client", "number", "_", "command"]) (sc := defScope s_validity_fault) (by decide +kernel)) (fun _ _ _ _ _ => (pg_name (i := 9) sc_validity_fault.nd rfl (by first | exact .inl rfl | exact .inr rfl))) (fun _ _ _ _ _ => pts_nil) (fun _ _ _ _ _ => (pv 9)) (fun _ _ _ _ _ => pe_bl))
 (pss_cons (ps_set (i := 3) sc_validity_fault.nd rfl (by first | exact .inl rfl | exact .inr rfl) pe_dnewK)
 (pss_cons (ps_set (i := 4) sc_validity_fault.nd rfl (by first | exact .inl rfl | exact .inr rfl) (pe_call (ok_ledger_commands T) (hr.mono (by decide)) rfl T.d_ledger_commands.m T.d_ledger_commands.F.kp T.d_ledger_commands.b .nil pass0 (pa_cons (pv 0) pa_nil)))
 (pss_cons (ps_for PassesOwn.never rfl (pi_range1 rfl T.b_range (pa_cons (pe_callB c_len (by rfl) T.b_len (by decide +kernel) (pa_cons (pv 4) pa_nil)) pa_nil)) (pg_name (i := 5) sc_validity_fault.nd rfl (by first | exact .inl rfl | exact .inr rfl))
 (pss_cons (ps_asg (pe_ix ix_list (pv 4) (pv 5) (fun _ _ => rfl)) (pg_tup rfl (pgs_cons (pg_name (i := 6) sc_validity_fault.nd rfl (by first | exact .inl rfl | exact .inr rfl)) (pgs_cons (pg_name (i := 7) sc_validity_fault.nd rfl (by first | exact .inl rfl | exact .inr rfl)) (pgs_cons (pg_name (i := 8) sc_validity_fault.nd rfl (by first | exact .inl rfl | exact .inr rfl)) pgs_nil)))))
 (pss_cons (ps_if (pt_cmp (pc_dnotin (hu_of hr) (pe_ix ix_list (pv 4) (pv 5) (fun _ _ => rfl)) (pv 2)))
 (pss_one (ps_ret (pe_tup (pa_cons pe_str (pa_cons (pv 5) pa_nil)))))
 pss_nil)
 (pss_cons (ps_if (pt_cmpR op_le (pv 7) (pe_dget2 (hu_of hr) (pv 3) (pv 6) pe_int ⟨rfl, rfl, rfl, rfl⟩) (nomark _))
 (pss_one (ps_ret (pe_tup (pa_cons pe_str (pa_cons (pv 5) pa_nil)))))
 pss_nil)
 (pss_one (ps_dput (hu_of hr) (pv 3) (pv 6) (pv 7) rfl))))))
 (pss_one (ps_ret pe_non))))))
    , ?_⟩
    have e1 := LD.len ht'
    walk_at "go"
    refine g_dcT ?_
    walk_at "go"
    refine g_dcL hs' (fun D hD => ?_)
    refine ⟨fun i H' => Stp [] H H' ∧ ∃ ps, H' D = some (.dT ps) ∧ ps.length ≤ i ∧ ∀ x : Cm, (valV ps (keyC x)).isSome = decide (x ∈ calls.take i),
      ⟨by walk_at "stp", [], upd_same, Nat.le_refl _, fun x => by simp [valV_nil]⟩, fun i H' _ hP => ?_, fun i x H' hx hP => ?_, fun H' hP => ?_⟩
    · exact s_sq0 hP.1 hs'
    · obtain ⟨st, ps, hps, hl, hval⟩ := hP
      obtain ⟨d, hd, hDt⟩ := LD.getV ht' hx
      obtain ⟨q, rfl, hq⟩ := cmI (hDt.mono st.tl)
      have hi := (List.getElem?_eq_some_iff.mp hx).1
      walk_at "go"
      refine ⟨rfl, ?_⟩
      refine g_yes (iteT ?_)
      walk_at "go"
      refine ⟨ps, keyC d, q, rfl, hq, hps, by rw [sizeLine_eq]; omega, by walk_at "stp", _, upd_same, by have := len_putK ps (keyC d) (.bl true); omega, fun x => ?_⟩
      rw [valV_put, take_snoc hd]
      by_cases e : x = d
      · subst e; simp
      · rw [if_neg (fun z => e (keyC_inj.mp z)), hval]
        simp [e]
    · obtain ⟨st, ps, hps, hl, hval⟩ := hP
      rw [e1, List.take_length] at hval
      walk_at "go"
      refine g_dNew (fun G hG => ?_)
      walk_at "go"
      have nG : Nw H G := hG.bk st (fun z => nomatch z)
      have st1 : Stp [] H (upd H' G (.dK [])) := by walk_at "stp"
      refine ⟨a, bs, rfl, ⟨xs, s_sq0 st1 hs, ht.mono st1.tl⟩, by omega, fun p zs H2 hp st2 hp2 hzs => ?_⟩
      have np : Nw H p := hp.bk st1 (fun z => nomatch z)
      have e2 := LD.len hzs
      have hD2 : H2 D = some (.dT ps) := s_fx0 st2 (s_hp (hG.ne1 hps) hps)
      have hG2 : H2 G = some (.dK []) := s_fx0 st2 upd_same
      have st3 : Stp [] H H2 := st1.trans st2
      have gp : G ≠ p := ne_of hG2 hp2 (fun z => nomatch z)
      have gd : D ≠ G := ne_of hD2 hG2 (fun z => nomatch z)
      generalize hcs : cmds bs = cs at hz h1 k hzs e2
      walk_at "go"
      rw [e2]
      refine ⟨fun i σ H3 => ∃ (kvs : List (L2.Key × V)) (v5 v6 v7 v8 v9 : Option V), σ = [some (.ref a), some (.ref c), some (.ref D), some (.ref G), some (.ref p), v5, v6, v7, v8, v9] ∧ Stp [] H H3 ∧ Stp [G] H2 H3 ∧ H3 G = some (.dK kvs) ∧ kvs.length ≤ i ∧ Gr cs i kvs ∧
          ∀ j, j < i → (match cs[j]? with | none => none | some c => if c ∉ calls then some (true, j) else if (cs.take j).any (badBy c) = true then some (false, j) else none) = (none : Option (Bool × Nat)),
        ⟨[], none, none, none, none, none, rfl, st3, .refl _ _, hG2, Nat.le_refl _, fun c => .inr ⟨rfl, fun _ _ hj => absurd hj (Nat.not_lt_zero _)⟩, fun _ hj => absurd hj (Nat.not_lt_zero _)⟩, fun i σ H3 hi hP => ?_, fun σ H3 hP => ?_⟩
      · obtain ⟨kvs, v5, v6, v7, v8, v9, rfl, st4, st5, hG3, hk3, hgr, hP⟩ := hP
        have hi' : i < cs.length := by omega
        have hp3 : H3 p = some (.lst zs) := s_fx1 st5 (Ne.symm gp) hp2
        have hD3 : H3 D = some (.dT ps) := s_fx1 st5 gd hD2
        obtain ⟨v, hv, hV⟩ := LD.get (K := K) (a := a) (hzs.mono st5.tl) (List.getElem?_eq_getElem hi')
        obtain ⟨q, rfl, hq⟩ := cmI hV
        have hc1 := h1 _ (List.getElem_mem hi')
        obtain ⟨n, hn, hn2⟩ := gr_get hgr hc1
        walk_at "go"
        rw [Int.zero_add]
        refine g_ixL (.of hp3) (atI_nat hv) ?_
        walk_at "go"
        refine g_ixL (.of hp3) (atI_nat hv) ?_
        walk_at "go"
        refine g_dniT hD3 (ks := keyC (cs[i])) hq ?_
        walk_at "go"
        rw [hval]
        refine g_iteN (fun h2 => ?_) (fun h2 => ?_)
        · walk_at "go"
          refine g_mkT (sz16 (by decide : 2 ≤ 100000)) (fun r hr => ?_)
          refine k _ _ (by walk_at "stp") ?_
          have e2 : vaM cs calls = some (true, i) := fs_some (i := i) hP hi' (by rw [List.getElem?_eq_getElem hi']; exact if_pos h2)
          rw [e2]
          exact .tup upd_same (.cons (.str _) (.cons (.int _) .nil))
        · walk_at "go"
          rw [hn]
          walk_at "go"
          refine g_iteD (fun h3 => ?_) (fun h3 => ?_)
          · walk_at "go"
            refine g_mkT (sz16 (by decide : 2 ≤ 100000)) (fun r hr => ?_)
            refine k _ _ (by walk_at "stp") ?_
            have e2 : vaM cs calls = some (false, i) := fs_some (i := i) hP hi' (by rw [List.getElem?_eq_getElem hi']; exact (if_neg (fun z => z h2)).trans (if_pos (hn2.mp h3)))
            rw [e2]
            exact .tup upd_same (.cons (.str _) (.cons (.int _) .nil))
          · have h4 : (cs.take i).any (badBy (cs[i])) = false := by
              cases e : (cs.take i).any (badBy (cs[i])) with
              | false => rfl
              | true => exact absurd (hn2.mpr e) h3
            walk_at "go"
            refine g_putI hG3 (by rw [sizeLine_eq]; omega) ?_
            walk_at "go"
            refine ⟨_, _, _, _, _, _, rfl, by walk_at "stp", st5.trans (.wr hG3 (fun _ z => nomatch z) List.mem_cons_self), upd_same, by have := len_putK kvs (.inl (cs[i]).1) (.int (cs[i]).2); omega, gr_next hgr (List.getElem?_eq_getElem hi') h4, fun j hj => ?_⟩
            by_cases q : j = i
            · subst q
              rw [List.getElem?_eq_getElem hi']
              exact (if_neg (fun z => z h2)).trans (if_neg (by rw [h4]; decide))
            · exact hP j (by omega)
      · obtain ⟨kvs, v5, v6, v7, v8, v9, rfl, st4, st5, hG3, hk3, hgr, hP⟩ := hP
        walk_at "go"
        refine k _ _ st4 ?_
        have e3 : vaM cs calls = none := fs_none fun j hj => hP j (by omega)
        rw [e3]
        exact .non
end

/-- blocks so far, the row so far -/
def Chn (bs : List Bk) : Prop := ∀ (i : Nat) (b : Bk), bs[i]? = some b → b.p = if i = 0 then 0 else (bs[i - 1]?.map (·.e)).getD 0
def lastE (bs : List Bk) : Int := if bs.length = 0 then 0 else (bs[bs.length - 1]?.map (·.e)).getD 0
theorem chn_snoc {bs : List Bk} {b : Bk} (h : Chn bs) (hb : b.p = lastE bs) : Chn (bs ++ [b]) := by
  intro i x hx
  by_cases hi : i < bs.length
  · rw [List.getElem?_append_left hi] at hx
    rw [h i x hx]
    by_cases h0 : i = 0
    · rw [if_pos h0, if_pos h0]
    · rw [if_neg h0, if_neg h0, List.getElem?_append_left (by omega)]
  · rw [List.getElem?_append_right (by omega)] at hx
    cases hk : i - bs.length with
    | succ n => rw [hk] at hx; cases hx
    | zero =>
      rw [hk] at hx; cases hx
      have e : i = bs.length := by omega
      rw [hb, e]
      unfold lastE
      by_cases h0 : bs.length = 0
      · rw [if_pos h0, if_pos h0]
      · rw [if_neg h0, if_neg h0, List.getElem?_append_left (by omega)]
theorem lastE_snoc (bs : List Bk) (b : Bk) : lastE (bs ++ [b]) = b.e := by
  unfold lastE
  rw [if_neg (by simp), List.length_append, List.length_singleton, Nat.add_sub_cancel, List.getElem?_append_right (Nat.le_refl _), Nat.sub_self]; rfl
theorem chM_none {bs : List Bk} (h : Hts bs) (c : Chn bs) : chM bs = none := by
  refine fs_none fun k hk => ?_
  have hb := List.getElem?_eq_getElem hk
  rw [ch_step hb rfl]
  exact if_pos ⟨c k _ hb, h k _ hb⟩
def BSt (H0 : Hp) (at_ l : Addr) (cs : List Cm) (n m : Nat) (rw_ : Addr) (ep : Int) (H : Hp) : Prop := Stp [at_] H0 H ∧ (∃ i : Nat, H at_ = some (.lst [.int (i : Int)])) ∧ ∃ (ys zs : List V) (bs : List Bk) (rcs : List Cm),
  H l = some (.lst ys) ∧ TpA H ys (bs.map encB) ∧ Hts bs ∧ H rw_ = some (.tup zs) ∧ TpA H zs (rcs.map encC) ∧ cmds bs ++ rcs = cs.take n ∧ bs.length ≤ m ∧ Chn bs ∧ ep = lastE bs
theorem BSt.at_ {H0 H : Hp} {at_ l rw_ : Addr} {cs : List Cm} {n m : Nat} {ep : Int} (b : BSt H0 at_ l cs n m rw_ ep H) (nl : l ≠ at_) (j : Nat) : BSt H0 at_ l cs n m rw_ ep (upd H at_ (.lst [.int (j : Int)])) := by
  obtain ⟨st, ⟨i, hi⟩, ys, zs, bs, rcs, hl, hy, hh, hr, hz, he, hm, hch, hep⟩ := b
  have s2 : Stp [at_] H (upd H at_ (.lst [.int (j : Int)])) := .wl hi List.mem_cons_self
  exact ⟨st.trans s2, ⟨j, upd_same⟩, ys, zs, bs, rcs, s_hp nl hl, hy.mono s2.tl, hh, s2.tl _ _ hr, hz.mono s2.tl, he, hm, hch, hep⟩
theorem hts_snoc {bs : List Bk} {b : Bk} (h : Hts bs) (hb : b.h = (bs.length : Int) + 1) : Hts (bs ++ [b]) := by
  intro i x hx
  rw [List.getElem?_append] at hx
  split at hx
  · exact h i x hx
  · rename_i hlt
    cases hi : i - bs.length with
    | zero => rw [hi] at hx; cases hx; rw [hb]; omega
    | succ n => rw [hi] at hx; cases hx
theorem BSt.blk {H0 H : Hp} {at_ l rw_ t r : Addr} {cs : List Cm} {n m : Nat} {e p : Int} {ys : List V} (b : BSt H0 at_ l cs n m rw_ p H) (nl : Nw H0 l) (la : l ≠ at_) (hl : H l = some (.lst ys)) (ht : Nw H t)
    (hr : Nw (upd (upd H t (.tup [.int e, .int p, .int ((ys.length : Int) + 1), .ref rw_])) l (.lst (ys ++ [.ref t]))) r) :
    BSt H0 at_ l cs n (m + 1) r e (upd (upd (upd H t (.tup [.int e, .int p, .int ((ys.length : Int) + 1), .ref rw_])) l (.lst (ys ++ [.ref t]))) r (.tup [])) := by
  obtain ⟨st, ⟨i, hi⟩, ys', zs, bs, rcs, hl', hy, hh, hrw, hz, he, hm, hch, hep⟩ := b
  rw [hl] at hl'
  cases hl'
  have lt : l ≠ t := ht.ne1 hl
  have h1 : upd H t (.tup [.int e, .int p, .int ((ys.length : Int) + 1), .ref rw_]) l = some (.lst ys) := s_hp lt hl
  have s1 : Stp [l] H (upd H t (.tup [.int e, .int p, .int ((ys.length : Int) + 1), .ref rw_])) := .new ht.h
  have s2 : Stp [l] H (upd (upd H t (.tup [.int e, .int p, .int ((ys.length : Int) + 1), .ref rw_])) l (.lst (ys ++ [.ref t]))) := s1.trans (.wl h1 List.mem_cons_self)
  have s3 := s2.trans (.new (o := .tup []) hr.h)
  have st3 : Stp [at_] H0 (upd (upd (upd H t (.tup [.int e, .int p, .int ((ys.length : Int) + 1), .ref rw_])) l (.lst (ys ++ [.ref t]))) r (.tup [])) := ((st.trans (.new ht.h)).own nl.h h1).trans (.new hr.h)
  have lr : l ≠ r := hr.ne3
  have et := LD.len hy
  refine ⟨st3, ⟨i, s3.fx _ _ (by simpa using la.symm) hi⟩, ys ++ [.ref t], [], bs ++ [⟨e, p, (ys.length : Int) + 1, rcs⟩], [], s_hp lr upd_same, ?_, hts_snoc hh (by rw [et]), upd_same, .nil, ?_, by simp; omega, chn_snoc hch hep, by rw [lastE_snoc]⟩
  · rw [List.map_append]
    refine (hy.mono s3.tl).app (.cons ?_ .nil)
    have ht3 : upd (upd (upd H t (.tup [.int e, .int p, .int ((ys.length : Int) + 1), .ref rw_])) l (.lst (ys ++ [.ref t]))) r (.tup []) t = some (.tup [.int e, .int p, .int ((ys.length : Int) + 1), .ref rw_]) := by
      have q : upd (upd H t (.tup [.int e, .int p, .int ((ys.length : Int) + 1), .ref rw_])) l (.lst (ys ++ [.ref t])) t = some (.tup [.int e, .int p, .int ((ys.length : Int) + 1), .ref rw_]) := s_hp lt.symm upd_same
      exact s_hp (hr.ne1 q) q
    exact .tup ht3 (.cons (.int _) (.cons (.int _) (.cons (.int _) (.cons (.tup (s3.tl _ _ hrw) (hz.mono s3.tl)) .nil))))
  · rw [cmds_snoc, List.append_nil, he]
theorem BSt.cmd {H0 H H2 : Hp} {at_ l rw_ r2 : Addr} {cs : List Cm} {n m : Nat} {c : Cm} {v : V} {ep : Int} (b : BSt H0 at_ l cs n m rw_ ep H) (hc : cs[n]? = some c) (hv : Tp H v (encC c)) (s : Stp [] H H2) {zs : List V} (hz0 : H rw_ = some (.tup zs)) (h2 : H2 r2 = some (.tup (zs ++ [v]))) : BSt H0 at_ l cs (n + 1) m r2 ep H2 := by
  obtain ⟨st, ⟨i, hi⟩, ys, zs', bs, rcs, hl, hy, hh, hrw, hz, he, hm, hch, hep⟩ := b
  rw [hz0] at hrw; cases hrw
  refine ⟨st.trans s.up, ⟨i, s_fx0 s hi⟩, ys, zs ++ [v], bs, rcs ++ [c], s_fx0 s hl, hy.mono s.tl, hh, h2, ?_, ?_, hm, hch, hep⟩
  · rw [List.map_append]; exact (hz.mono s.tl).app (.cons (hv.mono s.tl) .nil)
  · rw [← List.append_assoc, he, take_snoc hc]
def spBl : Sp := fun vs H Q _ => ∃ (c dr at_ : Addr) (xs : List V) (cs : List Cm) (ns : List Int) (i : Nat), vs = [.ref c, .ref dr, .ref at_] ∧ Ls [at_] H c xs ∧ TpA H xs (cs.map encC) ∧ Ls [at_] H dr (ns.map V.int) ∧ H at_ = some (.lst [.int (i : Int)]) ∧ cs.length ≤ 10 ∧
  ∀ (p : Addr) (ys : List V) (bs : List Bk) (i' : Nat) (H' : Hp), Nw H p → Stp [at_] H H' → H' at_ = some (.lst [.int (i' : Int)]) → H' p = some (.lst ys) → TpA H' ys (bs.map encB) → Hts bs → cmds bs = cs → bs.length ≤ 30 → Chn bs → Q (.ref p) H'
theorem nx_pos (ns : List Int) (i : Nat) {m : Int} (h : 0 < m) : 0 ≤ nx ns i m ∧ nx ns i m < m := ⟨Int.emod_nonneg _ (by omega), Int.emod_lt_of_pos _ h⟩
theorem last_of {zs : List V} (h : 0 < zs.length) : ∃ z r, zs = r ++ [z] ∧ atI zs (-1) = some z := by
  rcases List.eq_nil_or_concat zs with e | ⟨r, z, e⟩
  · rw [e] at h; exact absurd h (Nat.lt_irrefl 0)
  · exact ⟨z, r, by simpa using e, by rw [e, List.concat_eq_append]; exact atI_last _ _⟩
section
variable {P : Program} {w : World} {K : PySem.W.Frag} {mg : Str → Option Value} {base : Heap}
theorem ok__law_blocks (T : Txt K mg) : FnOk P w K mg base CX0 2 T.d__law_blocks.f T.d__law_blocks.fd ["commands", "draws", "at"] spBl := by
  refine T.d__law_blocks.F.ok sc__law_blocks (fun vs H Q E h => ?_) (fun cdv A outer s H vs Q E hr h => ?_)
  · obtain ⟨_, _, _, _, _, _, _, rfl, _⟩ := h; rfl
  · obtain ⟨c, dr, at_, xs, cs, ns, i, rfl, hc, ht, hdr, hat, hz, k⟩ := h
    refine ⟨_,
(pss_cons (ps_set (i := 3) sc__law_blocks.nd rfl (by first | exact .inl rfl | exact .inr rfl) (pe_lst pa_nil))
 (pss_cons (ps_set (i := 4) sc__law_blocks.nd rfl (by first | exact .inl rfl | exact .inr rfl) pe_int)
 (pss_cons (ps_set (i := 5) sc__law_blocks.nd rfl (by first | exact .inl rfl | exact .inr rfl) (pe_tup pa_nil))
 (pss_cons (ps_for PassesOwn.never rfl (pi_list (pv 0)) (pg_name (i := 6) sc__law_blocks.nd rfl (by first | exact .inl rfl | exact .inr rfl))
 (Evl.pss_cut (ps_if (PW.pt (pw_and (pt_cmpR op_gt (pe_callB c_len (by rfl) T.b_len (by decide +kernel) (pa_cons (pv 5) pa_nil)) pe_int (nomark _)) (pw_and1 (PW.pt (pw_or (pt_cmpR op_ge (pe_ix ix_tup (pe_ix ix_tup (pv 5) (pe_un un_neg pe_int) (fun _ _ => rfl)) pe_int (fun _ _ => rfl)) (pe_ix ix_tup (pv 6) pe_int (fun _ _ => rfl)) (nomark _)) (pw_or1 (pt_cmpR op_gt (pe_call (ok__law_next T) (hr.mono (by decide)) rfl T.d__law_next.m T.d__law_next.F.kp T.d__law_next.b .nil pass0 (pa_cons (pv 1) (pa_cons (pv 2) (pa_cons pe_int pa_nil)))) pe_int (nomark _))))))))
 (pss_cons (ps_set (i := 7) sc__law_blocks.nd rfl (by first | exact .inl rfl | exact .inr rfl) (pv 4))
 (pss_cons (ps_set (i := 4) sc__law_blocks.nd rfl (by first | exact .inl rfl | exact .inr rfl) (pe_op op_add (pe_op op_add (pv 4) pe_int) (pe_call (ok__law_next T) (hr.mono (by decide)) rfl T.d__law_next.m T.d__law_next.F.kp T.d__law_next.b .nil pass0 (pa_cons (pv 1) (pa_cons (pv 2) (pa_cons pe_int pa_nil))))))
 (pss_cons (ps_expr (pe_bm PySem.F.plainAttrs_list PySem.F.slot_list_append PySem.F.type_list_append mt_append (pv 3) (pa_cons (pe_tup (pa_cons (pv 4) (pa_cons (pv 7) (pa_cons (pe_op op_add (pe_callB c_len (by rfl) T.b_len (by decide +kernel) (pa_cons (pv 3) pa_nil)) pe_int) (pa_cons (pv 5) pa_nil))))) pa_nil)))
 (pss_one (ps_set (i := 5) sc__law_blocks.nd rfl (by first | exact .inl rfl | exact .inr rfl) (pe_tup pa_nil))))))
 pss_nil)
 (pss_cons (ps_set (i := 5) sc__law_blocks.nd rfl (by first | exact .inl rfl | exact .inr rfl) (pe_op op_catA (pv 5) (pe_tup (pa_cons (pv 6) pa_nil))))
 (pss_one (ps_if (pt_cmpR op_eq (pe_call (ok__law_next T) (hr.mono (by decide)) rfl T.d__law_next.m T.d__law_next.F.kp T.d__law_next.b .nil pass0 (pa_cons (pv 1) (pa_cons (pv 2) (pa_cons pe_int pa_nil)))) pe_int (nomark _))
 (pss_cons (ps_set (i := 7) sc__law_blocks.nd rfl (by first | exact .inl rfl | exact .inr rfl) (pv 4))
 (pss_cons (ps_set (i := 4) sc__law_blocks.nd rfl (by first | exact .inl rfl | exact .inr rfl) (pe_op op_add (pv 4) pe_int))
 (pss_cons (ps_expr (pe_bm PySem.F.plainAttrs_list PySem.F.slot_list_append PySem.F.type_list_append mt_append (pv 3) (pa_cons (pe_tup (pa_cons (pv 4) (pa_cons (pv 7) (pa_cons (pe_op op_add (pe_callB c_len (by rfl) T.b_len (by decide +kernel) (pa_cons (pv 3) pa_nil)) pe_int) (pa_cons (pv 5) pa_nil))))) pa_nil)))
 (pss_one (ps_set (i := 5) sc__law_blocks.nd rfl (by first | exact .inl rfl | exact .inr rfl) (pe_tup pa_nil))))))
 pss_nil)))))
 (Evl.pss_cut (ps_if (pt_cmpR op_gt (pe_callB c_len (by rfl) T.b_len (by decide +kernel) (pa_cons (pv 5) pa_nil)) pe_int (nomark _))
 (pss_one (ps_expr (pe_bm PySem.F.plainAttrs_list PySem.F.slot_list_append PySem.F.type_list_append mt_append (pv 3) (pa_cons (pe_tup (pa_cons (pe_op op_add (pv 4) pe_int) (pa_cons (pv 4) (pa_cons (pe_op op_add (pe_callB c_len (by rfl) T.b_len (by decide +kernel) (pa_cons (pv 3) pa_nil)) pe_int) (pa_cons (pv 5) pa_nil))))) pa_nil))))
 pss_nil)
 (pss_one (ps_ret (pv 3))))))))
    , ?_⟩
    have e1 := LD.len ht
    walk_at "go"
    refine g_mkL (Nat.zero_le _) (fun l hl => ?_)
    walk_at "go"
    refine g_mkT (Nat.zero_le _) (fun r0 hr0 => ?_)
    walk_at "go"
    have la : l ≠ at_ := hl.ne2 hat
    have lat : at_ ≠ r0 := hr0.ne1 (s_hp la.symm hat)
    have lr0 : l ≠ r0 := hr0.ne3
    have b0 : BSt H at_ l cs 0 0 r0 0 (upd (upd H l (.lst [])) r0 (.tup [])) :=
      ⟨.trans (.new hl.h) (.new hr0.h), ⟨i, s_hp lat (s_hp la.symm hat)⟩, [], [], [], [], s_hp lr0 upd_same, .nil, fun i b hb => (by simp at hb), upd_same, .nil, rfl, Nat.le_refl _, fun i b hb => (by simp at hb), rfl⟩
    generalize hH1 : upd (upd H l (.lst [])) r0 (.tup []) = H1 at b0
    refine g_forL (xs := xs) (hc.mono b0.1).sql ⟨fun n σ H' => ∃ (ep : Int) (r : Addr) (v6 v7 : Option V), σ = [some (.ref c), some (.ref dr), some (.ref at_), some (.ref l), some (.int ep), some (.ref r), v6, v7] ∧ BSt H at_ l cs n (2 * n) r ep H',
      ⟨0, r0, none, none, rfl, b0⟩, fun n σ H' _ hP => ?_, fun n x σ H' hx hP => ?_, fun σ H' hP => ?_⟩
    · obtain ⟨ep, r, v6, v7, rfl, b⟩ := hP
      exact (hc.mono b.1).sql
    · obtain ⟨ep, r, v6, v7, rfl, b⟩ := hP
      obtain ⟨cm, hcm, hC⟩ := LD.getV ht hx
      walk_at "go"
      refine ⟨fun σ H2 => ∃ (ep : Int) (r : Addr) (v7 : Option V), σ = [some (.ref c), some (.ref dr), some (.ref at_), some (.ref l), some (.int ep), some (.ref r), some x, v7] ∧ BSt H at_ l cs n (2 * n + 1) r ep H2, ?_, fun σ H2 hM => ?_⟩
      · obtain ⟨st, ⟨j, hj⟩, ys, zs, bs, rcs, hL, hy, hh, hR, hzr, he, hm, hch, hep⟩ := id b
        have hC' := hC.mono st.tl
        obtain ⟨q, rfl, hq⟩ := cmI hC'
        have hdr' := hdr.mono st
        have lz : zs.length ≤ 10 := by
          have e2 := LD.len hzr
          have e3 := congrArg List.length he
          rw [List.length_append, List.length_take] at e3
          omega
        refine g_ifM (fun _ H2 => BSt H at_ l cs n (2 * n) r ep H2) (fun H2 b2 => ?_) (fun H2 b2 => ?_) (fun Q' hQ => ?_)
        · obtain ⟨st, ⟨j, hj⟩, ys, zs, bs, rcs, hL, hy, hh, hR, hzr, he, hm, hch, hep⟩ := id b2
          have hdr' := hdr.mono st
          walk_at "go"
          refine ⟨dr, at_, ns, j, 3, rfl, hdr', hj, by decide, ?_⟩
          have hn : n < cs.length := (List.getElem?_eq_some_iff.mp hcm).1
          have b3 := b2.at_ la (j + 1)
          generalize upd H2 at_ (.lst [.int ((j + 1 : Nat) : Int)]) = H3 at b3
          obtain ⟨st, ⟨j, hj⟩, ys, zs, bs, rcs, hL, hy, hh, hR, hzr, he, hm, hch, hep⟩ := id b3
          have lys := LD.len hy
          walk_at "go"
          refine g_mkT (sz16 (by decide : 4 ≤ 100000)) (fun t ht => ?_)
          walk_at "go"
          refine g_app (by walk_at "hp") (by rw [sizeLine_eq]; omega) ?_
          walk_at "go"
          refine g_mkT (Nat.zero_le _) (fun r2 hr2 => ?_)
          walk_at "go"
          exact ⟨_, r2, _, rfl, b3.blk hl la hL ht hr2⟩
        · walk_at "go"
          obtain ⟨h1, h2, ys, zs, bs, rcs, g1, g2, g3, g4, g5, g6, g7, g8, g9⟩ := b2
          exact ⟨_, r, _, rfl, h1, h2, ys, zs, bs, rcs, g1, g2, g3, g4, g5, g6, by omega, g8, g9⟩
        · walk_at "go"
          refine g_iteD (fun h1 => ?_) (fun h1 => ?_)
          · walk_at "go"
            obtain ⟨z, r', hzs, hlast⟩ := last_of (zs := zs) (by omega)
            have hz1 : zs[r'.length]? = some z := by rw [hzs]; simp
            obtain ⟨d, hd, hD⟩ := LD.getV hzr hz1
            obtain ⟨q', rfl, hq'⟩ := cmI hD
            refine g_ixT hR hlast ?_
            walk_at "go"
            refine g_iteD (fun h2 => ?_) (fun h2 => ?_)
            · exact hQ _ _ b
            · walk_at "go"
              refine ⟨dr, at_, ns, j, 3, rfl, hdr', hj, by decide, ?_⟩
              walk_at "go"
              exact hQ _ _ (b.at_ la (j + 1))
          · exact hQ _ _ b
      · obtain ⟨ep, r, v7, rfl, b2⟩ := hM
        obtain ⟨st, ⟨j, hj⟩, ys, zs, bs, rcs, hL, hy, hh, hR, hzr, he, hm, hch, hep⟩ := id b2
        have hC' := hC.mono st.tl
        obtain ⟨q, rfl, hq⟩ := cmI hC'
        have lz : zs.length ≤ 10 := by
          have e2 := LD.len hzr
          have e3 := congrArg List.length he
          rw [List.length_append, List.length_take] at e3
          omega
        walk_at "go"
        refine g_mkT (sz16 (by decide : 1 ≤ 100000)) (fun t ht => ?_)
        refine g_catA (by walk_at "hp") upd_same (by rw [sizeLine_eq]; show zs.length + 1 ≤ _; omega) (fun r2 H3 s3 h3 => ?_)
        have b3 := b2.cmd hcm hC' ((Stp.new ht.h).trans s3) hR h3
        obtain ⟨st3, ⟨j3, hj3⟩, _⟩ := id b3
        walk_at "go"
        refine ⟨dr, at_, ns, j3, 9, rfl, hdr.mono st3, hj3, by decide, ?_⟩
        have b4 := b3.at_ la (j3 + 1)
        generalize upd H3 at_ (.lst [.int ((j3 + 1 : Nat) : Int)]) = H2 at b4
        walk_at "go"
        refine g_iteD (fun h1 => ?_) (fun h1 => ?_)
        · obtain ⟨st, ⟨j, hj⟩, ys, zs, bs, rcs, hL, hy, hh, hR, hzr, he, hm, hch, hep⟩ := id b4
          have lys := LD.len hy
          have hn : n < cs.length := (List.getElem?_eq_some_iff.mp hcm).1
          walk_at "go"
          refine g_mkT (sz16 (by decide : 4 ≤ 100000)) (fun t ht => ?_)
          walk_at "go"
          refine g_app (by walk_at "hp") (by rw [sizeLine_eq]; omega) ?_
          walk_at "go"
          refine g_mkT (Nat.zero_le _) (fun r3 hr3 => ?_)
          walk_at "go"
          exact ⟨_, r3, _, _, rfl, b4.blk hl la hL ht hr3⟩
        · walk_at "go"
          obtain ⟨h1, h2, ys, zs, bs, rcs, g1, g2, g3, g4, g5, g6, g7, g8, g9⟩ := b4
          exact ⟨_, r2, _, _, rfl, h1, h2, ys, zs, bs, rcs, g1, g2, g3, g4, g5, g6, by omega, g8, g9⟩
    · obtain ⟨ep, r, v6, v7, rfl, b⟩ := hP
      obtain ⟨st, ⟨j, hj⟩, ys, zs, bs, rcs, hL, hy, hh, hR, hzr, he, hm, hch, hep⟩ := id b
      have lys := LD.len hy
      rw [e1, List.take_length] at he
      walk_at "go"
      refine ⟨fun σ H2 => ∃ (ep : Int) (v6 v7 : Option V) (r5 : Option V), σ = [some (.ref c), some (.ref dr), some (.ref at_), some (.ref l), some (.int ep), r5, v6, v7] ∧
        Stp [at_] H H2 ∧ (∃ j : Nat, H2 at_ = some (.lst [.int (j : Int)])) ∧ ∃ ys bs, H2 l = some (.lst ys) ∧ TpA H2 ys (bs.map encB) ∧ Hts bs ∧ cmds bs = cs ∧ bs.length ≤ 30 ∧ Chn bs, ?_, fun σ H2 hM => ?_⟩
      · walk_at "go"
        refine g_iteD (fun h1 => ?_) (fun h1 => ?_)
        · walk_at "go"
          refine g_mkT (sz16 (by decide : 4 ≤ 100000)) (fun t ht => ?_)
          walk_at "go"
          have lt : l ≠ t := ht.ne1 hL
          refine g_app (by walk_at "hp") (by rw [sizeLine_eq]; omega) ?_
          walk_at "go"
          have h1' := s_hp (u := .tup [.int (ep + 1), .int ep, .int ((ys.length : Int) + 1), .ref r]) lt hL
          have s2 : Stp [l] H' (upd (upd H' t (.tup [.int (ep + 1), .int ep, .int ((ys.length : Int) + 1), .ref r])) l (.lst (ys ++ [.ref t]))) := (Stp.new ht.h).trans (.wl h1' List.mem_cons_self)
          refine ⟨_, _, _, _, rfl, (st.trans (.new ht.h)).own hl.h h1', ⟨j, s2.fx _ _ (by simpa using la.symm) hj⟩, ys ++ [.ref t], bs ++ [⟨ep + 1, ep, (ys.length : Int) + 1, rcs⟩], upd_same, ?_, hts_snoc hh (by rw [lys]), ?_, by simp; omega, chn_snoc hch hep⟩
          · rw [List.map_append]
            refine (hy.mono s2.tl).app (.cons ?_ .nil)
            exact .tup (s_hp lt.symm upd_same) (.cons (.int _) (.cons (.int _) (.cons (.int _) (.cons (.tup (s2.tl _ _ hR) (hzr.mono s2.tl)) .nil))))
          · rw [cmds_snoc, he]
        · walk_at "go"
          have e4 := LD.len hzr
          have e5 : rcs = [] := List.length_eq_zero_iff.mp (by omega)
          rw [e5, List.append_nil] at he
          exact ⟨_, _, _, _, rfl, st, ⟨j, hj⟩, ys, bs, hL, hy, hh, he, by omega, hch⟩
      · obtain ⟨ep, v6, v7, r5, rfl, st, ⟨j, hj⟩, ys, bs, hL, hy, hh, he, hm, hch⟩ := hM
        walk_at "go"
        exact k l ys bs j H2 hl st hj hL hy hh he hm hch
end

def spDr : Sp := fun vs H Q _ => ∃ (dr at_ : Addr) (ns : List Int) (i : Nat), vs = [.ref dr, .ref at_] ∧ Ls [at_] H dr (ns.map V.int) ∧ H at_ = some (.lst [.int (i : Int)]) ∧
  ∀ (p : Addr) (ys : List V) (cs : List Cm) (i' : Nat) (H' : Hp), Nw H p → Stp [at_] H H' → H' at_ = some (.lst [.int (i' : Int)]) → H' p = some (.lst ys) → TpA H' ys (cs.map encC) → cs.length ≤ 10 → (∀ x ∈ cs, 1 ≤ x.2) → Q (.ref p) H'
def spOt (K : PySem.W.Frag) : Sp := fun vs H Q _ => ∃ (c dr at_ : Addr) (xs : List V) (bs : List Bk) (ns : List Int) (i : Nat), vs = [.ref c, .ref dr, .ref at_] ∧ Ls [at_] H c xs ∧ TpA H xs (bs.map encB) ∧ Ls [at_] H dr (ns.map V.int) ∧ H at_ = some (.lst [.int (i : Int)]) ∧ bs.length ≤ 30 ∧ Hts bs ∧
  ∀ (p : Addr) (ys : List V) (os : List Bk) (i' : Nat) (H' : Hp), Nw H p → Stp [at_] H H' → H' at_ = some (.lst [.int (i' : Int)]) → H' p = some (.lst ys) → TpA H' ys (os.map encB) → Hts os → os.length ≤ 30 → Q (.ref p) H'
def DN (kvs : List (L2.Key × V)) : Prop := ∀ c : Int, c = -1 ∨ c = -2 ∨ c = -3 → ∃ n : Int, valV kvs (.inl c) = some (.int n)
theorem dn0 : DN (mergeK [] [((.inl (-1) : L2.Key), V.int 0), (.inl (-2), .int 0), (.inl (-3), .int 0)]) := by
  intro c hc
  refine ⟨0, ?_⟩
  show valV (putK (putK (putK ([] : List (L2.Key × V)) (Sum.inl (-1)) (.int 0)) (Sum.inl (-2)) (.int 0)) (Sum.inl (-3)) (.int 0)) (Sum.inl c) = _
  rw [valV_put, valV_put, valV_put]
  rcases hc with rfl | rfl | rfl <;> simp
theorem dn_put {kvs : List (L2.Key × V)} (h : DN kvs) (c n : Int) : DN (putK kvs (.inl c) (.int n)) := by
  intro d hd
  by_cases e : d = c
  · subst e; exact ⟨n, by rw [valV_put, if_pos rfl]⟩
  · obtain ⟨m, hm⟩ := h d hd
    exact ⟨m, by rw [valV_put, if_neg (fun z => e (Sum.inl.inj z)), hm]⟩
theorem menu7 {r : Int} (h : 0 ≤ r ∧ r < 7) : ∃ x : Int, atI [V.int 1, .int 1, .int 1, .int 1, .int 0, .int 2, .int (-1)] r = some (.int x) := by
  have : r = 0 ∨ r = 1 ∨ r = 2 ∨ r = 3 ∨ r = 4 ∨ r = 5 ∨ r = 6 := by omega
  rcases this with rfl | rfl | rfl | rfl | rfl | rfl | rfl
  · exact ⟨1, rfl⟩
  · exact ⟨1, rfl⟩
  · exact ⟨1, rfl⟩
  · exact ⟨1, rfl⟩
  · exact ⟨0, rfl⟩
  · exact ⟨2, rfl⟩
  · exact ⟨-1, rfl⟩
section
variable {P : Program} {w : World} {K : PySem.W.Frag} {mg : Str → Option Value} {base : Heap}
theorem ok__law_drawn (T : Txt K mg) : FnOk P w K mg base CX0 2 T.d__law_drawn.f T.d__law_drawn.fd ["draws", "at"] spDr := by
  refine T.d__law_drawn.F.ok sc__law_drawn (fun vs H Q E h => ?_) (fun cdv A outer s H vs Q E hr h => ?_)
  · obtain ⟨_, _, _, _, rfl, _⟩ := h; rfl
  · obtain ⟨dr, at_, ns, i, rfl, hdr, hat, k⟩ := h
    refine ⟨_,
(pss_cons (ps_set (i := 2) sc__law_drawn.nd rfl (by first | exact .inl rfl | exact .inr rfl) (pe_disp (pps_cons (pe_un un_neg pe_int) pe_int (pps_cons (pe_un un_neg pe_int) pe_int (pps_cons (pe_un un_neg pe_int) pe_int pps_nil))) (by rfl) (by rfl) (fun z => by cases z) (by decide)))
 (pss_cons (ps_set (i := 3) sc__law_drawn.nd rfl (by first | exact .inl rfl | exact .inr rfl) (pe_lst pa_nil))
 (pss_cons (ps_for PassesOwn.never rfl (pi_range1 rfl T.b_range (pa_cons (pe_call (ok__law_next T) (hr.mono (by decide)) rfl T.d__law_next.m T.d__law_next.F.kp T.d__law_next.b .nil pass0 (pa_cons (pv 0) (pa_cons (pv 1) (pa_cons pe_int pa_nil)))) pa_nil)) (pg_name (i := 4) sc__law_drawn.nd rfl (by first | exact .inl rfl | exact .inr rfl))
 (pss_cons (ps_set (i := 5) sc__law_drawn.nd rfl (by first | exact .inl rfl | exact .inr rfl) (pe_op op_sub (pe_un un_neg pe_int) (pe_call (ok__law_next T) (hr.mono (by decide)) rfl T.d__law_next.m T.d__law_next.F.kp T.d__law_next.b .nil pass0 (pa_cons (pv 0) (pa_cons (pv 1) (pa_cons pe_int pa_nil))))))
 (pss_cons (ps_dput (hu_of hr) (pv 2) (pv 5) (pe_callB (c_max2 rfl) (by rfl) T.b_max (by decide +kernel) (pa_cons pe_int (pa_cons (pe_op op_add (pe_dget (hu_of hr) (pv 2) (pv 5) (fun _ _ => rfl)) (pe_ix ix_list (pe_lst (pa_cons pe_int (pa_cons pe_int (pa_cons pe_int (pa_cons pe_int (pa_cons pe_int (pa_cons pe_int (pa_cons (pe_un un_neg pe_int) pa_nil)))))))) (pe_call (ok__law_next T) (hr.mono (by decide)) rfl T.d__law_next.m T.d__law_next.F.kp T.d__law_next.b .nil pass0 (pa_cons (pv 0) (pa_cons (pv 1) (pa_cons pe_int pa_nil)))) (fun _ _ => rfl))) pa_nil))) rfl)
 (pss_one (ps_expr (pe_bm PySem.F.plainAttrs_list PySem.F.slot_list_append PySem.F.type_list_append mt_append (pv 3) (pa_cons (pe_tup (pa_cons (pv 5) (pa_cons (pe_dget (hu_of hr) (pv 2) (pv 5) (fun _ _ => rfl)) (pa_cons pe_str pa_nil)))) pa_nil)))))))
 (pss_one (ps_ret (pv 3))))))
    , ?_⟩
    walk_at "go"
    refine g_disp (fun D hD => ?_)
    walk_at "go"
    refine ⟨upd_same, [(.inl (-1), .int 0), (.inl (-2), .int 0), (.inl (-3), .int 0)], rfl, by decide, ?_⟩
    rw [upd_upd]
    generalize hk0 : mergeK [] [((.inl (-1) : L2.Key), V.int 0), (.inl (-2), .int 0), (.inl (-3), .int 0)] = k0
    have d0 : DN k0 := by rw [← hk0]; exact dn0
    have l0 : k0.length ≤ 3 := by rw [← hk0]; decide
    walk_at "go"
    refine g_mkL (Nat.zero_le _) (fun l hl => ?_)
    have da : D ≠ at_ := hD.ne2 hat
    have lD : l ≠ D := hl.ne3.symm
    have la : l ≠ at_ := hl.back.ne2 hat
    have hl0 : Nw H l := hl.back
    have hat1 : upd (upd H D (.dK k0)) l (.lst []) at_ = some (.lst [.int (i : Int)]) := s_hp la.symm (s_hp da.symm hat)
    have hD1 : upd (upd H D (.dK k0)) l (.lst []) D = some (.dK k0) := s_hp lD.symm upd_same
    have st1 : Stp [at_] H (upd (upd H D (.dK k0)) l (.lst [])) := .trans (.new hD.h) (.new hl.h)
    have hl1 : upd (upd H D (.dK k0)) l (.lst []) l = some (.lst []) := upd_same
    generalize upd (upd H D (.dK k0)) l (.lst []) = H1 at hat1 hD1 st1 hl1
    walk_at "go"
    refine ⟨dr, at_, ns, i, 11, rfl, hdr.mono st1, hat1, by decide, ?_⟩
    have hb := nx_pos ns i (m := 11) (by decide)
    generalize nx ns i 11 = many at hb
    walk_at "go"
    refine ⟨fun n σ H' => ∃ (v4 v5 : Option V) (kvs : List (L2.Key × V)) (ys : List V) (cs : List Cm) (j : Nat), σ = [some (.ref dr), some (.ref at_), some (.ref D), some (.ref l), v4, v5] ∧ Stp [at_] H H' ∧ H' at_ = some (.lst [.int (j : Int)]) ∧
        H' D = some (.dK kvs) ∧ DN kvs ∧ kvs.length ≤ 3 + n ∧ H' l = some (.lst ys) ∧ TpA H' ys (cs.map encC) ∧ cs.length = n ∧ ∀ x ∈ cs, 1 ≤ x.2,
      ⟨none, none, k0, [], [], i + 1, rfl, st1.trans (.wl hat1 List.mem_cons_self), upd_same, s_hp da hD1, d0, l0, s_hp la hl1, .nil, rfl, fun x hx => (by cases hx)⟩, fun n σ H' hn hP => ?_, fun σ H' hP => ?_⟩
    · obtain ⟨v4, v5, kvs, ys, cs, j, rfl, st, hj, hDk, hdn, hkl, hL, hy, hcl, hpos⟩ := hP
      have hn' : n < 11 := by omega
      walk_at "go"
      refine ⟨dr, at_, ns, j, 3, rfl, hdr.mono st, hj, by decide, ?_⟩
      have hb3 := nx_pos ns j (m := 3) (by decide)
      generalize nx ns j 3 = r3 at hb3
      have hc : -1 - r3 = -1 ∨ -1 - r3 = -2 ∨ -1 - r3 = -3 := by omega
      obtain ⟨n0, hn0⟩ := hdn _ hc
      have st2 := st.trans (.wl (o := .lst [.int ((j + 1 : Nat) : Int)]) hj List.mem_cons_self)
      have h2a : upd H' at_ (.lst [.int ((j + 1 : Nat) : Int)]) at_ = some (.lst [.int ((j + 1 : Nat) : Int)]) := upd_same
      have h2D : upd H' at_ (.lst [.int ((j + 1 : Nat) : Int)]) D = some (.dK kvs) := s_hp da hDk
      have h2l : upd H' at_ (.lst [.int ((j + 1 : Nat) : Int)]) l = some (.lst ys) := s_hp la hL
      have h2y := hy.mono (Stp.wl (S := [at_]) (o := .lst [.int ((j + 1 : Nat) : Int)]) hj List.mem_cons_self).tl
      generalize upd H' at_ (.lst [.int ((j + 1 : Nat) : Int)]) = H2 at st2 h2a h2D h2l h2y
      walk_at "go"
      refine g_getI h2D hn0 ?_
      walk_at "go"
      refine g_mkL (sz16 (by decide : 7 ≤ 100000)) (fun m hm => ?_)
      walk_at "go"
      refine ⟨dr, at_, ns, j + 1, 7, rfl, hdr.mono (st2.trans (.new hm.h)), by walk_at "hp", by decide, ?_⟩
      have hb7 := nx_pos ns (j + 1) (m := 7) (by decide)
      generalize nx ns (j + 1) 7 = r7 at hb7
      obtain ⟨x7, hx7⟩ := menu7 hb7
      have ma : at_ ≠ m := hm.ne1 h2a
      have mD : D ≠ m := hm.ne1 h2D
      have ml : l ≠ m := hm.ne1 h2l
      have s3 : Stp [at_] H2 (upd (upd H2 m (.lst [.int 1, .int 1, .int 1, .int 1, .int 0, .int 2, .int (-1)])) at_ (.lst [.int ((j + 1 + 1 : Nat) : Int)])) := .trans (.new hm.h) (.wl (s_hp ma h2a) List.mem_cons_self)
      refine g_ixL (.of (s_hp ma.symm upd_same)) hx7 ?_
      have h3a : upd (upd H2 m (.lst [.int 1, .int 1, .int 1, .int 1, .int 0, .int 2, .int (-1)])) at_ (.lst [.int ((j + 1 + 1 : Nat) : Int)]) at_ = some (.lst [.int ((j + 1 + 1 : Nat) : Int)]) := upd_same
      have h3D : upd (upd H2 m (.lst [.int 1, .int 1, .int 1, .int 1, .int 0, .int 2, .int (-1)])) at_ (.lst [.int ((j + 1 + 1 : Nat) : Int)]) D = some (.dK kvs) := s_hp da (s_hp mD h2D)
      have h3l : upd (upd H2 m (.lst [.int 1, .int 1, .int 1, .int 1, .int 0, .int 2, .int (-1)])) at_ (.lst [.int ((j + 1 + 1 : Nat) : Int)]) l = some (.lst ys) := s_hp la (s_hp ml h2l)
      have st3 := st2.trans s3
      have h3y := h2y.mono s3.tl
      generalize upd (upd H2 m (.lst [.int 1, .int 1, .int 1, .int 1, .int 0, .int 2, .int (-1)])) at_ (.lst [.int ((j + 1 + 1 : Nat) : Int)]) = H3 at h3a h3D h3l st3 h3y
      walk_at "go"
      refine g_putI h3D (by rw [sizeLine_eq]; omega) ?_
      generalize hnum : (if n0 + x7 > 1 then n0 + x7 else 1) = num
      have hnum1 : 1 ≤ num := by rw [← hnum]; split <;> omega
      have s4 : Stp [D] H3 (upd H3 D (.dK (putK kvs (.inl (-1 - r3)) (.int num)))) := .wr h3D (fun _ z => nomatch z) List.mem_cons_self
      have st4 : Stp [at_] H (upd H3 D (.dK (putK kvs (.inl (-1 - r3)) (.int num)))) := st3.ownD hD.h
      have h4a : upd H3 D (.dK (putK kvs (.inl (-1 - r3)) (.int num))) at_ = some (.lst [.int ((j + 1 + 1 : Nat) : Int)]) := s_hp da.symm h3a
      have h4D : upd H3 D (.dK (putK kvs (.inl (-1 - r3)) (.int num))) D = some (.dK (putK kvs (.inl (-1 - r3)) (.int num))) := upd_same
      have h4l : upd H3 D (.dK (putK kvs (.inl (-1 - r3)) (.int num))) l = some (.lst ys) := s_hp lD h3l
      have h4y := h3y.mono s4.tl
      generalize upd H3 D (.dK (putK kvs (.inl (-1 - r3)) (.int num))) = H4 at st4 h4a h4D h4l h4y
      walk_at "go"
      refine g_getI h4D (by rw [valV_put, if_pos rfl]) ?_
      walk_at "go"
      refine g_mkT (sz16 (by decide : 3 ≤ 100000)) (fun t ht => ?_)
      walk_at "go"
      have lt : l ≠ t := ht.ne1 h4l
      have ta : at_ ≠ t := ht.ne1 h4a
      have tD : D ≠ t := ht.ne1 h4D
      have lys := LD.len h4y
      refine g_app (s_hp lt h4l) (by rw [sizeLine_eq]; omega) ?_
      walk_at "go"
      have h5l := s_hp (u := .tup [.int (-1 - r3), .int num, .str "get a"]) lt h4l
      have s5 : Stp [l] H4 (upd (upd H4 t (.tup [.int (-1 - r3), .int num, .str "get a"])) l (.lst (ys ++ [.ref t]))) := (Stp.new ht.h).trans (.wl h5l List.mem_cons_self)
      refine ⟨_, _, putK kvs (.inl (-1 - r3)) (.int num), ys ++ [.ref t], cs ++ [(-1 - r3, num)], j + 1 + 1, rfl, (st4.trans (.new ht.h)).own hl0.h h5l, s_hp la.symm (s_hp ta h4a), s_hp lD.symm (s_hp tD h4D), dn_put hdn _ _,
        by have := len_putK kvs (.inl (-1 - r3)) (.int num); omega, upd_same, ?_, by simp [hcl], fun x hx => ?_⟩
      · rw [List.map_append]
        refine (h4y.mono s5.tl).app (.cons ?_ .nil)
        exact .tup (s_hp lt.symm upd_same) (.cons (.int _) (.cons (.int _) (.cons (.str _) .nil)))
      · rcases List.mem_append.mp hx with h | h
        · exact hpos x h
        · rw [List.mem_singleton.mp h]; exact hnum1
    · obtain ⟨v4, v5, kvs, ys, cs, j, rfl, st, hj, hDk, hdn, hkl, hL, hy, hcl, hpos⟩ := hP
      walk_at "go"
      exact k l ys cs j H' hl0 st hj hL hy (by omega) hpos
end

theorem cut_take (xs : List V) (n : Nat) (h : n ≤ xs.length) : cutV xs none (some (n : Int)) = xs.take n := by
  unfold cutV
  rw [HT.sIx_none, HT.sIx_nat, List.drop_zero, Nat.min_eq_left h, Nat.sub_zero]
theorem cut_drop (xs : List V) (n : Nat) (h : n ≤ xs.length) : cutV xs (some (n : Int)) none = xs.drop n := by
  unfold cutV
  rw [HT.sIx_none, HT.sIx_nat, Nat.min_eq_left h]
  exact List.take_of_length_le (by rw [List.length_drop]; omega)
theorem ixN_nat {n j : Nat} (h : j < n) : ixN n (j : Int) = some j := by
  unfold ixN
  rw [if_pos (Int.natCast_nonneg j), if_pos (by omega)]; rfl
theorem hts_take {bs : List Bk} (h : Hts bs) (n : Nat) : Hts (bs.take n) := by
  intro i b hb
  rw [List.getElem?_take] at hb
  split at hb
  · exact h i b hb
  · cases hb
theorem hts_set {bs : List Bk} (h : Hts bs) {n : Nat} {b c : Bk} (hb : bs[n]? = some b) (hc : c.h = b.h) : Hts (bs.set n c) := by
  intro i d hd
  by_cases e : n = i
  · subst e
    rw [List.getElem?_set_self (List.getElem?_eq_some_iff.mp hb).1] at hd
    cases hd
    rw [hc]; exact h _ _ hb
  · rw [List.getElem?_set_ne e] at hd
    exact h i d hd
section
variable {P : Program} {w : World} {K : PySem.W.Frag} {mg : Str → Option Value} {base : Heap}
theorem ok__law_other (T : Txt K mg) : FnOk P w K mg base CX0 2 T.d__law_other.f T.d__law_other.fd ["ledger", "draws", "at"] (spOt K) := by
  refine T.d__law_other.F.ok sc__law_other (fun vs H Q E h => ?_) (fun cdv A outer s H vs Q E hr h => ?_)
  · obtain ⟨_, _, _, _, _, _, _, rfl, _⟩ := h; rfl
  · obtain ⟨c, dr, at_, xs, bs, ns, i, rfl, hc, ht, hdr, hat, hz, hh, k⟩ := h
    refine ⟨_,
(pss_cons (ps_set (i := 3) sc__law_other.nd rfl (by first | exact .inl rfl | exact .inr rfl) (pe_call (ok__law_next T) (hr.mono (by decide)) rfl T.d__law_next.m T.d__law_next.F.kp T.d__law_next.b .nil pass0 (pa_cons (pv 1) (pa_cons (pv 2) (pa_cons (pe_op op_add (pe_callB c_len (by rfl) T.b_len (by decide +kernel) (pa_cons (pv 0) pa_nil)) pe_int) pa_nil)))))
 (pss_cons (ps_set (i := 4) sc__law_other.nd rfl (by first | exact .inl rfl | exact .inr rfl) (pe_slice sl_list (pv 0) po_none (po_some (pv 3))))
 (pss_cons (ps_if (PW.pt (pw_and (pt_cmpR op_gt (pv 3) pe_int (nomark _)) (pw_and1 (pt_cmpR op_eq (pe_call (ok__law_next T) (hr.mono (by decide)) rfl T.d__law_next.m T.d__law_next.F.kp T.d__law_next.b .nil pass0 (pa_cons (pv 1) (pa_cons (pv 2) (pa_cons pe_int pa_nil)))) pe_int (nomark _)))))
 (pss_cons (ps_set (i := 5) sc__law_other.nd rfl (by first | exact .inl rfl | exact .inr rfl) (pe_call (ok__law_next T) (hr.mono (by decide)) rfl T.d__law_next.m T.d__law_next.F.kp T.d__law_next.b .nil pass0 (pa_cons (pv 1) (pa_cons (pv 2) (pa_cons (pv 3) pa_nil)))))
 (pss_cons (ps_set (i := 6) sc__law_other.nd rfl (by first | exact .inl rfl | exact .inr rfl) (pe_ix ix_list (pv 4) (pv 5) (fun _ _ => rfl)))
 (pss_cons (ps_set (i := 7) sc__law_other.nd rfl (by first | exact .inl rfl | exact .inr rfl) (pe_lst (pa_cons (pe_tup (pa_cons (pe_op op_add (pe_ix ix_tup (pv 6) pe_int (fun _ _ => rfl)) pe_int) (pa_cons (pe_ix ix_tup (pv 6) pe_int (fun _ _ => rfl)) (pa_cons (pe_ix ix_tup (pv 6) pe_int (fun _ _ => rfl)) (pa_cons (pe_ix ix_tup (pv 6) pe_int (fun _ _ => rfl)) pa_nil))))) (pa_cons (pe_tup (pa_cons (pe_ix ix_tup (pv 6) pe_int (fun _ _ => rfl)) (pa_cons (pe_ix ix_tup (pv 6) pe_int (fun _ _ => rfl)) (pa_cons (pe_ix ix_tup (pv 6) pe_int (fun _ _ => rfl)) (pa_cons (pe_tup pa_nil) pa_nil))))) pa_nil))))
 (pss_one (ps_asg (pe_ix ix_list (pv 7) (pe_call (ok__law_next T) (hr.mono (by decide)) rfl T.d__law_next.m T.d__law_next.F.kp T.d__law_next.b .nil pass0 (pa_cons (pv 1) (pa_cons (pv 2) (pa_cons pe_int pa_nil)))) (fun _ _ => rfl)) (pg_sub (pv 4) (pv 5) set_list))))))
 pss_nil)
 (pss_one (ps_ret (pv 4))))))
    , ?_⟩
    have e1 := LD.len ht
    walk_at "go"
    refine ⟨dr, at_, ns, i, _, rfl, hdr, hat, by omega, ?_⟩
    have hb := nx_pos ns i (m := (xs.length : Int) + 1) (by omega)
    generalize nx ns i ((xs.length : Int) + 1) = sz at hb
    obtain ⟨n, rfl⟩ : ∃ n : Nat, sz = (n : Int) := ⟨sz.toNat, by omega⟩
    have hn : n ≤ xs.length := by omega
    have st1 : Stp [at_] H (upd H at_ (.lst [.int ((i + 1 : Nat) : Int)])) := .wl hat List.mem_cons_self
    have h1a : upd H at_ (.lst [.int ((i + 1 : Nat) : Int)]) at_ = some (.lst [.int ((i + 1 : Nat) : Int)]) := upd_same
    generalize upd H at_ (.lst [.int ((i + 1 : Nat) : Int)]) = H1 at st1 h1a
    walk_at "go"
    refine g_slL (hc.mono st1).sql (fun o ho => ?_)
    rw [cut_take xs n hn]
    have oa : o ≠ at_ := ho.ne2 h1a
    have no : Nw H o := ho.bk st1 (by simpa using oa)
    have st2 := st1.trans (.new (o := .lst (xs.take n)) ho.h)
    have h2a : upd H1 o (.lst (xs.take n)) at_ = some (.lst [.int ((i + 1 : Nat) : Int)]) := s_hp oa.symm h1a
    have h2o : upd H1 o (.lst (xs.take n)) o = some (.lst (xs.take n)) := upd_same
    generalize upd H1 o (.lst (xs.take n)) = H2 at st2 h2a h2o
    have ht2 : TpA H2 (xs.take n) ((bs.take n).map encB) := by
      have := (ht.mono st2.tl).take n
      rw [← List.map_take] at this; exact this
    have hh2 := hts_take hh n
    walk_at "go"
    refine g_iteD (fun h1 => ?_) (fun h1 => ?_)
    · walk_at "go"
      refine ⟨dr, at_, ns, i + 1, 3, rfl, hdr.mono st2, h2a, by decide, ?_⟩
      have s3 : Stp [at_] H2 (upd H2 at_ (.lst [.int ((i + 1 + 1 : Nat) : Int)])) := .wl h2a List.mem_cons_self
      have h3a : upd H2 at_ (.lst [.int ((i + 1 + 1 : Nat) : Int)]) at_ = some (.lst [.int ((i + 1 + 1 : Nat) : Int)]) := upd_same
      have h3o : upd H2 at_ (.lst [.int ((i + 1 + 1 : Nat) : Int)]) o = some (.lst (xs.take n)) := s_hp oa h2o
      have ht3 := ht2.mono s3.tl
      have st3 := st2.trans s3
      generalize upd H2 at_ (.lst [.int ((i + 1 + 1 : Nat) : Int)]) = H3 at st3 h3a h3o ht3
      walk_at "go"
      refine g_iteD (fun h2 => ?_) (fun h2 => ?_)
      · walk_at "go"
        refine ⟨dr, at_, ns, i + 1 + 1, _, rfl, hdr.mono st3, h3a, h1, ?_⟩
        have hb4 := nx_pos ns (i + 1 + 1) h1
        generalize nx ns (i + 1 + 1) (n : Int) = ix at hb4
        obtain ⟨m, rfl⟩ : ∃ m : Nat, ix = (m : Int) := ⟨ix.toNat, by omega⟩
        have hm : m < n := by omega
        have s4 : Stp [at_] H3 (upd H3 at_ (.lst [.int ((i + 1 + 1 + 1 : Nat) : Int)])) := .wl h3a List.mem_cons_self
        have h4a : upd H3 at_ (.lst [.int ((i + 1 + 1 + 1 : Nat) : Int)]) at_ = some (.lst [.int ((i + 1 + 1 + 1 : Nat) : Int)]) := upd_same
        have h4o : upd H3 at_ (.lst [.int ((i + 1 + 1 + 1 : Nat) : Int)]) o = some (.lst (xs.take n)) := s_hp oa h3o
        have ht4 := ht3.mono s4.tl
        have st4 := st3.trans s4
        generalize upd H3 at_ (.lst [.int ((i + 1 + 1 + 1 : Nat) : Int)]) = H4 at st4 h4a h4o ht4
        have lxs : (xs.take n).length = n := by rw [List.length_take]; omega
        have lbs : (bs.take n).length = n := by rw [List.length_take]; omega
        have hbm := List.getElem?_eq_getElem (l := bs.take n) (i := m) (by omega)
        obtain ⟨v, hv, hV⟩ := LD.get (K := K) (a := c) ht4 hbm
        generalize (bs.take n)[m]'(by omega) = b at hbm hV
        obtain ⟨q, t, zs, rfl, hq, htt, hzs⟩ := bkI hV
        walk_at "go"
        refine g_ixL (.of h4o) (atI_nat hv) ?_
        walk_at "go"
        refine g_mkT (sz16 (by decide : 4 ≤ 100000)) (fun t1 ht1 => ?_)
        walk_at "go"
        refine g_mkT (Nat.zero_le _) (fun t0 ht0 => ?_)
        walk_at "go"
        refine g_mkT (sz16 (by decide : 4 ≤ 100000)) (fun t2 ht2' => ?_)
        walk_at "go"
        refine g_mkL (sz16 (by decide : 2 ≤ 100000)) (fun cl hcl => ?_)
        have a1 : upd H4 t1 (.tup [.int (b.e + 50), .int b.p, .int b.h, .ref t]) t1 = some (.tup [.int (b.e + 50), .int b.p, .int b.h, .ref t]) := upd_same
        have sA : Stp [] H4 (upd H4 t1 (.tup [.int (b.e + 50), .int b.p, .int b.h, .ref t])) := .new ht1.h
        have sB := sA.trans (.new (o := .tup []) ht0.h)
        have sC := sB.trans (.new (o := .tup [.int b.e, .int b.p, .int b.h, .ref t0]) ht2'.h)
        have sD := sC.trans (.new (o := .lst [.ref t1, .ref t2]) hcl.h)
        have b1 := (((Stp.new (S := []) (o := .tup []) ht0.h).trans (.new (o := .tup [.int b.e, .int b.p, .int b.h, .ref t0]) ht2'.h)).trans (.new (o := .lst [.ref t1, .ref t2]) hcl.h)).tl _ _ a1
        have a0 : upd (upd H4 t1 (.tup [.int (b.e + 50), .int b.p, .int b.h, .ref t])) t0 (.tup []) t0 = some (.tup []) := upd_same
        have b0 := ((Stp.new (S := []) (o := .tup [.int b.e, .int b.p, .int b.h, .ref t0]) ht2'.h).trans (.new (o := .lst [.ref t1, .ref t2]) hcl.h)).tl _ _ a0
        have a2 : upd (upd (upd H4 t1 (.tup [.int (b.e + 50), .int b.p, .int b.h, .ref t])) t0 (.tup [])) t2 (.tup [.int b.e, .int b.p, .int b.h, .ref t0]) t2 = some (.tup [.int b.e, .int b.p, .int b.h, .ref t0]) := upd_same
        have b2 := (Stp.new (S := []) (o := .lst [.ref t1, .ref t2]) hcl.h).tl _ _ a2
        have bc : upd (upd (upd (upd H4 t1 (.tup [.int (b.e + 50), .int b.p, .int b.h, .ref t])) t0 (.tup [])) t2 (.tup [.int b.e, .int b.p, .int b.h, .ref t0])) cl (.lst [.ref t1, .ref t2]) cl = some (.lst [.ref t1, .ref t2]) := upd_same
        generalize upd (upd (upd (upd H4 t1 (.tup [.int (b.e + 50), .int b.p, .int b.h, .ref t])) t0 (.tup [])) t2 (.tup [.int b.e, .int b.p, .int b.h, .ref t0])) cl (.lst [.ref t1, .ref t2]) = H5 at sD b1 b0 b2 bc
        have h5a := s_fx0 sD h4a
        have h5o := s_fx0 sD h4o
        have ht5 := ht4.mono sD.tl
        have st5 := st4.trans sD.up
        have ca : cl ≠ at_ := fun e => by
          rw [e] at bc
          rw [h5a] at bc
          cases bc
        walk_at "go"
        refine ⟨dr, at_, ns, i + 1 + 1 + 1, 2, rfl, hdr.mono st5, h5a, by decide, ?_⟩
        have hb6 := nx_pos ns (i + 1 + 1 + 1) (m := 2) (by decide)
        generalize nx ns (i + 1 + 1 + 1) 2 = r2 at hb6
        have s6 : Stp [at_] H5 (upd H5 at_ (.lst [.int ((i + 1 + 1 + 1 + 1 : Nat) : Int)])) := .wl h5a List.mem_cons_self
        have h6a : upd H5 at_ (.lst [.int ((i + 1 + 1 + 1 + 1 : Nat) : Int)]) at_ = some (.lst [.int ((i + 1 + 1 + 1 + 1 : Nat) : Int)]) := upd_same
        have h6o : upd H5 at_ (.lst [.int ((i + 1 + 1 + 1 + 1 : Nat) : Int)]) o = some (.lst (xs.take n)) := s_hp oa h5o
        have h6c : upd H5 at_ (.lst [.int ((i + 1 + 1 + 1 + 1 : Nat) : Int)]) cl = some (.lst [.ref t1, .ref t2]) := s_hp ca bc
        have b6 := s6.tl _ _ b1
        have b60 := s6.tl _ _ b0
        have b62 := s6.tl _ _ b2
        have hcs : TpA (upd H5 at_ (.lst [.int ((i + 1 + 1 + 1 + 1 : Nat) : Int)])) zs (b.cs.map encC) := (hzs.mono sD.tl).mono s6.tl
        have htt6 := s6.tl _ _ (sD.tl _ _ htt)
        have ht6 := ht5.mono s6.tl
        have st6 := st5.trans s6
        generalize upd H5 at_ (.lst [.int ((i + 1 + 1 + 1 + 1 : Nat) : Int)]) = H6 at st6 h6a h6o h6c b6 b60 b62 hcs htt6 ht6
        obtain ⟨tz, bz, hat2, hTz, hbz⟩ : ∃ (tz : Addr) (bz : Bk), atI [V.ref t1, V.ref t2] r2 = some (.ref tz) ∧ Tp H6 (.ref tz) (encB bz) ∧ bz.h = b.h := by
          have : r2 = 0 ∨ r2 = 1 := by omega
          rcases this with rfl | rfl
          · exact ⟨t1, ⟨b.e + 50, b.p, b.h, b.cs⟩, rfl, .tup b6 (.cons (.int _) (.cons (.int _) (.cons (.int _) (.cons (.tup htt6 hcs) .nil)))), rfl⟩
          · exact ⟨t2, ⟨b.e, b.p, b.h, []⟩, rfl, .tup b62 (.cons (.int _) (.cons (.int _) (.cons (.int _) (.cons (.tup b60 .nil) .nil)))), rfl⟩
        refine g_ixL (.of h6c) hat2 ?_
        walk_at "go"
        refine g_setL h6o (ixN_nat (by omega)) ?_
        walk_at "go"
        have s7 : Stp [o] H6 (upd H6 o (.lst ((xs.take n).set m (.ref tz)))) := .wl h6o List.mem_cons_self
        refine k o ((xs.take n).set m (.ref tz)) ((bs.take n).set m bz) _ _ no (st6.own no.h h6o) (s_hp oa.symm h6a) upd_same ?_ (hts_set hh2 hbm hbz) (by rw [List.length_set, lbs]; omega)
        have q := (ht6.mono s7.tl).set m (hTz.mono s7.tl)
        rw [← List.map_set] at q
        exact q
      · walk_at "go"
        exact k o _ _ _ H3 no st3 h3a h3o ht3 hh2 (by rw [List.length_take]; omega)
    · walk_at "go"
      walk_at "go"
      exact k o _ _ _ H2 no st2 h2a h2o ht2 hh2 (by rw [List.length_take]; omega)
end

theorem lay_word (x : Str) (h : x.cps.all (· < 0x110000) = true) : (PyData.str x).canLay0 = true := by rw [PyData.canLay0]; exact h
theorem encA_sh (r : Option (Nat × Nat × Nat)) : SeqAt.shaped (encA r) = true := by
  rcases r with _ | ⟨i, j, h⟩
  · decide
  · refine shaped_of ?_ (by simp [encA, PyData.depth, PyData.depthAll])
    show (PyData.tuple [.str "agreement", .int _, .int _, .int _]).canLay0 = true
    rw [PyData.canLay0, PyData.canLayAll0, PyData.canLayAll0, PyData.canLayAll0, PyData.canLayAll0, PyData.canLayAll0, lay_word "agreement" (by decide +kernel)]; rfl
theorem encCh_sh (r : Option Nat) : SeqAt.shaped (encCh r) = true := by
  rcases r with _ | i
  · decide
  · refine shaped_of ?_ (by simp [encCh, PyData.depth, PyData.depthAll])
    show (PyData.tuple [.str "chain", .int _]).canLay0 = true
    rw [PyData.canLay0, PyData.canLayAll0, PyData.canLayAll0, PyData.canLayAll0, lay_word "chain" (by decide +kernel)]; rfl
theorem encLo_sh (r : Option (Nat × Int)) : SeqAt.shaped (encLo r) = true := by
  rcases r with _ | ⟨i, h⟩
  · decide
  · refine shaped_of ?_ (by simp [encLo, PyData.depth, PyData.depthAll])
    show (PyData.tuple [.str "lost", .int _, .int _]).canLay0 = true
    rw [PyData.canLay0, PyData.canLayAll0, PyData.canLayAll0, PyData.canLayAll0, PyData.canLayAll0, lay_word "lost" (by decide +kernel)]; rfl
theorem encV_sh (r : Option (Bool × Nat)) : SeqAt.shaped (encV r) = true := by
  rcases r with _ | ⟨b, h⟩
  · decide
  · cases b
    · refine shaped_of ?_ (by simp [encV, PyData.depth, PyData.depthAll])
      show (PyData.tuple [.str "again", .int _]).canLay0 = true
      rw [PyData.canLay0, PyData.canLayAll0, PyData.canLayAll0, PyData.canLayAll0, lay_word "again" (by decide +kernel)]; rfl
    · refine shaped_of ?_ (by simp [encV, PyData.depth, PyData.depthAll])
      show (PyData.tuple [.str "unknown", .int _]).canLay0 = true
      rw [PyData.canLay0, PyData.canLayAll0, PyData.canLayAll0, PyData.canLayAll0, lay_word "unknown" (by decide +kernel)]; rfl
theorem g_neT {K : PySem.W.Frag} {H : Hp} {Q : VK} {x y : V} {d : PyData} (hx : Tp H x d) (hy : Tp H y d) (sd : SeqAt.shaped d = true) (k : Q (.bl false) H) : rNeD K x y H Q :=
  g_neSame hx.dp hy.dp sd (SeqAt.eqv_refl d (SeqAt.canLay_of_shaped sd)) k
theorem Ls.sub {S S' : List Addr} {H : Hp} {a : Addr} {xs : List V} (h : Ls S H a xs) (hs : ∀ b ∈ S', b ∈ S) : Ls S' H a xs := ⟨fun z => h.1 (hs a z), h.2⟩
theorem s3 {at_ la ev a : Addr} : a ∉ [at_, la, ev] ↔ a ≠ at_ ∧ a ≠ la ∧ a ≠ ev := by simp
/-- what stands while the law runs on -/
def LI (H6 : Hp) (at_ la ev : Addr) (ls : List (List Bk)) (evs : List (Nat × Bk)) (H : Hp) : Prop := Stp [at_, la, ev] H6 H ∧ (∃ j : Nat, H at_ = some (.lst [.int (j : Int)])) ∧
  (∃ rs : List Addr, H la = some (.lst (rs.map V.ref)) ∧ rs.length = ls.length ∧ ∀ (i : Nat) (r : Addr), rs[i]? = some r → ∃ xs l, ls[i]? = some l ∧ Ls [at_, la, ev] H r xs ∧ TpA H xs (l.map encB)) ∧
  (∃ es, H ev = some (.lst es) ∧ TpA H es (evs.map encE))
theorem LI.mono {H6 H H' : Hp} {at_ la ev : Addr} {ls : List (List Bk)} {evs : List (Nat × Bk)} (h : LI H6 at_ la ev ls evs H) (s : Stp [] H H') : LI H6 at_ la ev ls evs H' := by
  obtain ⟨st, ⟨j, hj⟩, ⟨rs, hr, hl, hg⟩, es, he, ht⟩ := h
  refine ⟨st.trans s.up, ⟨j, s_fx0 s hj⟩, ⟨rs, s_fx0 s hr, hl, fun i r hi => ?_⟩, es, s_fx0 s he, ht.mono s.tl⟩
  obtain ⟨xs, l, h1, h2, h3⟩ := hg i r hi
  exact ⟨xs, l, h1, h2.mono s.up, h3.mono s.tl⟩
theorem LI.at_ {H6 H H' : Hp} {at_ la ev : Addr} {ls : List (List Bk)} {evs : List (Nat × Bk)} (h : LI H6 at_ la ev ls evs H) (s : Stp [at_] H H') (hj : ∃ j : Nat, H' at_ = some (.lst [.int (j : Int)])) (n1 : la ≠ at_) (n2 : ev ≠ at_) : LI H6 at_ la ev ls evs H' := by
  obtain ⟨st, _, ⟨rs, hr, hl, hg⟩, es, he, ht⟩ := h
  have s' : Stp [at_, la, ev] H H' := s.mono (by simp)
  refine ⟨st.trans s', hj, ⟨rs, s_fx1 s n1 hr, hl, fun i r hi => ?_⟩, es, s_fx1 s n2 he, ht.mono s.tl⟩
  obtain ⟨xs, l, h1, h2, h3⟩ := hg i r hi
  exact ⟨xs, l, h1, h2.mono s', h3.mono s.tl⟩
theorem LI.ll {K : PySem.W.Frag} {H6 H : Hp} {at_ la ev : Addr} {ls : List (List Bk)} {evs : List (Nat × Bk)} (h : LI H6 at_ la ev ls evs H) : LL K H la ls := by
  obtain ⟨st, _, ⟨rs, hr, hl, hg⟩, es, he, ht⟩ := h
  refine ⟨rs, .of hr, hl, fun i r hi => ?_⟩
  obtain ⟨xs, l, h1, h2, h3⟩ := hg i r hi
  exact ⟨l, h1, xs, h2.sql, h3⟩
def spLaw (K : PySem.W.Frag) : Sp := fun vs H Q _ => ∃ (a : Addr) (ns : List Int), vs = [.ref a] ∧ SqL K H a (ns.map V.int) ∧ ns.length ≤ 63 ∧ ∀ H', Q (.bl true) H'
section
variable {P : Program} {w : World} {K : PySem.W.Frag} {mg : Str → Option Value} {base : Heap}
theorem ok_law (T : Txt K mg) : FnOk P w K mg base CX0 3 T.d_law.f T.d_law.fd ["script"] (spLaw K) := by
  refine T.d_law.F.ok sc_law (fun vs H Q E h => ?_) (fun cdv A outer s H vs Q E hr h => ?_)
  · obtain ⟨_, _, rfl, _⟩ := h; rfl
  · obtain ⟨a, ns, rfl, hs, hz, k⟩ := h
    refine ⟨_,
(pss_cons (ps_set (i := 1) sc_law.nd rfl (by first | exact .inl rfl | exact .inr rfl) (pe_call (ok__law_draws T) (hr.mono (by decide)) rfl T.d__law_draws.m T.d__law_draws.F.kp T.d__law_draws.b .nil pass0 (pa_cons (pv 0) pa_nil)))
 (pss_cons (ps_set (i := 2) sc_law.nd rfl (by first | exact .inl rfl | exact .inr rfl) (pe_lst (pa_cons pe_int pa_nil)))
 (pss_cons (ps_set (i := 3) sc_law.nd rfl (by first | exact .inl rfl | exact .inr rfl) (pe_call (ok__law_drawn T) (hr.mono (by decide)) rfl T.d__law_drawn.m T.d__law_drawn.F.kp T.d__law_drawn.b .nil pass0 (pa_cons (pv 1) (pa_cons (pv 2) pa_nil))))
 (pss_cons (ps_set (i := 4) sc_law.nd rfl (by first | exact .inl rfl | exact .inr rfl) (pe_call (ok__law_blocks T) (hr.mono (by decide)) rfl T.d__law_blocks.m T.d__law_blocks.F.kp T.d__law_blocks.b .nil pass0 (pa_cons (pv 3) (pa_cons (pv 1) (pa_cons (pv 2) pa_nil)))))
 (pss_cons (ps_set (i := 5) sc_law.nd rfl (by first | exact .inl rfl | exact .inr rfl) (pe_lst pa_nil))
 (pss_cons (ps_set (i := 6) sc_law.nd rfl (by first | exact .inl rfl | exact .inr rfl) (pe_lst pa_nil))
 (pss_cons (ps_for PassesOwn.never rfl (pi_range1 rfl T.b_range (pa_cons (pe_call (ok__law_next T) (hr.mono (by decide)) rfl T.d__law_next.m T.d__law_next.F.kp T.d__law_next.b .nil pass0 (pa_cons (pv 1) (pa_cons (pv 2) (pa_cons pe_int pa_nil)))) pa_nil)) (pg_name (i := 7) sc_law.nd rfl (by first | exact .inl rfl | exact .inr rfl))
 (pss_cons (ps_expr (pe_bm PySem.F.plainAttrs_list PySem.F.slot_list_append PySem.F.type_list_append mt_append (pv 5) (pa_cons (pe_call (ok__law_other T) (hr.mono (by decide)) rfl T.d__law_other.m T.d__law_other.F.kp T.d__law_other.b .nil pass0 (pa_cons (pv 4) (pa_cons (pv 1) (pa_cons (pv 2) pa_nil)))) pa_nil)))
 (pss_one (ps_for PassesOwn.never rfl (pi_list (pe_ix ix_list (pv 5) (pv 7) (fun _ _ => rfl))) (pg_name (i := 8) sc_law.nd rfl (by first | exact .inl rfl | exact .inr rfl))
 (pss_one (ps_expr (pe_bm PySem.F.plainAttrs_list PySem.F.slot_list_append PySem.F.type_list_append mt_append (pv 6) (pa_cons (pe_tup (pa_cons pe_str (pa_cons (pv 7) (pa_cons (pv 7) (pa_cons (pv 8) pa_nil))))) pa_nil))))))))
 (pss_cons (ps_if (PW.pt (pw_or (pt_cmpR (op_neD hr.units) (pe_call (ok_ledger_commands T) (hr.mono (by decide)) rfl T.d_ledger_commands.m T.d_ledger_commands.F.kp T.d_ledger_commands.b .nil pass0 (pa_cons (pv 4) pa_nil)) (pv 3) (nomark _)) (pw_or1 (pt_cmpR (op_neD hr.units) (pe_call (ok_agreement_fault T) (hr.mono (by decide)) rfl T.d_agreement_fault.m T.d_agreement_fault.F.kp T.d_agreement_fault.b .nil pass0 (pa_cons (pe_lc (own := [("row", 11)]) (g := gName 11) (tt := tYes) rfl sc_law.nd (pi_list (pv 5)) (blkOk_by (own := [("row", 11)]) (N := ["script", "draws", "at", "commands", "ledger", "ledgers", "events", "k", "block", "calls", "index", "row"]) (sc := defScope s_law) (by decide +kernel)) (fun _ _ _ _ _ => (pg_name (i := 11) sc_law.nd rfl (by first | exact .inl rfl | exact .inr rfl))) (fun _ _ _ _ _ => pts_nil) (fun _ _ _ _ _ => (pe_callTy (T := "list") (r := rList K) c_list (by rfl) T.b_list (by decide +kernel) (pa_cons (pv 11) pa_nil)))) pa_nil)) (pe_call (ok__law_agreement T) (hr.mono (by decide)) rfl T.d__law_agreement.m T.d__law_agreement.F.kp T.d__law_agreement.b .nil pass0 (pa_cons (pv 5) pa_nil)) (nomark _)))))
 (pss_one (ps_ret pe_bl))
 pss_nil)
 (pss_cons (ps_set (i := 9) sc_law.nd rfl (by first | exact .inl rfl | exact .inr rfl) (pe_callTy c_list (by rfl) T.b_list (by decide +kernel) (pa_cons (pv 3) pa_nil)))
 (Evl.pss_cut (ps_if (PW.pt (pw_and (pt_cmpR op_gt (pe_callB c_len (by rfl) T.b_len (by decide +kernel) (pa_cons (pv 9) pa_nil)) pe_int (nomark _)) (pw_and1 (pt_cmpR op_eq (pe_call (ok__law_next T) (hr.mono (by decide)) rfl T.d__law_next.m T.d__law_next.F.kp T.d__law_next.b .nil pass0 (pa_cons (pv 1) (pa_cons (pv 2) (pa_cons pe_int pa_nil)))) pe_int (nomark _)))))
 (pss_cons (ps_set (i := 10) sc_law.nd rfl (by first | exact .inl rfl | exact .inr rfl) (pe_call (ok__law_next T) (hr.mono (by decide)) rfl T.d__law_next.m T.d__law_next.F.kp T.d__law_next.b .nil pass0 (pa_cons (pv 1) (pa_cons (pv 2) (pa_cons (pe_callB c_len (by rfl) T.b_len (by decide +kernel) (pa_cons (pv 9) pa_nil)) pa_nil)))))
 (pss_one (ps_set (i := 9) sc_law.nd rfl (by first | exact .inl rfl | exact .inr rfl) (pe_op op_cat (pe_slice sl_list (pv 9) po_none (po_some (pv 10))) (pe_slice sl_list (pv 9) (po_some (pe_op op_add (pv 10) pe_int)) po_none)))))
 pss_nil)
 (pss_cons (ps_if (pt_cmpR (op_neD hr.units) (pe_call (ok_validity_fault T) (hr.mono (by decide)) rfl T.d_validity_fault.m T.d_validity_fault.F.kp T.d_validity_fault.b .nil pass0 (pa_cons (pe_callTy c_list (by rfl) T.b_list (by decide +kernel) (pa_cons (pv 4) pa_nil)) (pa_cons (pe_callTy c_list (by rfl) T.b_list (by decide +kernel) (pa_cons (pv 9) pa_nil)) pa_nil))) (pe_call (ok__law_validity T) (hr.mono (by decide)) rfl T.d__law_validity.m T.d__law_validity.F.kp T.d__law_validity.b .nil pass0 (pa_cons (pv 3) (pa_cons (pv 9) pa_nil))) (nomark _))
 (pss_one (ps_ret pe_bl))
 pss_nil)
 (pss_cons (ps_for PassesOwn.never rfl (pi_list (pe_op op_cat (pv 5) (pe_lst (pa_cons (pv 4) pa_nil)))) (pg_name (i := 11) sc_law.nd rfl (by first | exact .inl rfl | exact .inr rfl))
 (pss_one (ps_if (PW.pt (pw_or (pt_cmpR (op_neD hr.units) (pe_call (ok_chain_fault T) (hr.mono (by decide)) rfl T.d_chain_fault.m T.d_chain_fault.F.kp T.d_chain_fault.b .nil pass0 (pa_cons (pe_callTy c_list (by rfl) T.b_list (by decide +kernel) (pa_cons (pv 11) pa_nil)) pa_nil)) (pe_call (ok__law_chain T) (hr.mono (by decide)) rfl T.d__law_chain.m T.d__law_chain.F.kp T.d__law_chain.b .nil pass0 (pa_cons (pv 11) pa_nil)) (nomark _)) (pw_or1 (pt_cmpR (op_neD hr.units) (pe_call (ok_lost_fault T) (hr.mono (by decide)) rfl T.d_lost_fault.m T.d_lost_fault.F.kp T.d_lost_fault.b .nil pass0 (pa_cons (pe_callTy c_list (by rfl) T.b_list (by decide +kernel) (pa_cons (pv 6) pa_nil)) (pa_cons (pe_callTy c_list (by rfl) T.b_list (by decide +kernel) (pa_cons (pv 11) pa_nil)) pa_nil))) (pe_call (ok__law_lost T) (hr.mono (by decide)) rfl T.d__law_lost.m T.d__law_lost.F.kp T.d__law_lost.b .nil pass0 (pa_cons (pv 6) (pa_cons (pv 11) pa_nil))) (nomark _)))))
 (pss_one (ps_ret pe_bl))
 pss_nil)))
 (pss_one (ps_ret (pe_and (pe_cmpR o_isN (pe_call (ok_agreement_fault T) (hr.mono (by decide)) rfl T.d_agreement_fault.m T.d_agreement_fault.F.kp T.d_agreement_fault.b .nil pass0 (pa_cons (pe_lst pa_nil) pa_nil)) pe_non (nomark _)) (pe_one (pe_cmpR o_isN (pe_call (ok_chain_fault T) (hr.mono (by decide)) rfl T.d_chain_fault.m T.d_chain_fault.F.kp T.d_chain_fault.b .nil pass0 (pa_cons (pe_callTy c_list (by rfl) T.b_list (by decide +kernel) (pa_cons (pv 4) pa_nil)) pa_nil)) pe_non (nomark _))))))))))))))))))
    , ?_⟩
    walk_at "go"
    refine ⟨a, ns, rfl, hs, hz, fun dr ds H1 hdr st1 hdr1 => ?_⟩
    walk_at "go"
    refine g_mkL (sz16 (by decide : 1 ≤ 100000)) (fun at_ hat => ?_)
    have da : dr ≠ at_ := hat.ne1 hdr1
    have hat2 : upd H1 at_ (.lst [.int 0]) at_ = some (.lst [.int ((0 : Nat) : Int)]) := upd_same
    have hdr2 : Ls [at_] (upd H1 at_ (.lst [.int 0])) dr (ds.map V.int) := ⟨by simpa using da, s_hp da hdr1⟩
    generalize upd H1 at_ (.lst [.int 0]) = H2 at hat2 hdr2
    walk_at "go"
    refine ⟨dr, at_, ds, 0, rfl, hdr2, hat2, fun cl ycs cs i3 H3 hcl st3 hat3 hcl3 tcs3 lcs pos => ?_⟩
    have ca : cl ≠ at_ := hcl.ne2 hat2
    walk_at "go"
    refine ⟨cl, dr, at_, ycs, cs, ds, i3, rfl, ⟨by simpa using ca, hcl3⟩, tcs3, hdr2.mono st3, hat3, lcs, fun lg ylg bs i4 H4 hlg st4 hat4 hlg4 tbs4 hts hcm lbs chn => ?_⟩
    have ga : lg ≠ at_ := hlg.ne2 hat3
    walk_at "go"
    refine g_mkL (Nat.zero_le _) (fun la hla => ?_)
    walk_at "go"
    refine g_mkL (Nat.zero_le _) (fun ev hev => ?_)
    have hcl4 : H4 cl = some (.lst ycs) := s_fx1 st4 ca hcl3
    have hdr4 : H4 dr = some (.lst (ds.map V.int)) := ((hdr2.mono st3).mono st4).2
    have laa : la ≠ at_ := hla.ne2 hat4
    have eva : ev ≠ at_ := hev.back.ne2 hat4
    have evla : la ≠ ev := hev.ne3
    have hev4 := hev.back
    have st6 : Stp [] H4 (upd (upd H4 la (.lst [])) ev (.lst [])) := .trans (.new hla.h) (.new hev.h)
    have hat6 := s_fx0 st6 hat4
    have hla6 : upd (upd H4 la (.lst [])) ev (.lst []) la = some (.lst []) := s_hp evla upd_same
    have hev6 : upd (upd H4 la (.lst [])) ev (.lst []) ev = some (.lst []) := upd_same
    have hcl6 : Ls [at_, la, ev] (upd (upd H4 la (.lst [])) ev (.lst [])) cl ycs := ⟨s3.mpr ⟨ca, hla.ne1 hcl4, hev4.ne1 hcl4⟩, s_fx0 st6 hcl4⟩
    have hlg6 : Ls [at_, la, ev] (upd (upd H4 la (.lst [])) ev (.lst [])) lg ylg := ⟨s3.mpr ⟨ga, hla.ne1 hlg4, hev4.ne1 hlg4⟩, s_fx0 st6 hlg4⟩
    have hdr6 : Ls [at_, la, ev] (upd (upd H4 la (.lst [])) ev (.lst [])) dr (ds.map V.int) := ⟨s3.mpr ⟨da, hla.ne1 hdr4, hev4.ne1 hdr4⟩, s_fx0 st6 hdr4⟩
    have tcs6 := (tcs3.mono st4.tl).mono st6.tl
    have tbs6 := tbs4.mono st6.tl
    have li6 : LI (upd (upd H4 la (.lst [])) ev (.lst [])) at_ la ev [] [] (upd (upd H4 la (.lst [])) ev (.lst [])) :=
      ⟨.refl _ _, ⟨i4, hat6⟩, ⟨[], hla6, rfl, fun i r hi => (by simp at hi)⟩, [], hev6, .nil⟩
    generalize upd (upd H4 la (.lst [])) ev (.lst []) = H6 at li6 tcs6 tbs6 hcl6 hlg6 hdr6 hat6
    have sub : ∀ b ∈ [at_], b ∈ [at_, la, ev] := by simp
    walk_at "go"
    refine ⟨dr, at_, ds, i4, 5, rfl, hdr6.sub sub, hat6, by decide, ?_⟩
    have hb := nx_pos ds i4 (m := 5) (by decide)
    generalize nx ds i4 5 = many at hb
    have li7 := li6.at_ (.wl (o := .lst [.int ((i4 + 1 : Nat) : Int)]) hat6 List.mem_cons_self) ⟨_, upd_same⟩ laa eva
    generalize upd H6 at_ (.lst [.int ((i4 + 1 : Nat) : Int)]) = H7 at li7
    walk_at "go"
    refine ⟨fun n σ H' => ∃ (ls : List (List Bk)) (evs : List (Nat × Bk)) (v7 v8 v9 v10 v11 : Option V), σ = [some (.ref a), some (.ref dr), some (.ref at_), some (.ref cl), some (.ref lg), some (.ref la), some (.ref ev), v7, v8, v9, v10, v11] ∧
        LI H6 at_ la ev ls evs H' ∧ ls.length = n ∧ (∀ l ∈ ls, Hts l ∧ l.length ≤ 30) ∧ evs.length ≤ 30 * n ∧ ∀ x ∈ evs, 1 ≤ x.2.h,
      ⟨[], [], none, none, none, none, none, rfl, li7, rfl, fun l hl => (by cases hl), Nat.le_refl _, fun x hx => (by cases hx)⟩, fun n σ H' hn hP => ?_, fun σ H' hP => ?_⟩
    · obtain ⟨ls, evs, v7, v8, v9, v10, v11, rfl, li, hl, hok, hel, heh⟩ := hP
      have hn' : n < 5 := by omega
      obtain ⟨st, ⟨j, hj⟩, ⟨rs, hrs, hrl, hg⟩, es, hes, tes⟩ := id li
      walk_at "go"
      refine ⟨lg, dr, at_, ylg, bs, ds, j, rfl, (hlg6.mono st).sub sub, tbs6.mono st.tl, (hdr6.mono st).sub sub, hj, lbs, hts, fun p ys os j' H2 hp stp hatp hp2 tos hto lo => ?_⟩
      have liA := li.at_ stp ⟨_, hatp⟩ laa eva
      obtain ⟨stA, _, ⟨rsA, hrsA, hrlA, hgA⟩, esA, hesA, tesA⟩ := id liA
      have pS : p ∉ [at_, la, ev] := s3.mpr ⟨hp.ne2 hj, hp.ne2 hrs, hp.ne2 hes⟩
      walk_at "go"
      refine g_app hrsA (by rw [List.length_map, sizeLine_eq]; omega) ?_
      have sB : Stp [at_, la, ev] H2 (upd H2 la (.lst (rsA.map V.ref ++ [.ref p]))) := .wl hrsA (by simp)
      have liB : LI H6 at_ la ev (ls ++ [os]) evs (upd H2 la (.lst (rsA.map V.ref ++ [.ref p]))) := by
        refine ⟨stA.trans sB, ⟨j', s_hp laa.symm hatp⟩, ⟨rsA ++ [p], by rw [upd_same]; simp, by simp [hrlA], fun i r hi => ?_⟩, esA, s_hp evla.symm hesA, tesA.mono sB.tl⟩
        by_cases q : i < rsA.length
        · rw [List.getElem?_append_left q] at hi
          obtain ⟨xs, l, h1, h2, h3⟩ := hgA i r hi
          exact ⟨xs, l, by rw [List.getElem?_append_left (by omega)]; exact h1, h2.mono sB, h3.mono sB.tl⟩
        · rw [List.getElem?_append_right (by omega)] at hi
          cases hk : i - rsA.length with
          | succ m => rw [hk] at hi; cases hi
          | zero =>
            rw [hk] at hi; cases hi
            exact ⟨ys, os, by rw [List.getElem?_append_right (by omega), show i - ls.length = 0 by omega]; rfl, ⟨pS, sB.fx _ _ pS hp2⟩, tos.mono sB.tl⟩
      have hpB : Ls [at_, la, ev] (upd H2 la (.lst (rsA.map V.ref ++ [.ref p]))) p ys := ⟨pS, sB.fx _ _ pS hp2⟩
      have tosB := tos.mono sB.tl
      have hlaB : upd H2 la (.lst (rsA.map V.ref ++ [.ref p])) la = some (.lst (rsA.map V.ref ++ [.ref p])) := upd_same
      generalize upd H2 la (.lst (rsA.map V.ref ++ [.ref p])) = HB at liB hpB tosB hlaB
      have lys := LD.len tosB
      walk_at "go"
      refine g_ixL (.of hlaB) (at_of (v := .ref p) (j := n) (by omega) (by rw [List.getElem?_append_right (by rw [List.length_map]; omega), List.length_map, show n - rsA.length = 0 by omega]; rfl)) ?_
      walk_at "go"
      refine g_forL hpB.sql ⟨fun m σ H3 => ∃ (v8 : Option V), σ = [some (.ref a), some (.ref dr), some (.ref at_), some (.ref cl), some (.ref lg), some (.ref la), some (.ref ev), some (.int (n : Int)), v8, v9, v10, v11] ∧
          LI H6 at_ la ev (ls ++ [os]) (evs ++ (os.take m).map (fun b => (n, b))) H3 ∧ Ls [at_, la, ev] H3 p ys ∧ TpA H3 ys (os.map encB),
        ⟨v8, by rw [Int.zero_add]; rfl, by simpa using liB, hpB, tosB⟩, fun m σ H3 _ hQ => ?_, fun m x σ H3 hx hQ => ?_, fun σ H3 hQ => ?_⟩
      · obtain ⟨v8, rfl, li3, hp3, tos3⟩ := hQ
        exact hp3.sql
      · obtain ⟨v8, rfl, li3, hp3, tos3⟩ := hQ
        obtain ⟨b, hb', hB⟩ := LD.getV tos3 hx
        obtain ⟨st3', hj3, ⟨rs3, hrs3, hrl3, hg3⟩, es3, hes3, tes3⟩ := id li3
        have hm : m < os.length := (List.getElem?_eq_some_iff.mp hb').1
        walk_at "go"
        refine g_mkT (sz16 (by decide : 4 ≤ 100000)) (fun t ht => ?_)
        walk_at "go"
        have et : ev ≠ t := ht.ne1 hes3
        have les := LD.len tes3
        rw [List.length_append, List.length_map, List.length_take] at les
        refine g_app (s_hp et hes3) (by rw [sizeLine_eq]; omega) ?_
        walk_at "go"
        have hes4 := s_hp (u := .tup [.str "final", .int (n : Int), .int (n : Int), x]) et hes3
        have sT : Stp [] H3 (upd H3 t (.tup [.str "final", .int (n : Int), .int (n : Int), x])) := .new ht.h
        have liT := li3.mono sT
        have sC : Stp [at_, la, ev] (upd H3 t (.tup [.str "final", .int (n : Int), .int (n : Int), x])) (upd (upd H3 t (.tup [.str "final", .int (n : Int), .int (n : Int), x])) ev (.lst (es3 ++ [.ref t]))) := .wl hes4 (by simp)
        obtain ⟨stT, ⟨jT, hjT⟩, ⟨rsT, hrsT, hrlT, hgT⟩, esT, hesT, tesT⟩ := liT
        refine ⟨_, rfl, ⟨stT.trans sC, ⟨jT, s_hp eva.symm hjT⟩, ⟨rsT, s_hp evla hrsT, hrlT, fun i r hi => ?_⟩, es3 ++ [.ref t], upd_same, ?_⟩, (hp3.mono sT.up).mono sC, (tos3.mono sT.tl).mono sC.tl⟩
        · obtain ⟨xs, l, h1, h2, h3⟩ := hgT i r hi
          exact ⟨xs, l, h1, h2.mono sC, h3.mono sC.tl⟩
        · have ee : (evs ++ (os.take m ++ [b]).map (fun b => (n, b))).map encE = (evs ++ (os.take m).map (fun b => (n, b))).map encE ++ [encE (n, b)] := by simp
          rw [take_snoc hb', ee]
          refine ((tes3.mono sT.tl).mono sC.tl).app (.cons ?_ .nil)
          exact .tup (s_hp et.symm upd_same) (.cons (.str _) (.cons (.int _) (.cons (.int _) (.cons ((hB.mono sT.tl).mono sC.tl) .nil))))
      · obtain ⟨v8, rfl, li3, hp3, tos3⟩ := hQ
        rw [lys, List.take_length] at li3
        refine ⟨_, _, _, _, _, _, _, rfl, li3, by simp [hl], fun l hl' => ?_, by simp; omega, fun x hx => ?_⟩
        · rcases List.mem_append.mp hl' with h | h
          · exact hok l h
          · rw [List.mem_singleton.mp h]; exact ⟨hto, lo⟩
        · rcases List.mem_append.mp hx with h | h
          · exact heh x h
          · obtain ⟨b, hb', rfl⟩ := List.mem_map.mp h
            obtain ⟨i, hi⟩ := List.getElem?_of_mem hb'
            have := hto i b hi
            show 1 ≤ b.h
            omega
    · obtain ⟨ls, evs, v7, v8, v9, v10, v11, rfl, li, hl, hok, hel, heh⟩ := hP
      obtain ⟨st, ⟨j, hj⟩, ⟨rs, hrs, hrl, hg⟩, es, hes, tes⟩ := id li
      have hlen : ls.length ≤ 5 := by omega
      have hel' : evs.length ≤ 150 := by omega
      clear hel
      have clsh : SeqAt.shaped (.list (cs.map encC)) = true := sh_list encC_lay encC_dep (by decide) cs
      -- ledger_commands(ledger) != commands
      walk_at "go"
      refine ⟨lg, bs, rfl, ⟨ylg, (hlg6.mono st).sql, tbs6.mono st.tl⟩, by rw [hcm]; omega, fun p ys H8 hp st8 hp8 typ => ?_⟩
      rw [hcm] at typ
      have li8 := li.mono st8
      walk_at "go"
      refine g_neSame (d := .list (cs.map encC)) (.lst (.of hp8) typ.dp) (.lst (hcl6.mono li8.1).sql (tcs6.mono li8.1.tl).dp) clsh (SeqAt.eqv_refl _ (SeqAt.canLay_of_shaped clsh)) ?_
      walk_at "go"
      -- agreement_fault([list(row) for row in ledgers]) != _law_agreement(ledgers)
      obtain ⟨st8', ⟨j8, hj8⟩, ⟨rs8, hrs8, hrl8, hg8⟩, es8, hes8, tes8⟩ := id li8
      refine g_lcL (xs := rs8.map V.ref) (.of hrs8) (fun D hD => ?_)
      refine ⟨fun i H' => Stp [] H8 H' ∧ ∃ ps : List Addr, H' D = some (.lst (ps.map V.ref)) ∧ ps.length = i ∧ ∀ (j : Nat) (q : Addr), ps[j]? = some q → ∃ l xs, ls[j]? = some l ∧ Ls [D] H' q xs ∧ TpA H' xs (l.map encB),
        ⟨.new hD.h, [], upd_same, rfl, fun j q hq => (by simp at hq)⟩, fun i H' _ hP => ?_, fun i x H' hx hP => ?_, fun H' hP => ?_⟩
      · exact s_sq0 hP.1 (.of hrs8)
      · obtain ⟨sP, ps, hps, hpl, hpg⟩ := hP
        rw [List.getElem?_map] at hx
        obtain ⟨r, hr', rfl⟩ : ∃ r, rs8[i]? = some r ∧ V.ref r = x := by
          cases q : rs8[i]? with
          | none => rw [q] at hx; cases hx
          | some r => rw [q] at hx; exact ⟨r, rfl, Option.some.inj hx⟩
        obtain ⟨xs, l, hl', hLs, hT⟩ := hg8 i r hr'
        have hi5 := (List.getElem?_eq_some_iff.mp hr').1
        walk_at "go"
        refine ⟨rfl, ?_⟩
        refine g_yes (iteT ?_)
        walk_at "go"
        refine g_listL (.of (s_fx0 sP hLs.2)) (fun q hq => ?_)
        have Dq : D ≠ q := hq.ne1 hps
        have sQ : Stp [] H' (upd H' q (.lst xs)) := .new hq.h
        have hD2 := s_hp (u := .lst xs) Dq hps
        have sW : Stp [D] (upd H' q (.lst xs)) (upd (upd H' q (.lst xs)) D (.lst (ps.map V.ref ++ [.ref q]))) := .wl hD2 List.mem_cons_self
        refine ⟨ps.map V.ref, hD2, by rw [List.length_map, sizeLine_eq]; omega, (sP.trans sQ).own hD.h hD2, ps ++ [q], by rw [upd_same]; simp, by simp [hpl], fun j q' hq' => ?_⟩
        by_cases e : j < ps.length
        · rw [List.getElem?_append_left e] at hq'
          obtain ⟨l', ys', h1, h2, h3⟩ := hpg j q' hq'
          exact ⟨l', ys', h1, (h2.mono sQ.up).mono sW, (h3.mono sQ.tl).mono sW.tl⟩
        · rw [List.getElem?_append_right (by omega)] at hq'
          cases hk : j - ps.length with
          | succ m => rw [hk] at hq'; cases hq'
          | zero =>
            rw [hk] at hq'; cases hq'
            refine ⟨l, xs, by rw [show j = i by omega]; exact hl', ⟨by simpa using Dq.symm, s_hp Dq.symm upd_same⟩, ((hT.mono sP.tl).mono sQ.tl).mono sW.tl⟩
      · obtain ⟨sP, ps, hps, hpl, hpg⟩ := hP
        rw [List.length_map, hrl8] at hpl
        have li9 := li8.mono sP
        walk_at "go"
        refine ⟨D, ls, rfl, ⟨ps, .of hps, hpl, fun i r hi => ?_⟩, by omega, fun l hl' => by have := (hok l hl').2; omega, fun v1 H10 s10 t1 => ?_⟩
        · obtain ⟨l, xs, h1, h2, h3⟩ := hpg i r hi
          exact ⟨l, h1, xs, h2.sql, h3⟩
        have li10 := li9.mono s10
        walk_at "go"
        refine ⟨la, ls, rfl, li10.ll, by omega, fun l hl' => by have := (hok l hl').2; omega, fun v2 H11 s11 t2 => ?_⟩
        have li11 := li10.mono s11
        refine g_neT (t1.mono s11.tl) t2 (encA_sh _) ?_
        walk_at "go"
        -- calls = list(commands)
        refine g_listL (hcl6.mono li11.1).sql (fun kl hkl => ?_)
        have sK : Stp [] H11 (upd H11 kl (.lst ycs)) := .new hkl.h
        have li12 := li11.mono sK
        have hk12 : upd H11 kl (.lst ycs) kl = some (.lst ycs) := upd_same
        have tk12 := tcs6.mono li12.1.tl
        generalize upd H11 kl (.lst ycs) = H12 at li12 hk12 tk12
        walk_at "go"
        refine ⟨fun σ H' => ∃ (kl : Addr) (xs : List V) (calls : List Cm) (v7 v8 v10 v11 : Option V), σ = [some (.ref a), some (.ref dr), some (.ref at_), some (.ref cl), some (.ref lg), some (.ref la), some (.ref ev), v7, v8, some (.ref kl), v10, v11] ∧
          LI H6 at_ la ev ls evs H' ∧ H' kl = some (.lst xs) ∧ TpA H' xs (calls.map encC) ∧ calls.length ≤ 10, ?_, fun σ H' hM => ?_⟩
        · have lyc := LD.len tk12
          walk_at "go"
          refine g_iteD (fun h1 => ?_) (fun h1 => ?_)
          · obtain ⟨_, ⟨j12, hj12⟩, _⟩ := id li12
            walk_at "go"
            refine ⟨dr, at_, ds, j12, 4, rfl, (hdr6.mono li12.1).sub sub, hj12, by decide, ?_⟩
            have ka : kl ≠ at_ := fun e => by
              rw [e, hj12] at hk12
              have e2 := congrArg List.length (HO.lst.inj (Option.some.inj hk12))
              cases hcs : cs with
              | nil => rw [hcs] at lyc; simp at lyc; rw [lyc] at h1; simp at h1
              | cons c r =>
                have t0 := tk12
                rw [hcs, List.map_cons] at t0
                obtain ⟨v, r', e3, hv, _⟩ := consI t0
                rw [e3] at hk12
                obtain ⟨q, rfl, _⟩ := cmI hv
                have := HO.lst.inj (Option.some.inj hk12)
                simp at this
            have sN : Stp [at_] H12 (upd H12 at_ (.lst [.int ((j12 + 1 : Nat) : Int)])) := .wl hj12 List.mem_cons_self
            have li13 := li12.at_ sN ⟨_, upd_same⟩ laa eva
            have hk13 : upd H12 at_ (.lst [.int ((j12 + 1 : Nat) : Int)]) kl = some (.lst ycs) := s_hp ka hk12
            have tk13 := tk12.mono sN.tl
            generalize upd H12 at_ (.lst [.int ((j12 + 1 : Nat) : Int)]) = H13 at li13 hk13 tk13
            walk_at "go"
            refine g_iteD (fun h2 => ?_) (fun h2 => ?_)
            · obtain ⟨_, ⟨j13, hj13⟩, _⟩ := id li13
              walk_at "go"
              refine ⟨dr, at_, ds, j13, _, rfl, (hdr6.mono li13.1).sub sub, hj13, h1, ?_⟩
              have hb2 := nx_pos ds j13 h1
              generalize nx ds j13 (ycs.length : Int) = ix at hb2
              obtain ⟨m, rfl⟩ : ∃ m : Nat, ix = (m : Int) := ⟨ix.toNat, by omega⟩
              have sN2 : Stp [at_] H13 (upd H13 at_ (.lst [.int ((j13 + 1 : Nat) : Int)])) := .wl hj13 List.mem_cons_self
              have li14 := li13.at_ sN2 ⟨_, upd_same⟩ laa eva
              have hk14 : upd H13 at_ (.lst [.int ((j13 + 1 : Nat) : Int)]) kl = some (.lst ycs) := s_hp ka hk13
              have tk14 := tk13.mono sN2.tl
              generalize upd H13 at_ (.lst [.int ((j13 + 1 : Nat) : Int)]) = H14 at li14 hk14 tk14
              walk_at "go"
              refine g_slL (.of hk14) (fun u1 hu1 => ?_)
              rw [cut_take ycs m (by omega)]
              have k1 : kl ≠ u1 := hu1.ne1 hk14
              walk_at "go"
              refine g_slL (.of (s_hp k1 hk14)) (fun u2 hu2 => ?_)
              have u12 : u1 ≠ u2 := hu2.ne3
              have em : (m : Int) + 1 = ((m + 1 : Nat) : Int) := by omega
              rw [em, cut_drop ycs (m + 1) (by omega)]
              refine g_cat (s_hp u12 upd_same) upd_same (by rw [List.length_take, List.length_drop, sizeLine_eq]; omega) (fun u3 hu3 => ?_)
              have sU : Stp [] H14 (upd (upd (upd H14 u1 (.lst (ycs.take m))) u2 (.lst (ycs.drop (m + 1)))) u3 (.lst (ycs.take m ++ ycs.drop (m + 1)))) := ((Stp.new hu1.h).trans (.new hu2.h)).trans (.new hu3.h)
              walk_at "go"
              refine ⟨u3, _, cs.take m ++ cs.drop (m + 1), _, _, _, _, rfl, li14.mono sU, upd_same, ?_, by rw [List.length_append, List.length_take, List.length_drop]; omega⟩
              rw [List.map_append, List.map_take, List.map_drop]
              exact ((tk14.mono sU.tl).take m).app ((tk14.mono sU.tl).drop (m + 1))
            · walk_at "go"
              exact ⟨kl, ycs, cs, _, _, _, _, rfl, li13, hk13, tk13, lcs⟩
          · walk_at "go"
            exact ⟨kl, ycs, cs, _, _, _, _, rfl, li12, hk12, tk12, lcs⟩
        · obtain ⟨kl, xs, calls, v7, v8, v10, v11, rfl, liM, hkM, tkM, lcalls⟩ := hM
          -- validity_fault(list(ledger), list(calls)) != _law_validity(commands, calls)
          walk_at "go"
          refine g_listL (hlg6.mono liM.1).sql (fun q1 hq1 => ?_)
          have s1 : Stp [] H' (upd H' q1 (.lst ylg)) := .new hq1.h
          have li1 := liM.mono s1
          have hq1' : upd H' q1 (.lst ylg) q1 = some (.lst ylg) := upd_same
          have hk1 := s_fx0 s1 hkM
          have tk1 := tkM.mono s1.tl
          generalize upd H' q1 (.lst ylg) = G1 at s1 li1 hq1' hk1 tk1
          walk_at "go"
          refine g_listL (.of hk1) (fun q2 hq2 => ?_)
          have s2 : Stp [] G1 (upd G1 q2 (.lst xs)) := .new hq2.h
          have li2 := li1.mono s2
          have hq2' : upd G1 q2 (.lst xs) q2 = some (.lst xs) := upd_same
          have hq1'' := s_fx0 s2 hq1'
          have hk2 := s_fx0 s2 hk1
          have tk2 := tk1.mono s2.tl
          generalize upd G1 q2 (.lst xs) = G2 at s2 li2 hq2' hq1'' hk2 tk2
          walk_at "go"
          refine ⟨q1, q2, bs, calls, rfl, ⟨ylg, .of hq1'', tbs6.mono li2.1.tl⟩, ⟨xs, .of hq2', tk2⟩, by rw [hcm]; omega, by omega, by rw [hcm]; exact pos, fun v1 G3 s3' t1 => ?_⟩
          rw [hcm] at t1
          have li3 := li2.mono s3'
          have hk3 := s_fx0 s3' hk2
          have tk3 := tk2.mono s3'.tl
          walk_at "go"
          refine ⟨cl, kl, cs, calls, rfl, ⟨ycs, (hcl6.mono li3.1).sql, tcs6.mono li3.1.tl⟩, ⟨xs, .of hk3, tk3⟩, by omega, by omega, fun v2 G4 s4 t2 => ?_⟩
          have li4 := li3.mono s4
          refine g_neT (t1.mono s4.tl) t2 (encV_sh _) ?_
          walk_at "go"
          -- for row in ledgers + [ledger]
          refine g_mkL (sz16 (by decide : 1 ≤ 100000)) (fun m1 hm1 => ?_)
          have s5 : Stp [] G4 (upd G4 m1 (.lst [.ref lg])) := .new hm1.h
          have li5 := li4.mono s5
          have hm1' : upd G4 m1 (.lst [.ref lg]) m1 = some (.lst [.ref lg]) := upd_same
          generalize upd G4 m1 (.lst [.ref lg]) = G5 at li5 hm1'
          obtain ⟨st5', _, ⟨rs5, hrs5, hrl5, hg5⟩, es5, hes5, tes5⟩ := id li5
          refine g_cat hrs5 hm1' (by rw [List.length_map, sizeLine_eq]; show rs5.length + 1 ≤ _; omega) (fun w1 hw1 => ?_)
          have s6 : Stp [] G5 (upd G5 w1 (.lst (rs5.map V.ref ++ [.ref lg]))) := .new hw1.h
          have li6' := li5.mono s6
          have hw1' : upd G5 w1 (.lst (rs5.map V.ref ++ [.ref lg])) w1 = some (.lst (rs5.map V.ref ++ [.ref lg])) := upd_same
          have rows : ∀ (i : Nat) (x : V), (rs5.map V.ref ++ [V.ref lg])[i]? = some x → ∃ r xs l, x = .ref r ∧ Ls [at_, la, ev] (upd G5 w1 (.lst (rs5.map V.ref ++ [.ref lg]))) r xs ∧ TpA (upd G5 w1 (.lst (rs5.map V.ref ++ [.ref lg]))) xs (l.map encB) ∧ Hts l ∧ l.length ≤ 30 := by
            intro i x hx
            by_cases e : i < rs5.length
            · rw [List.getElem?_append_left (by rw [List.length_map]; exact e), List.getElem?_map] at hx
              cases q : rs5[i]? with
              | none => rw [q] at hx; cases hx
              | some r =>
                rw [q] at hx; cases hx
                obtain ⟨xs, l, h1, h2, h3⟩ := hg5 i r q
                have hm := hok l (List.mem_of_getElem? h1)
                exact ⟨r, xs, l, rfl, h2.mono s6.up, h3.mono s6.tl, hm.1, hm.2⟩
            · rw [List.getElem?_append_right (by rw [List.length_map]; omega), List.length_map] at hx
              cases hk : i - rs5.length with
              | succ m => rw [hk] at hx; cases hx
              | zero =>
                rw [hk] at hx; cases hx
                exact ⟨lg, ylg, bs, rfl, hlg6.mono li6'.1, tbs6.mono li6'.1.tl, hts, lbs⟩
          generalize upd G5 w1 (.lst (rs5.map V.ref ++ [.ref lg])) = G6 at li6' hw1' rows
          generalize rs5.map V.ref ++ [V.ref lg] = ws at hw1' rows
          walk_at "go"
          refine g_forL (xs := ws) (.of hw1') ⟨fun i σ H2 => ∃ (v7 v8 v9 v10 v11 : Option V), σ = [some (.ref a), some (.ref dr), some (.ref at_), some (.ref cl), some (.ref lg), some (.ref la), some (.ref ev), v7, v8, v9, v10, v11] ∧ Stp [] G6 H2,
            ⟨_, _, _, _, _, rfl, .refl _ _⟩, fun i σ H2 _ hQ => ?_, fun i x σ H2 hx hQ => ?_, fun σ H2 hQ => ?_⟩
          · obtain ⟨v7, v8, v9, v10, v11, rfl, sQ⟩ := hQ
            exact .of (s_fx0 sQ hw1')
          · obtain ⟨v7, v8, v9, v10, v11, rfl, sQ⟩ := hQ
            obtain ⟨r, ys, l, rfl, hr6, tr6, hth, hl30⟩ := rows i x hx
            have liR := li6'.mono sQ
            have hrR := hr6.mono (S := [at_, la, ev]) sQ.up
            have trR := tr6.mono sQ.tl
            walk_at "go"
            refine g_listL hrR.sql (fun c1 hc1 => ?_)
            have sA : Stp [] H2 (upd H2 c1 (.lst ys)) := .new hc1.h
            have hc1' : upd H2 c1 (.lst ys) c1 = some (.lst ys) := upd_same
            generalize upd H2 c1 (.lst ys) = F1 at sA hc1'
            walk_at "go"
            refine ⟨c1, l, rfl, ⟨ys, .of hc1', trR.mono sA.tl⟩, by omega, fun u1 F2 sB tB => ?_⟩
            have sAB := sA.trans sB
            walk_at "go"
            refine ⟨r, l, rfl, ⟨ys, (hrR.mono sAB.up).sql, trR.mono sAB.tl⟩, by omega, fun u2 F3 sC tC => ?_⟩
            have sABC := sAB.trans sC
            refine g_neT (tB.mono sC.tl) tC (encCh_sh _) ?_
            have liC := liR.mono sABC
            have hrC := hrR.mono (S := [at_, la, ev]) sABC.up
            have trC := trR.mono sABC.tl
            obtain ⟨_, _, _, esC, hesC, tesC⟩ := id liC
            walk_at "go"
            refine g_listL (.of hesC) (fun c2 hc2 => ?_)
            have sD : Stp [] F3 (upd F3 c2 (.lst esC)) := .new hc2.h
            have hc2' : upd F3 c2 (.lst esC) c2 = some (.lst esC) := upd_same
            generalize upd F3 c2 (.lst esC) = F4 at sD hc2'
            walk_at "go"
            refine g_listL (hrC.mono sD.up).sql (fun c3 hc3 => ?_)
            have sE : Stp [] F4 (upd F4 c3 (.lst ys)) := .new hc3.h
            have hc3' : upd F4 c3 (.lst ys) c3 = some (.lst ys) := upd_same
            have hc2'' := s_fx0 sE hc2'
            generalize upd F4 c3 (.lst ys) = F5 at sE hc3' hc2''
            have sDE := sD.trans sE
            walk_at "go"
            refine ⟨c2, c3, evs, l, rfl, ⟨esC, .of hc2'', tesC.mono sDE.tl⟩, ⟨ys, .of hc3', trC.mono sDE.tl⟩, by omega, by omega, hth, heh, fun u3 F6 sF tF => ?_⟩
            have sDEF := sDE.trans sF
            walk_at "go"
            refine ⟨ev, r, evs, l, rfl, ⟨esC, .of (s_fx0 sDEF hesC), tesC.mono sDEF.tl⟩, ⟨ys, (hrC.mono sDEF.up).sql, trC.mono sDEF.tl⟩, by omega, by omega, hth, heh, fun u4 F7 sG tG => ?_⟩
            refine g_neT (tF.mono sG.tl) tG (encLo_sh _) ?_
            walk_at "go"
            exact ⟨_, _, _, _, _, rfl, ((sQ.trans sABC).trans sDEF).trans sG⟩
          · obtain ⟨v7, v8, v9, v10, v11, rfl, sQ⟩ := hQ
            have liE := li6'.mono sQ
            walk_at "go"
            refine g_mkL (Nat.zero_le _) (fun m2 hm2 => ?_)
            walk_at "go"
            refine ⟨m2, [], rfl, ⟨[], .of upd_same, rfl, fun i r hi => (by simp at hi)⟩, by simp, fun l hl' => (by cases hl'), fun v3 E1 sM t3 => ?_⟩
            have eN : agM [] = none := rfl
            rw [eN] at t3
            obtain rfl := noneI t3
            walk_at "go"
            refine g_iteD (fun _ => ?_) (fun z => absurd rfl z)
            have liF := (liE.mono (.new (o := .lst []) hm2.h)).mono sM
            walk_at "go"
            refine g_listL (hlg6.mono liF.1).sql (fun m3 hm3 => ?_)
            have sZ : Stp [] E1 (upd E1 m3 (.lst ylg)) := .new hm3.h
            walk_at "go"
            refine ⟨m3, bs, rfl, ⟨ylg, .of upd_same, (tbs6.mono liF.1.tl).mono sZ.tl⟩, by omega, fun v4 E2 sX t4 => ?_⟩
            rw [chM_none hts chn] at t4
            obtain rfl := noneI t4
            walk_at "go"
            exact k _
end

theorem all_mk {l : PySem.W.OpenLaw} {w : World} {K : PySem.W.Frag} {h : Heap} {mg : Str → Option Value} {fa f0 f1 f2 f3 f4 f5 f6 f7 f8 f9 f10 f11 f12 f13 f14 f15 f16 : Addr} (X : K.In h) (G : h.Ns mainGlobals mg) (hfa : mg "law" = some (.ref fa))
    {od0 an0 od1 an1 od2 an2 od3 an3 od4 an4 od5 an5 od6 an6 od7 an7 od8 an8 od9 an9 od10 an10 od11 an11 od12 an12 od13 an13 od14 an14 od15 an15 od16 an16 : Option Addr} {sl0 sl1 sl2 sl3 sl4 sl5 sl6 sl7 sl8 sl9 sl10 sl11 sl12 sl13 sl14 sl15 sl16 : Array (Option Value)} {oc0 kV0 dc0 pm0 cd0 ct0 oc1 kV1 dc1 pm1 cd1 ct1 oc2 kV2 dc2 pm2 cd2 ct2 oc3 kV3 dc3 pm3 cd3 ct3 oc4 kV4 dc4 pm4 cd4 ct4 oc5 kV5 dc5 pm5 cd5 ct5 oc6 kV6 dc6 pm6 cd6 ct6 oc7 kV7 dc7 pm7 cd7 ct7 oc8 kV8 dc8 pm8 cd8 ct8 oc9 kV9 dc9 pm9 cd9 ct9 oc10 kV10 dc10 pm10 cd10 ct10 oc11 kV11 dc11 pm11 cd11 ct11 oc12 kV12 dc12 pm12 cd12 ct12 oc13 kV13 dc13 pm13 cd13 ct13 oc14 kV14 dc14 pm14 cd14 ct14 oc15 kV15 dc15 pm15 cd15 ct15 oc16 kV16 dc16 pm16 cd16 ct16 : Value}
    {gA eA : Addr} {gd : Option Addr} {gt1 gt2 gt3 : Tok} {gn : Nat} {gsl : Array (Option Value)}
    (a0 : PySem.W.nsIn K mainGlobals "follows" = some (some (.ref f0))) (l0 : K.lookup f0 = some ⟨oc0, od0, .func (PySem.W.fnOf "follows" "follows" (defArgs s_follows) (defBody s_follows) (defScope s_follows) .none kV0 dc0 pm0 an0 cd0 ct0), sl0⟩) (c0 : PySem.W.codeIn K cd0 "follows" = true) (k0 : PySem.W.keepIn K (.ref f0) = true)
    (a1 : PySem.W.nsIn K mainGlobals "ledger_commands" = some (some (.ref f1))) (l1 : K.lookup f1 = some ⟨oc1, od1, .func (PySem.W.fnOf "ledger_commands" "ledger_commands" (defArgs s_ledger_commands) (defBody s_ledger_commands) (defScope s_ledger_commands) .none kV1 dc1 pm1 an1 cd1 ct1), sl1⟩) (c1 : PySem.W.codeIn K cd1 "ledger_commands" = true) (k1 : PySem.W.keepIn K (.ref f1) = true)
    (a2 : PySem.W.nsIn K mainGlobals "first_difference" = some (some (.ref f2))) (l2 : K.lookup f2 = some ⟨oc2, od2, .func (PySem.W.fnOf "first_difference" "first_difference" (defArgs s_first_difference) (defBody s_first_difference) (defScope s_first_difference) .none kV2 dc2 pm2 an2 cd2 ct2), sl2⟩) (c2 : PySem.W.codeIn K cd2 "first_difference" = true) (k2 : PySem.W.keepIn K (.ref f2) = true)
    (a3 : PySem.W.nsIn K mainGlobals "agreement_fault" = some (some (.ref f3))) (l3 : K.lookup f3 = some ⟨oc3, od3, .func (PySem.W.fnOf "agreement_fault" "agreement_fault" (defArgs s_agreement_fault) (defBody s_agreement_fault) (defScope s_agreement_fault) .none kV3 dc3 pm3 an3 cd3 ct3), sl3⟩) (c3 : PySem.W.codeIn K cd3 "agreement_fault" = true) (k3 : PySem.W.keepIn K (.ref f3) = true)
    (a4 : PySem.W.nsIn K mainGlobals "chain_fault" = some (some (.ref f4))) (l4 : K.lookup f4 = some ⟨oc4, od4, .func (PySem.W.fnOf "chain_fault" "chain_fault" (defArgs s_chain_fault) (defBody s_chain_fault) (defScope s_chain_fault) .none kV4 dc4 pm4 an4 cd4 ct4), sl4⟩) (c4 : PySem.W.codeIn K cd4 "chain_fault" = true) (k4 : PySem.W.keepIn K (.ref f4) = true)
    (a5 : PySem.W.nsIn K mainGlobals "validity_fault" = some (some (.ref f5))) (l5 : K.lookup f5 = some ⟨oc5, od5, .func (PySem.W.fnOf "validity_fault" "validity_fault" (defArgs s_validity_fault) (defBody s_validity_fault) (defScope s_validity_fault) .none kV5 dc5 pm5 an5 cd5 ct5), sl5⟩) (c5 : PySem.W.codeIn K cd5 "validity_fault" = true) (k5 : PySem.W.keepIn K (.ref f5) = true)
    (a6 : PySem.W.nsIn K mainGlobals "lost_fault" = some (some (.ref f6))) (l6 : K.lookup f6 = some ⟨oc6, od6, .func (PySem.W.fnOf "lost_fault" "lost_fault" (defArgs s_lost_fault) (defBody s_lost_fault) (defScope s_lost_fault) .none kV6 dc6 pm6 an6 cd6 ct6), sl6⟩) (c6 : PySem.W.codeIn K cd6 "lost_fault" = true) (k6 : PySem.W.keepIn K (.ref f6) = true)
    (a7 : PySem.W.nsIn K mainGlobals "_law_draws" = some (some (.ref f7))) (l7 : K.lookup f7 = some ⟨oc7, od7, .func (PySem.W.fnOf "_law_draws" "_law_draws" (defArgs s__law_draws) (defBody s__law_draws) (defScope s__law_draws) .none kV7 dc7 pm7 an7 cd7 ct7), sl7⟩) (c7 : PySem.W.codeIn K cd7 "_law_draws" = true) (k7 : PySem.W.keepIn K (.ref f7) = true)
    (a8 : PySem.W.nsIn K mainGlobals "_law_next" = some (some (.ref f8))) (l8 : K.lookup f8 = some ⟨oc8, od8, .func (PySem.W.fnOf "_law_next" "_law_next" (defArgs s__law_next) (defBody s__law_next) (defScope s__law_next) .none kV8 dc8 pm8 an8 cd8 ct8), sl8⟩) (c8 : PySem.W.codeIn K cd8 "_law_next" = true) (k8 : PySem.W.keepIn K (.ref f8) = true)
    (a9 : PySem.W.nsIn K mainGlobals "_law_blocks" = some (some (.ref f9))) (l9 : K.lookup f9 = some ⟨oc9, od9, .func (PySem.W.fnOf "_law_blocks" "_law_blocks" (defArgs s__law_blocks) (defBody s__law_blocks) (defScope s__law_blocks) .none kV9 dc9 pm9 an9 cd9 ct9), sl9⟩) (c9 : PySem.W.codeIn K cd9 "_law_blocks" = true) (k9 : PySem.W.keepIn K (.ref f9) = true)
    (a10 : PySem.W.nsIn K mainGlobals "_law_drawn" = some (some (.ref f10))) (l10 : K.lookup f10 = some ⟨oc10, od10, .func (PySem.W.fnOf "_law_drawn" "_law_drawn" (defArgs s__law_drawn) (defBody s__law_drawn) (defScope s__law_drawn) .none kV10 dc10 pm10 an10 cd10 ct10), sl10⟩) (c10 : PySem.W.codeIn K cd10 "_law_drawn" = true) (k10 : PySem.W.keepIn K (.ref f10) = true)
    (a11 : PySem.W.nsIn K mainGlobals "_law_other" = some (some (.ref f11))) (l11 : K.lookup f11 = some ⟨oc11, od11, .func (PySem.W.fnOf "_law_other" "_law_other" (defArgs s__law_other) (defBody s__law_other) (defScope s__law_other) .none kV11 dc11 pm11 an11 cd11 ct11), sl11⟩) (c11 : PySem.W.codeIn K cd11 "_law_other" = true) (k11 : PySem.W.keepIn K (.ref f11) = true)
    (a12 : PySem.W.nsIn K mainGlobals "_law_agreement" = some (some (.ref f12))) (l12 : K.lookup f12 = some ⟨oc12, od12, .func (PySem.W.fnOf "_law_agreement" "_law_agreement" (defArgs s__law_agreement) (defBody s__law_agreement) (defScope s__law_agreement) .none kV12 dc12 pm12 an12 cd12 ct12), sl12⟩) (c12 : PySem.W.codeIn K cd12 "_law_agreement" = true) (k12 : PySem.W.keepIn K (.ref f12) = true)
    (a13 : PySem.W.nsIn K mainGlobals "_law_chain" = some (some (.ref f13))) (l13 : K.lookup f13 = some ⟨oc13, od13, .func (PySem.W.fnOf "_law_chain" "_law_chain" (defArgs s__law_chain) (defBody s__law_chain) (defScope s__law_chain) .none kV13 dc13 pm13 an13 cd13 ct13), sl13⟩) (c13 : PySem.W.codeIn K cd13 "_law_chain" = true) (k13 : PySem.W.keepIn K (.ref f13) = true)
    (a14 : PySem.W.nsIn K mainGlobals "_law_validity" = some (some (.ref f14))) (l14 : K.lookup f14 = some ⟨oc14, od14, .func (PySem.W.fnOf "_law_validity" "_law_validity" (defArgs s__law_validity) (defBody s__law_validity) (defScope s__law_validity) .none kV14 dc14 pm14 an14 cd14 ct14), sl14⟩) (c14 : PySem.W.codeIn K cd14 "_law_validity" = true) (k14 : PySem.W.keepIn K (.ref f14) = true)
    (a15 : PySem.W.nsIn K mainGlobals "_law_lost" = some (some (.ref f15))) (l15 : K.lookup f15 = some ⟨oc15, od15, .func (PySem.W.fnOf "_law_lost" "_law_lost" (defArgs s__law_lost) (defBody s__law_lost) (defScope s__law_lost) .none kV15 dc15 pm15 an15 cd15 ct15), sl15⟩) (c15 : PySem.W.codeIn K cd15 "_law_lost" = true) (k15 : PySem.W.keepIn K (.ref f15) = true)
    (a16 : PySem.W.nsIn K mainGlobals "law" = some (some (.ref f16))) (l16 : K.lookup f16 = some ⟨oc16, od16, .func (PySem.W.fnOf "law" "law" (defArgs s_law) (defBody s_law) (defScope s_law) .none kV16 dc16 pm16 an16 cd16 ct16), sl16⟩) (c16 : PySem.W.codeIn K cd16 "law" = true) (k16 : PySem.W.keepIn K (.ref f16) = true)
    (z_len : PySem.W.nsIn K mainGlobals "len" = some none)
    (z_range : PySem.W.nsIn K mainGlobals "range" = some none)
    (z_min : PySem.W.nsIn K mainGlobals "min" = some none)
    (z_max : PySem.W.nsIn K mainGlobals "max" = some none)
    (z_abs : PySem.W.nsIn K mainGlobals "abs" = some none)
    (z_int : PySem.W.nsIn K mainGlobals "int" = some none)
    (z_list : PySem.W.nsIn K mainGlobals "list" = some none)
    (ag : PySem.W.nsIn K mainGlobals "GENESIS" = some (some (.ref gA))) (gl : K.lookup gA = some ⟨.type "tuple", gd, .seq #[.int 0 gt1, .int 0 gt2, .int 0 gt3, .ref eA] gn, gsl⟩) :
    ∃ fd : FuncData, (∀ (s : Shared) (v : Value), BindsTo s fd ⟨[v], []⟩ [("script", v)]) ∧ ∀ base : Heap, K.In base → base.Ns mainGlobals mg → FnOk l.prog w K mg base CX0 3 fa fd ["script"] (spLaw K) := by
  have e := hfa.symm.trans (PySem.W.mg_of X G a16)
  cases e
  have F0 := fun_mk (st := s_follows) l0 c0 k0
  have b0 := F0.binds (ps := ["block", "parent"]) fun _ _ _ _ _ _ us hl => match us, hl with | [_, _], _ => rfl
  have F1 := fun_mk (st := s_ledger_commands) l1 c1 k1
  have b1 := F1.binds (ps := ["ledger"]) fun _ _ _ _ _ _ us hl => match us, hl with | [_], _ => rfl
  have F2 := fun_mk (st := s_first_difference) l2 c2 k2
  have b2 := F2.binds (ps := ["first", "second"]) fun _ _ _ _ _ _ us hl => match us, hl with | [_, _], _ => rfl
  have F3 := fun_mk (st := s_agreement_fault) l3 c3 k3
  have b3 := F3.binds (ps := ["ledgers"]) fun _ _ _ _ _ _ us hl => match us, hl with | [_], _ => rfl
  have F4 := fun_mk (st := s_chain_fault) l4 c4 k4
  have b4 := F4.binds (ps := ["ledger"]) fun _ _ _ _ _ _ us hl => match us, hl with | [_], _ => rfl
  have F5 := fun_mk (st := s_validity_fault) l5 c5 k5
  have b5 := F5.binds (ps := ["ledger", "calls"]) fun _ _ _ _ _ _ us hl => match us, hl with | [_, _], _ => rfl
  have F6 := fun_mk (st := s_lost_fault) l6 c6 k6
  have b6 := F6.binds (ps := ["events", "ledger"]) fun _ _ _ _ _ _ us hl => match us, hl with | [_, _], _ => rfl
  have F7 := fun_mk (st := s__law_draws) l7 c7 k7
  have b7 := F7.binds (ps := ["script"]) fun _ _ _ _ _ _ us hl => match us, hl with | [_], _ => rfl
  have F8 := fun_mk (st := s__law_next) l8 c8 k8
  have b8 := F8.binds (ps := ["draws", "at", "many"]) fun _ _ _ _ _ _ us hl => match us, hl with | [_, _, _], _ => rfl
  have F9 := fun_mk (st := s__law_blocks) l9 c9 k9
  have b9 := F9.binds (ps := ["commands", "draws", "at"]) fun _ _ _ _ _ _ us hl => match us, hl with | [_, _, _], _ => rfl
  have F10 := fun_mk (st := s__law_drawn) l10 c10 k10
  have b10 := F10.binds (ps := ["draws", "at"]) fun _ _ _ _ _ _ us hl => match us, hl with | [_, _], _ => rfl
  have F11 := fun_mk (st := s__law_other) l11 c11 k11
  have b11 := F11.binds (ps := ["ledger", "draws", "at"]) fun _ _ _ _ _ _ us hl => match us, hl with | [_, _, _], _ => rfl
  have F12 := fun_mk (st := s__law_agreement) l12 c12 k12
  have b12 := F12.binds (ps := ["ledgers"]) fun _ _ _ _ _ _ us hl => match us, hl with | [_], _ => rfl
  have F13 := fun_mk (st := s__law_chain) l13 c13 k13
  have b13 := F13.binds (ps := ["ledger"]) fun _ _ _ _ _ _ us hl => match us, hl with | [_], _ => rfl
  have F14 := fun_mk (st := s__law_validity) l14 c14 k14
  have b14 := F14.binds (ps := ["commands", "calls"]) fun _ _ _ _ _ _ us hl => match us, hl with | [_, _], _ => rfl
  have F15 := fun_mk (st := s__law_lost) l15 c15 k15
  have b15 := F15.binds (ps := ["events", "ledger"]) fun _ _ _ _ _ _ us hl => match us, hl with | [_, _], _ => rfl
  have F16 := fun_mk (st := s_law) l16 c16 k16
  have b16 := F16.binds (ps := ["script"]) fun _ _ _ _ _ _ us hl => match us, hl with | [_], _ => rfl
  let T : Txt K mg := {
    d_follows := ⟨f0, _, F0, PySem.W.mg_of X G a0, b0⟩
    d_ledger_commands := ⟨f1, _, F1, PySem.W.mg_of X G a1, b1⟩
    d_first_difference := ⟨f2, _, F2, PySem.W.mg_of X G a2, b2⟩
    d_agreement_fault := ⟨f3, _, F3, PySem.W.mg_of X G a3, b3⟩
    d_chain_fault := ⟨f4, _, F4, PySem.W.mg_of X G a4, b4⟩
    d_validity_fault := ⟨f5, _, F5, PySem.W.mg_of X G a5, b5⟩
    d_lost_fault := ⟨f6, _, F6, PySem.W.mg_of X G a6, b6⟩
    d__law_draws := ⟨f7, _, F7, PySem.W.mg_of X G a7, b7⟩
    d__law_next := ⟨f8, _, F8, PySem.W.mg_of X G a8, b8⟩
    d__law_blocks := ⟨f9, _, F9, PySem.W.mg_of X G a9, b9⟩
    d__law_drawn := ⟨f10, _, F10, PySem.W.mg_of X G a10, b10⟩
    d__law_other := ⟨f11, _, F11, PySem.W.mg_of X G a11, b11⟩
    d__law_agreement := ⟨f12, _, F12, PySem.W.mg_of X G a12, b12⟩
    d__law_chain := ⟨f13, _, F13, PySem.W.mg_of X G a13, b13⟩
    d__law_validity := ⟨f14, _, F14, PySem.W.mg_of X G a14, b14⟩
    d__law_lost := ⟨f15, _, F15, PySem.W.mg_of X G a15, b15⟩
    d_law := ⟨fa, _, F16, PySem.W.mg_of X G a16, b16⟩
    gA := gA, eA := eA, c_GENESIS := PySem.W.mg_of X G ag
    gT := fun H => .inr ⟨_, _, _, gl, rfl, rfl, (by show 4 ≤ sizeLine; decide), .cons ⟨_, rfl⟩ (.cons ⟨_, rfl⟩ (.cons ⟨_, rfl⟩ (.cons rfl .nil)))⟩
    b_len := PySem.W.mg_none_of X G z_len
    b_range := PySem.W.mg_none_of X G z_range
    b_min := PySem.W.mg_none_of X G z_min
    b_max := PySem.W.mg_none_of X G z_max
    b_abs := PySem.W.mg_none_of X G z_abs
    b_int := PySem.W.mg_none_of X G z_int
    b_list := PySem.W.mg_none_of X G z_list
    }
  exact ⟨_, fun s v => .of_eq rfl, fun base _ _ => ok_law T⟩
theorem walk {l : PySem.W.OpenLaw} {q : Program} {loose : List Str} {XP : (Str → Option Value) → Heap → Prop} {YP : World → Heap → Prop} {d : DefRec} {K : Params → PySem.W.Frag} (hn : l.most = some 63) (hdf : d.params.defaults = [])
    (hY : ∀ (w : World) (h : Heap), YP w h → (K w.params).In h)
    (F : ∀ (w : World) (mg : Str → Option Value) (fa : Addr) (h : Heap), (K w.params).In h → h.Ns mainGlobals mg → mg d.name = some (.ref fa) →
      ∃ fd : FuncData, (∀ (s : Shared) (u : Value), BindsTo s fd ⟨[u], []⟩ [("script", u)]) ∧ ∀ base : Heap, (K w.params).In base → base.Ns mainGlobals mg → FnOk l.prog w (K w.params) mg base CX0 3 fa fd ["script"] (spLaw (K w.params))) :
    PySem.W.WalkO q loose XP YP l.row.toRowW d [] (fun f vs => PySem.call f vs) :=
  L2.walk_of (n := 63) (k := 3) (x := "script") (CX := fun _ => CX0) (sp := fun w => spLaw (K w.params)) hn (by decide) hdf ⟨rfl, by decide, by decide⟩ hY F (fun _ _ a ns hl _ hS => ⟨a, ns, rfl, hS, hl, fun _ => rfl⟩) fun _ _ _ _ _ z => z
end My

open PySem PySem.W PyProof.Rows in
set_option maxRecDepth 100000 in
set_option maxHeartbeats 0 in
theorem PySem.Challenge.cw_oathledger_k77_ledgers_compared_holds : PySem.Challenge.rw_oathledger_k77_ledgers_compared.Holds := by
  w_on; o_law; k_head; (case hw => w_witness2)
  k_fill
  refine My.walk (l := PySem.Challenge.rw_oathledger_k77_ledgers_compared) rfl rfl (fun w h Y => PySem.W.kIn_of Y) ?F
  case F =>
    intro w mg fa h KX G hmg
    refine' My.all_mk KX G hmg ?a0 ?l0 ?c0 ?k0 ?a1 ?l1 ?c1 ?k1 ?a2 ?l2 ?c2 ?k2 ?a3 ?l3 ?c3 ?k3 ?a4 ?l4 ?c4 ?k4 ?a5 ?l5 ?c5 ?k5 ?a6 ?l6 ?c6 ?k6 ?a7 ?l7 ?c7 ?k7 ?a8 ?l8 ?c8 ?k8 ?a9 ?l9 ?c9 ?k9 ?a10 ?l10 ?c10 ?k10 ?a11 ?l11 ?c11 ?k11 ?a12 ?l12 ?c12 ?k12 ?a13 ?l13 ?c13 ?k13 ?a14 ?l14 ?c14 ?k14 ?a15 ?l15 ?c15 ?k15 ?a16 ?l16 ?c16 ?k16 ?z_len ?z_range ?z_min ?z_max ?z_abs ?z_int ?z_list ?ag ?gl
    (case a0 => k_is)
    (case l0 => k_is)
    (case c0 => k_is)
    (case k0 => k_is)
    (case a1 => k_is)
    (case l1 => k_is)
    (case c1 => k_is)
    (case k1 => k_is)
    (case a2 => k_is)
    (case l2 => k_is)
    (case c2 => k_is)
    (case k2 => k_is)
    (case a3 => k_is)
    (case l3 => k_is)
    (case c3 => k_is)
    (case k3 => k_is)
    (case a4 => k_is)
    (case l4 => k_is)
    (case c4 => k_is)
    (case k4 => k_is)
    (case a5 => k_is)
    (case l5 => k_is)
    (case c5 => k_is)
    (case k5 => k_is)
    (case a6 => k_is)
    (case l6 => k_is)
    (case c6 => k_is)
    (case k6 => k_is)
    (case a7 => k_is)
    (case l7 => k_is)
    (case c7 => k_is)
    (case k7 => k_is)
    (case a8 => k_is)
    (case l8 => k_is)
    (case c8 => k_is)
    (case k8 => k_is)
    (case a9 => k_is)
    (case l9 => k_is)
    (case c9 => k_is)
    (case k9 => k_is)
    (case a10 => k_is)
    (case l10 => k_is)
    (case c10 => k_is)
    (case k10 => k_is)
    (case a11 => k_is)
    (case l11 => k_is)
    (case c11 => k_is)
    (case k11 => k_is)
    (case a12 => k_is)
    (case l12 => k_is)
    (case c12 => k_is)
    (case k12 => k_is)
    (case a13 => k_is)
    (case l13 => k_is)
    (case c13 => k_is)
    (case k13 => k_is)
    (case a14 => k_is)
    (case l14 => k_is)
    (case c14 => k_is)
    (case k14 => k_is)
    (case a15 => k_is)
    (case l15 => k_is)
    (case c15 => k_is)
    (case k15 => k_is)
    (case a16 => k_is)
    (case l16 => k_is)
    (case c16 => k_is)
    (case k16 => k_is)
    (case z_len => k_is)
    (case z_range => k_is)
    (case z_min => k_is)
    (case z_max => k_is)
    (case z_abs => k_is)
    (case z_int => k_is)
    (case z_list => k_is)
    (case ag => k_is)
    (case gl => k_is)
#print axioms PySem.Challenge.cw_oathledger_k77_ledgers_compared_holds
