import PyProof.Rows.All
import Wide.All
import OpenK.AllK
import Wide.FinOn
import HandS.ForMost
import HandS.IsInst
import HandS.TupAny
import HandS.Walk
import PyProof.CollectIter
import PyProof.WalksMore
import HandS.DictComp
import HandS.Iter
import KE.GoesMore
import KE.GoesEnum
import HandS.SetBool
import HandS.TupSets
import KE.KeyNested
import HandS.Rev
import PyProof.StrLaws
import HandS.Wide
import PyProof.StrOps2
import HandS.Dict
import HandS.ListItems
import HandS.Zip
import KE.KDictZip
import KE.KItemsList
import HandS.Lambda
import HandS.Nested
import PyProof.EqAt
import PyProof.EqKinds
import HandS.EndTab
import HandS.EndBits
import Wide.Loose
import PySem.Challenge.RW_tierpile_k22_whole_one_name_unknown
set_option Elab.async false
set_option linter.all false
set_option maxRecDepth 100000
/-! The data: trees, what is asked of them, the faults, the change at a number. -/
namespace Tp
open PySem L2

/-! ### names -/
def keysL : List Str := ["let", "if", "then", "else", "case", "of", "div", "mod", "and", "or"]
def opsL : List Str := ["+", "-", "*", "div", "mod", "==", "<", ":"]
def lettersS : Str := "abcdefghijklmnopqrstuvwxyz"
structure NameOk (z : Str) : Prop where
  lo : 1 ≤ z.length
  hi : z.length ≤ 8
  key : z ∉ keysL
  let_ : ∀ c ∈ z.cps.toList, c ∈ lettersS.cps.toList

/-! ### trees -/
inductive Nd where
  | num (n : Int) | nil | use (z : Str) | op (s : Str) | ite | lt (z : Str) | cs (h t : Str)
inductive T where
  | mk (d : Nd) (p q : Int) (ts : List T)
def T.nd : T → Nd | .mk d _ _ _ => d
def T.p : T → Int | .mk _ p _ _ => p
def T.q : T → Int | .mk _ _ q _ => q
def T.ts : T → List T | .mk _ _ _ ts => ts
/-- the node by itself: its place, its word's things, how many trees it has -/
def PlOk (p q : Int) : Prop := 0 ≤ p ∧ p ≤ 9999 ∧ 0 ≤ q ∧ q ≤ 9999
def NdOk (d : Nd) (n : Nat) : Prop := match d with
  | .num k => 0 ≤ k ∧ k ≤ 999999999 ∧ n = 0
  | .nil => n = 0
  | .use z => NameOk z ∧ n ≤ 4
  | .op s => s ∈ opsL ∧ n = 2
  | .ite => n = 3
  | .lt z => NameOk z ∧ n = 2
  | .cs h t => NameOk h ∧ NameOk t ∧ n = 3
/-- a tree of at most such a depth -/
def TOk : Nat → T → Prop
  | 0, _ => False
  | n + 1, .mk d p q ts => PlOk p q ∧ NdOk d ts.length ∧ ∀ t ∈ ts, TOk n t
/-- the locals that the i-th tree straight within sees -/
def nearOf (d : Nd) (near : List Str) (i : Nat) : List Str := match d with
  | .lt z => if i = 1 then near ++ [z] else near
  | .cs h t => if i = 2 then near ++ [h, t] else near
  | _ => near
/-- the names of a node are of a list -/
def NmIn (ns : List Str) (d : Nd) : Prop := match d with
  | .use z => z ∈ ns
  | .lt z => z ∈ ns
  | .cs h t => h ∈ ns ∧ t ∈ ns
  | _ => True
def HdOk (D : Str → Nat → Prop) (d : Nd) (near : List Str) (n : Nat) : Prop := match d with
  | .use z => (z ∈ near ∧ n = 0) ∨ (z ∉ near ∧ D z n)
  | .cs h t => h ≠ t
  | _ => True
/-- a sound tree: of such a depth, its names of ns, its defs by D -/
def Good (ns : List Str) (D : Str → Nat → Prop) : Nat → List Str → T → Prop
  | 0, _, _ => False
  | n + 1, near, .mk d p q ts => PlOk p q ∧ NdOk d ts.length ∧ NmIn ns d ∧ HdOk D d near ts.length ∧ ∀ i t, ts[i]? = some t → Good ns D n (nearOf d near i) t

/-! ### faults -/
structure Flt where
  p : Int
  q : Int
  word : Str
  name : Str
def hdF (tab : Str → Option Nat) (d : Nd) (near : List Str) (p q : Int) (n : Nat) : List Flt := match d with
  | .use z => if z ∈ near then (if n = 0 then [] else [⟨p, q, "count", z⟩]) else match tab z with
    | none => [⟨p, q, "unknown", z⟩]
    | some m => if n = m then [] else [⟨p, q, "count", z⟩]
  | .cs h t => if h = t then [⟨p, q, "twice", h⟩] else []
  | _ => []
mutual
def flt (tab : Str → Option Nat) : T → List Str → List Flt
  | .mk d p q ts, near => hdF tab d near p q ts.length ++ fltL tab d near ts 0
def fltL (tab : Str → Option Nat) (d : Nd) (near : List Str) : List T → Nat → List Flt
  | [], _ => []
  | t :: ts, i => flt tab t (nearOf d near i) ++ fltL tab d near ts (i + 1)
end
/-! ### counts, the change at a number -/
mutual
def cnt : T → Nat
  | .mk _ _ _ ts => 1 + cntL ts
def cntL : List T → Nat
  | [] => 0
  | t :: ts => cnt t + cntL ts
end
mutual
def chg (r : T) : T → Nat → T
  | .mk _ _ _ _, 0 => r
  | .mk d p q ts, k + 1 => .mk d p q (chgL r ts k)
def chgL (r : T) : List T → Nat → List T
  | [], _ => []
  | t :: ts, k => if k < cnt t then chg r t k :: ts else t :: chgL r ts (k - cnt t)
end
theorem flt_mk (tab : Str → Option Nat) (d : Nd) (p q : Int) (ts : List T) (near : List Str) : flt tab (.mk d p q ts) near = hdF tab d near p q ts.length ++ fltL tab d near ts 0 := by rw [flt]
theorem fltL_nil (tab : Str → Option Nat) (d : Nd) (near : List Str) (i : Nat) : fltL tab d near [] i = [] := by rw [fltL]
theorem fltL_cons (tab : Str → Option Nat) (d : Nd) (near : List Str) (t : T) (ts : List T) (i : Nat) : fltL tab d near (t :: ts) i = flt tab t (nearOf d near i) ++ fltL tab d near ts (i + 1) := by rw [fltL]
theorem cnt_mk (d : Nd) (p q : Int) (ts : List T) : cnt (.mk d p q ts) = 1 + cntL ts := by rw [cnt]
theorem cntL_nil : cntL [] = 0 := by rw [cntL]
theorem cntL_cons (t : T) (ts : List T) : cntL (t :: ts) = cnt t + cntL ts := by rw [cntL]
theorem cntL_append : ∀ xs ys : List T, cntL (xs ++ ys) = cntL xs + cntL ys
  | [], ys => by rw [List.nil_append, cntL_nil, Nat.zero_add]
  | x :: xs, ys => by rw [List.cons_append, cntL_cons, cntL_cons, cntL_append xs ys, Nat.add_assoc]
theorem cnt_pos (t : T) : 1 ≤ cnt t := by
  cases t with
  | mk d p q ts => rw [cnt_mk]; omega
theorem chg_zero (r : T) (t : T) : chg r t 0 = r := by
  cases t with
  | mk d p q ts => rw [chg]
theorem chg_succ (r : T) (d : Nd) (p q : Int) (ts : List T) (k : Nat) : chg r (.mk d p q ts) (k + 1) = .mk d p q (chgL r ts k) := by rw [chg]
theorem chgL_cons (r t : T) (ts : List T) (k : Nat) : chgL r (t :: ts) k = if k < cnt t then chg r t k :: ts else t :: chgL r ts (k - cnt t) := by rw [chgL]
theorem chgL_nil (r : T) (k : Nat) : chgL r [] k = [] := by rw [chgL]
theorem chgL_len (r : T) : ∀ (ts : List T) (k : Nat), (chgL r ts k).length = ts.length
  | [], k => by rw [chgL_nil]
  | t :: ts, k => by
    rw [chgL_cons]
    split
    · rfl
    · rw [List.length_cons, List.length_cons, chgL_len r ts]

/-! ### a sound tree has no fault -/
theorem TOk.mk {n : Nat} {d : Nd} {p q : Int} {ts : List T} (h1 : PlOk p q) (h2 : NdOk d ts.length) (h3 : ∀ t ∈ ts, TOk n t) : TOk (n + 1) (.mk d p q ts) := ⟨h1, h2, h3⟩
theorem TOk.succ : ∀ {n : Nat} {t : T}, TOk n t → TOk (n + 1) t
  | 0, _, h => h.elim
  | n + 1, .mk d p q ts, h => ⟨h.1, h.2.1, fun t ht => (h.2.2 t ht).succ⟩
theorem TOk.mono {n m : Nat} {t : T} (h : TOk n t) (hm : n ≤ m) : TOk m t := by
  induction hm with
  | refl => exact h
  | step _ ih => exact ih.succ
theorem Good.tok {ns : List Str} {D : Str → Nat → Prop} : ∀ {n : Nat} {near : List Str} {t : T}, Good ns D n near t → TOk n t
  | 0, _, _, h => h.elim
  | n + 1, near, .mk d p q ts, h => ⟨h.1, h.2.1, fun t ht => by
    obtain ⟨i, hi⟩ := List.getElem?_of_mem ht
    exact (h.2.2.2.2 i t hi).tok⟩
theorem Good.succ {ns : List Str} {D : Str → Nat → Prop} : ∀ {n : Nat} {near : List Str} {t : T}, Good ns D n near t → Good ns D (n + 1) near t
  | 0, _, _, h => h.elim
  | n + 1, near, .mk d p q ts, h => ⟨h.1, h.2.1, h.2.2.1, h.2.2.2.1, fun i t hi => (h.2.2.2.2 i t hi).succ⟩
theorem Good.mono {ns : List Str} {D : Str → Nat → Prop} {n m : Nat} {near : List Str} {t : T} (h : Good ns D n near t) (hm : n ≤ m) : Good ns D m near t := by
  induction hm with
  | refl => exact h
  | step _ ih => exact ih.succ
theorem hdF_ok {tab : Str → Option Nat} {D : Str → Nat → Prop} (hD : ∀ z m, D z m → tab z = some m) {d : Nd} {near : List Str} {p q : Int} {n : Nat} (h : HdOk D d near n) : hdF tab d near p q n = [] := by
  cases d with
  | use z =>
    show (if z ∈ near then _ else _) = _
    rcases h with ⟨h1, h2⟩ | ⟨h1, h2⟩
    · rw [if_pos h1, if_pos h2]
    · rw [if_neg h1, hD z n h2]
      show (if n = n then _ else _) = _
      rw [if_pos rfl]
  | cs a b =>
    show (if a = b then _ else _) = _
    rw [if_neg h]
  | num _ => rfl
  | nil => rfl
  | op _ => rfl
  | ite => rfl
  | lt _ => rfl
theorem fltL_nil_of {tab : Str → Option Nat} {d : Nd} {near : List Str} : ∀ {ts : List T} {i : Nat}, (∀ j t, ts[j]? = some t → flt tab t (nearOf d near (i + j)) = []) → fltL tab d near ts i = []
  | [], i, _ => fltL_nil _ _ _ _
  | t :: ts, i, h => by
    have h0 : flt tab t (nearOf d near i) = [] := h 0 t rfl
    rw [fltL_cons, h0, List.nil_append]
    refine fltL_nil_of fun j u hu => ?_
    have q := h (j + 1) u hu
    rw [show i + (j + 1) = i + 1 + j by omega] at q
    exact q
theorem Good.flt {ns : List Str} {D : Str → Nat → Prop} {tab : Str → Option Nat} (hD : ∀ z m, D z m → tab z = some m) : ∀ {n : Nat} {near : List Str} {t : T}, Good ns D n near t → Tp.flt tab t near = []
  | 0, _, _, h => h.elim
  | n + 1, near, .mk d p q ts, h => by
    rw [flt_mk, hdF_ok hD h.2.2.2.1, List.nil_append]
    refine fltL_nil_of fun j t hj => ?_
    rw [Nat.zero_add]
    exact (h.2.2.2.2 j t hj).flt hD
/-- no node of the tree binds the name -/
def Unb1 (name : Str) (d : Nd) : Prop := match d with
  | .lt z => z ≠ name
  | .cs h t => h ≠ name ∧ t ≠ name
  | _ => True
def Unb (name : Str) : Nat → T → Prop
  | 0, _ => False
  | n + 1, .mk d p q ts => Unb1 name d ∧ ∀ t ∈ ts, Unb name n t
theorem near_unb {name : Str} {d : Nd} {near : List Str} (h : Unb1 name d) (hn : name ∉ near) (i : Nat) : name ∉ nearOf d near i := by
  cases d with
  | lt z =>
    show name ∉ (if i = 1 then near ++ [z] else near)
    split
    · rw [List.mem_append, List.mem_singleton]
      exact fun q => q.elim hn fun e => h e.symm
    · exact hn
  | cs a b =>
    show name ∉ (if i = 2 then near ++ [a, b] else near)
    split
    · rw [List.mem_append, List.mem_cons, List.mem_singleton]
      exact fun q => q.elim hn fun e => e.elim (fun e => h.1 e.symm) fun e => h.2 e.symm
    · exact hn
  | num _ => exact hn
  | nil => exact hn
  | op _ => exact hn
  | ite => exact hn
  | use _ => exact hn
/-- the changed tree's faults are those of what was put in -/
theorem chg_flt {ns : List Str} {D : Str → Nat → Prop} {tab : Str → Option Nat} {name : Str} {r : T} {f : List Flt} (hD : ∀ z m, D z m → tab z = some m) (hr : ∀ near, name ∉ near → flt tab r near = f) :
    ∀ {n : Nat} {near : List Str} {t : T} {k : Nat}, Good ns D n near t → Unb name n t → name ∉ near → k < cnt t → flt tab (chg r t k) near = f
  | 0, _, _, _, h, _, _, _ => h.elim
  | n + 1, near, .mk d p q ts, 0, h, hu, hn, hk => by rw [chg_zero]; exact hr near hn
  | n + 1, near, .mk d p q ts, k + 1, h, hu, hn, hk => by
    rw [chg_succ, flt_mk, chgL_len, hdF_ok hD h.2.2.2.1, List.nil_append]
    rw [cnt_mk] at hk
    have key : ∀ (us : List T) (i k : Nat), (∀ j t, us[j]? = some t → Good ns D n (nearOf d near (i + j)) t ∧ Unb name n t) → k < cntL us → fltL tab d near (chgL r us k) i = f := by
      intro us
      induction us with
      | nil => intro i k _ hk; rw [cntL_nil] at hk; omega
      | cons u us ih =>
        intro i k hall hk
        rw [chgL_cons]
        have h0 : Good ns D n (nearOf d near i) u ∧ Unb name n u := hall 0 u rfl
        have hrest : ∀ j t, us[j]? = some t → Good ns D n (nearOf d near (i + 1 + j)) t ∧ Unb name n t := fun j t hj => by
          have q := hall (j + 1) t hj
          rw [show i + (j + 1) = i + 1 + j by omega] at q
          exact q
        by_cases hlt : k < cnt u
        · rw [if_pos hlt, fltL_cons]
          have e1 : fltL tab d near us (i + 1) = [] := fltL_nil_of fun j t hj => (hrest j t hj).1.flt hD
          rw [e1, List.append_nil]
          exact chg_flt hD hr h0.1 h0.2 (near_unb hu.1 hn _) hlt
        · rw [if_neg hlt, fltL_cons]
          have e1 : flt tab u (nearOf d near i) = [] := h0.1.flt hD
          rw [e1, List.nil_append]
          rw [cntL_cons] at hk
          exact ih (i + 1) (k - cnt u) hrest (by omega)
    refine key ts 0 k (fun j t hj => ?_) (by omega)
    rw [Nat.zero_add]
    exact ⟨h.2.2.2.2 j t hj, hu.2 t (List.mem_of_getElem? hj)⟩
theorem chg_tok {r : T} (hr : ∀ n, TOk (n + 2) r) : ∀ {n : Nat} {t : T} {k : Nat}, TOk n t → k < cnt t → TOk (n + 1) (chg r t k)
  | 0, _, _, h, _ => h.elim
  | n + 1, .mk d p q ts, 0, h, hk => by rw [chg_zero]; exact hr n
  | n + 1, .mk d p q ts, k + 1, h, hk => by
    rw [chg_succ]
    refine ⟨h.1, by rw [chgL_len]; exact h.2.1, ?_⟩
    rw [cnt_mk] at hk
    have key : ∀ (us : List T) (k : Nat), (∀ t ∈ us, TOk n t) → k < cntL us → ∀ t ∈ chgL r us k, TOk (n + 1) t := by
      intro us
      induction us with
      | nil => intro k _ hk; rw [cntL_nil] at hk; omega
      | cons u us ih =>
        intro k hall hk t ht
        rw [chgL_cons] at ht
        by_cases hlt : k < cnt u
        · rw [if_pos hlt] at ht
          rcases List.mem_cons.mp ht with e | e
          · rw [e]; exact chg_tok hr (hall u List.mem_cons_self) hlt
          · exact (hall t (List.mem_cons_of_mem _ e)).succ
        · rw [if_neg hlt] at ht
          rcases List.mem_cons.mp ht with e | e
          · rw [e]; exact (hall u List.mem_cons_self).succ
          · rw [cntL_cons] at hk
            exact ih (k - cnt u) (fun t ht => hall t (List.mem_cons_of_mem _ ht)) (by omega) t e
    exact key ts k h.2.2 (by omega)
/-- so few trees -/
theorem cnt_le : ∀ {n : Nat} {t : T}, TOk n t → cnt t ≤ 5 ^ n
  | 0, _, h => h.elim
  | n + 1, .mk d p q ts, h => by
    have hl : ts.length ≤ 4 := by
      have z := h.2.1
      cases d with
      | num _ => have e : ts.length = 0 := z.2.2; omega
      | nil => have e : ts.length = 0 := z; omega
      | use _ => exact z.2
      | op _ => have e : ts.length = 2 := z.2; omega
      | ite => have e : ts.length = 3 := z; omega
      | lt _ => have e : ts.length = 2 := z.2; omega
      | cs _ _ => have e : ts.length = 3 := z.2.2; omega
    have key : ∀ us : List T, (∀ t ∈ us, TOk n t) → cntL us ≤ us.length * 5 ^ n := by
      intro us
      induction us with
      | nil => intro _; rw [cntL_nil]; exact Nat.zero_le _
      | cons u us ih =>
        intro hall
        rw [cntL_cons, List.length_cons, Nat.succ_mul]
        have a := cnt_le (hall u List.mem_cons_self)
        have b := ih fun t ht => hall t (List.mem_cons_of_mem _ ht)
        omega
    have a := key ts h.2.2
    have b : ts.length * 5 ^ n ≤ 4 * 5 ^ n := Nat.mul_le_mul_right _ hl
    have c : 1 ≤ 5 ^ n := Nat.one_le_pow _ _ (by decide)
    rw [cnt_mk, Nat.pow_succ]
    omega
end Tp
set_option Elab.async false
set_option linter.all false
set_option maxRecDepth 100000
/-! How the data lie in the heap. -/
namespace Tp
open PySem L2

/-! ### what stays -/
/-- all tuples stay -/
def KT (H H' : Hp) : Prop := ∀ b xs, H b = some (.tup xs) → H' b = some (.tup xs)
theorem KT.refl (H : Hp) : KT H H := fun _ _ h => h
theorem KT.trans {H H1 H2 : Hp} (a : KT H H1) (b : KT H1 H2) : KT H H2 := fun c o h => b c o (a c o h)
theorem KT.of {H H' : Hp} (s : Same H H') : KT H H' := fun b xs h => s b _ h
/-- all stays but what stands at d and w -/
def Kp (d w : Addr) (H H' : Hp) : Prop := ∀ b o, H b = some o → b ≠ d → b ≠ w → H' b = some o
theorem Kp.refl (d w : Addr) (H : Hp) : Kp d w H H := fun _ _ h _ _ => h
theorem Kp.trans {d w : Addr} {H H1 H2 : Hp} (a : Kp d w H H1) (b : Kp d w H1 H2) : Kp d w H H2 := fun c o h h1 h2 => b c o (a c o h h1 h2) h1 h2
theorem Kp.of {d w : Addr} {H H' : Hp} (s : Same H H') : Kp d w H H' := fun b o h _ _ => s b o h
theorem Kp.wide {d w : Addr} {H H' : Hp} (s : Kp d d H H') : Kp d w H H' := fun b o h h1 _ => s b o h h1 h1
theorem Kp.wide2 {d w : Addr} {H H' : Hp} (s : Kp w w H H') : Kp d w H H' := fun b o h _ h2 => s b o h h2 h2
theorem same_new {H : Hp} {p : Addr} {o : HO} (h : H p = none) : Same H (upd H p o) := fun b u q => by rw [upd_ne (ne_of_none q h)]; exact q
theorem _root_.L2.Same.none {H H' : Hp} (s : Same H H') {p : Addr} (h : H' p = none) : H p = none := by
  cases e : H p with
  | none => rfl
  | some o => rw [s _ _ e] at h; cases h
/-- what stays behind a new list -/
theorem Kp.over {d w D : Addr} {H1 H : Hp} {u : HO} (hD : H1 D = none) (k : Kp d w H1 H) : Kp d w H1 (upd H D u) := fun b o h h1 h2 => by
  rw [upd_ne (ne_of_none h hD)]
  exact k b o h h1 h2
theorem Kp.none {d w D : Addr} {H1 H : Hp} (k : Kp d w H1 H) (h1 : D ≠ d) (h2 : D ≠ w) (h : H D = none) : H1 D = none := by
  cases e : H1 D with
  | none => rfl
  | some o => rw [k D o e h1 h2] at h; cases h
theorem kt_updL {H : Hp} {D : Addr} {xs : List V} {o : HO} (h : H D = some (.lst xs)) : KT H (upd H D o) := fun b ys q => by
  by_cases e : b = D
  · rw [e, h] at q; cases q
  · rw [upd_ne e]; exact q
theorem Kp.upd1 {d w : Addr} {H : Hp} {o : HO} : Kp d w H (upd H d o) := fun b u q h _ => by rw [upd_ne h]; exact q
theorem Kp.upd2 {d w : Addr} {H : Hp} {o : HO} : Kp d w H (upd H w o) := fun b u q _ h => by rw [upd_ne h]; exact q

/-! ### tuples -/
def Row (H : Hp) (v : V) (xs : List V) : Prop := ∃ a, v = .ref a ∧ H a = some (.tup xs)
theorem Row.mono {H H' : Hp} {v : V} {xs : List V} (k : KT H H') (h : Row H v xs) : Row H' v xs := by
  obtain ⟨a, e, h⟩ := h
  exact ⟨a, e, k a xs h⟩
def PlAt (H : Hp) (v : V) (p q : Int) : Prop := Row H v [.int p, .int q]
/-- a node whose trees are vs -/
def NdAt (H : Hp) (d : Nd) (pv : V) (vs : List V) (v : V) : Prop := match d with
  | .num n => vs = [] ∧ Row H v [.str "num", pv, .int n]
  | .nil => vs = [] ∧ Row H v [.str "nil", pv]
  | .use z => ∃ g, Row H g vs ∧ Row H v [.str "use", pv, .str z, g]
  | .op s => ∃ l r, vs = [l, r] ∧ Row H v [.str "op", pv, .str s, l, r]
  | .ite => ∃ c y n, vs = [c, y, n] ∧ Row H v [.str "if", pv, c, y, n]
  | .lt z => ∃ e b, vs = [e, b] ∧ Row H v [.str "let", pv, .str z, e, b]
  | .cs h t => ∃ x e b, vs = [x, e, b] ∧ Row H v [.str "case", pv, x, e, .str h, .str t, b]
theorem NdAt.mono {H H' : Hp} (k : KT H H') {d : Nd} {pv v : V} {vs : List V} (h : NdAt H d pv vs v) : NdAt H' d pv vs v := by
  cases d with
  | num n => exact ⟨h.1, h.2.mono k⟩
  | nil => exact ⟨h.1, h.2.mono k⟩
  | use z => obtain ⟨g, h1, h2⟩ := h; exact ⟨g, h1.mono k, h2.mono k⟩
  | op s => obtain ⟨l, r, e, h2⟩ := h; exact ⟨l, r, e, h2.mono k⟩
  | ite => obtain ⟨c, y, n, e, h2⟩ := h; exact ⟨c, y, n, e, h2.mono k⟩
  | lt z => obtain ⟨l, r, e, h2⟩ := h; exact ⟨l, r, e, h2.mono k⟩
  | cs a b => obtain ⟨c, y, n, e, h2⟩ := h; exact ⟨c, y, n, e, h2.mono k⟩
mutual
def TAt (H : Hp) : T → V → Prop
  | .mk d p q ts, v => ∃ pv vs, PlAt H pv p q ∧ NdAt H d pv vs v ∧ TsAt H ts vs
def TsAt (H : Hp) : List T → List V → Prop
  | [], vs => vs = []
  | t :: ts, vs => ∃ v r, vs = v :: r ∧ TAt H t v ∧ TsAt H ts r
end
theorem tat_mk (H : Hp) (d : Nd) (p q : Int) (ts : List T) (v : V) : TAt H (.mk d p q ts) v = ∃ pv vs, PlAt H pv p q ∧ NdAt H d pv vs v ∧ TsAt H ts vs := by rw [TAt]
theorem tsat_nil (H : Hp) (vs : List V) : TsAt H [] vs = (vs = []) := by rw [TsAt]
theorem tsat_cons (H : Hp) (t : T) (ts : List T) (vs : List V) : TsAt H (t :: ts) vs = ∃ v r, vs = v :: r ∧ TAt H t v ∧ TsAt H ts r := by rw [TsAt]
mutual
theorem TAt.mono {H H' : Hp} (k : KT H H') : ∀ {t : T} {v : V}, TAt H t v → TAt H' t v
  | .mk d p q ts, v, h => by
    rw [tat_mk] at h ⊢
    obtain ⟨pv, vs, h1, h2, h3⟩ := h
    exact ⟨pv, vs, Row.mono k h1, h2.mono k, TsAt.mono k h3⟩
theorem TsAt.mono {H H' : Hp} (k : KT H H') : ∀ {ts : List T} {vs : List V}, TsAt H ts vs → TsAt H' ts vs
  | [], vs, h => by
    rw [tsat_nil] at h ⊢
    exact h
  | t :: ts, vs, h => by
    rw [tsat_cons] at h ⊢
    obtain ⟨v, r, e, h1, h2⟩ := h
    exact ⟨v, r, e, TAt.mono k h1, TsAt.mono k h2⟩
end
theorem TsAt.len {H : Hp} : ∀ {ts : List T} {vs : List V}, TsAt H ts vs → vs.length = ts.length
  | [], vs, h => by rw [tsat_nil] at h; rw [h] <;> rfl
  | t :: ts, vs, h => by
    rw [tsat_cons] at h
    obtain ⟨v, r, e, _, h2⟩ := h
    rw [e, List.length_cons, List.length_cons, TsAt.len h2]
theorem TsAt.get {H : Hp} : ∀ {ts : List T} {vs : List V} {i : Nat} {v : V}, TsAt H ts vs → vs[i]? = some v → ∃ t, ts[i]? = some t ∧ TAt H t v
  | [], vs, i, v, h, e => by rw [tsat_nil] at h; rw [h] at e; cases e
  | t :: ts, vs, 0, v, h, e => by
    rw [tsat_cons] at h
    obtain ⟨v', r, e', h1, _⟩ := h
    rw [e'] at e
    have e2 : v' = v := Option.some.inj e
    rw [e2] at h1
    exact ⟨t, rfl, h1⟩
  | t :: ts, vs, i + 1, v, h, e => by
    rw [tsat_cons] at h
    obtain ⟨v', r, e', _, h2⟩ := h
    rw [e'] at e
    exact TsAt.get (i := i) h2 e
theorem TsAt.nil {H : Hp} : TsAt H [] [] := by rw [tsat_nil]
theorem TsAt.cons {H : Hp} {t : T} {ts : List T} {v : V} {vs : List V} (h1 : TAt H t v) (h2 : TsAt H ts vs) : TsAt H (t :: ts) (v :: vs) := by
  rw [tsat_cons]
  exact ⟨v, vs, rfl, h1, h2⟩
theorem TsAt.app {H : Hp} : ∀ {ts us : List T} {vs ws : List V}, TsAt H ts vs → TsAt H us ws → TsAt H (ts ++ us) (vs ++ ws)
  | [], us, vs, ws, h, h' => by rw [tsat_nil] at h; rw [h]; exact h'
  | t :: ts, us, vs, ws, h, h' => by
    rw [tsat_cons] at h
    obtain ⟨v, r, e, h1, h2⟩ := h
    rw [e]
    exact TsAt.cons h1 (TsAt.app h2 h')
theorem TsAt.one {H : Hp} {t : T} {vs : List V} (h : TsAt H [t] vs) : ∃ v, vs = [v] ∧ TAt H t v := by
  rw [tsat_cons] at h
  obtain ⟨v, r, e, h1, h2⟩ := h
  rw [tsat_nil] at h2
  rw [h2] at e
  exact ⟨v, e, h1⟩
theorem TAt.mk {H : Hp} {d : Nd} {p q : Int} {ts : List T} {pv v : V} {vs : List V} (h1 : PlAt H pv p q) (h2 : NdAt H d pv vs v) (h3 : TsAt H ts vs) : TAt H (.mk d p q ts) v := by
  rw [tat_mk]
  exact ⟨pv, vs, h1, h2, h3⟩
/-- a tree is a tuple whose second thing is its place -/
theorem TAt.row {H : Hp} {t : T} {v : V} (h : TAt H t v) : ∃ xs, Row H v xs := by
  cases t with
  | mk d p q ts =>
    rw [tat_mk] at h
    obtain ⟨pv, vs, _, h2, _⟩ := h
    cases d with
    | num n => exact ⟨_, h2.2⟩
    | nil => exact ⟨_, h2.2⟩
    | use z => obtain ⟨g, _, h2⟩ := h2; exact ⟨_, h2⟩
    | op s => obtain ⟨l, r, _, h2⟩ := h2; exact ⟨_, h2⟩
    | ite => obtain ⟨c, y, n, _, h2⟩ := h2; exact ⟨_, h2⟩
    | lt z => obtain ⟨l, r, _, h2⟩ := h2; exact ⟨_, h2⟩
    | cs a b => obtain ⟨c, y, n, _, h2⟩ := h2; exact ⟨_, h2⟩

/-! ### draws, ways -/
def DrAt (H : Hp) (d : Addr) : Prop := ∃ a b : Int, H d = some (.lst [.int a, .int b])
/-- a list that begins with no number -/
def NI (xs : List V) : Prop := ∀ i r, xs ≠ .int i :: r
theorem ni_str (zs : List Str) : NI (zs.map V.str) := fun i r h => by
  cases zs with
  | nil => cases h
  | cons z zs => cases h
theorem ni_refs (zs : List Addr) : NI (zs.map V.ref) := fun i r h => by
  cases zs with
  | nil => cases h
  | cons z zs => cases h
theorem ni_nil : NI [] := fun i r h => by cases h
theorem ni_ref (a : Addr) (xs : List V) : NI (.ref a :: xs) := fun i r h => by cases h
theorem ni_s (a : Str) (xs : List V) : NI (.str a :: xs) := fun i r h => by cases h
theorem DrAt.ne {H : Hp} {d b : Addr} {xs : List V} (h : DrAt H d) (n : NI xs) (hb : H b = some (.lst xs)) : b ≠ d := by
  obtain ⟨a, c, h⟩ := h
  intro e
  rw [e, h] at hb
  injection hb with e1
  injection e1 with e2
  exact n _ _ e2.symm
theorem DrAt.neT {H : Hp} {d b : Addr} {xs : List V} (h : DrAt H d) (hb : H b = some (.tup xs)) : b ≠ d := by
  obtain ⟨a, c, h⟩ := h
  intro e
  rw [e, h] at hb
  cases hb
theorem DrAt.new {H : Hp} {d D : Addr} {o : HO} (h : DrAt H d) (n : H D = none) : DrAt (upd H D o) d := by
  obtain ⟨a, b, h⟩ := h
  exact ⟨a, b, same_new n _ _ h⟩
theorem DrAt.some {H : Hp} {d : Addr} (h : DrAt H d) : ∃ o, H d = .some o := by
  obtain ⟨a, b, h⟩ := h
  exact ⟨_, h⟩
theorem DrAt.fresh {H : Hp} {d D : Addr} (h : DrAt H d) (n : H D = none) : D ≠ d := by
  obtain ⟨a, b, h⟩ := h
  rintro rfl
  rw [h] at n
  cases n
theorem DrAt.same {H H' : Hp} {d : Addr} (h : DrAt H d) (s : Same H H') : DrAt H' d := by
  obtain ⟨a, b, h⟩ := h
  exact ⟨a, b, s _ _ h⟩
theorem DrAt.over {H : Hp} {d D : Addr} {o : HO} (h : DrAt H d) (n : D ≠ d) : DrAt (upd H D o) d := by
  obtain ⟨a, b, h⟩ := h
  exact ⟨a, b, by rw [upd_ne (Ne.symm n)]; exact h⟩
structure Cfg where
  na : Addr
  ha : Addr
  e : Int
def WyAt (H : Hp) (w : Addr) (C : Cfg) : Prop := ∃ x y z : Int, H w = some (.lst [.int x, .int y, .int z, .ref C.na, .ref C.ha, .int C.e])
theorem WyAt.ne {H : Hp} {d b : Addr} {C : Cfg} {xs : List V} (h : WyAt H d C) (n : NI xs) (hb : H b = some (.lst xs)) : b ≠ d := by
  obtain ⟨_, _, _, h⟩ := h
  intro e
  rw [e, h] at hb
  injection hb with e1
  injection e1 with e2
  exact n _ _ e2.symm
theorem WyAt.neT {H : Hp} {d b : Addr} {C : Cfg} {xs : List V} (h : WyAt H d C) (hb : H b = some (.tup xs)) : b ≠ d := by
  obtain ⟨_, _, _, h⟩ := h
  intro e
  rw [e, h] at hb
  cases hb
theorem WyAt.over {H : Hp} {w D : Addr} {C : Cfg} {o : HO} (h : WyAt H w C) (n : D ≠ w) : WyAt (upd H D o) w C := by
  obtain ⟨a, b, c, h⟩ := h
  exact ⟨a, b, c, by rw [upd_ne (Ne.symm n)]; exact h⟩
theorem WyAt.fresh {H : Hp} {w D : Addr} {C : Cfg} (h : WyAt H w C) (n : H D = none) : D ≠ w := by
  obtain ⟨a, b, c, h⟩ := h
  rintro rfl
  rw [h] at n
  cases n
theorem WyAt.same {H H' : Hp} {w : Addr} {C : Cfg} (h : WyAt H w C) (s : Same H H') : WyAt H' w C := by
  obtain ⟨a, b, c, h⟩ := h
  exact ⟨a, b, c, s _ _ h⟩
theorem DrAt.neW {H : Hp} {d w : Addr} {C : Cfg} (h : DrAt H d) (h' : WyAt H w C) : d ≠ w := by
  obtain ⟨_, _, h⟩ := h
  obtain ⟨_, _, _, h'⟩ := h'
  intro e
  rw [e, h'] at h
  cases h
theorem Kp.kt {d w : Addr} {H H' : Hp} {C : Cfg} (k : Kp d w H H') (hd : DrAt H d) (hw : WyAt H w C) : KT H H' := fun b xs h => k b _ h (hd.neT h) (hw.neT h)
theorem Kp.ktD {d : Addr} {H H' : Hp} (k : Kp d d H H') (hd : DrAt H d) : KT H H' := fun b xs h => k b _ h (hd.neT h) (hd.neT h)
/-- a head of a def: its name, how many params, in the list of heads -/
structure Hd where
  nm : Str
  ks : List Str
  kd : Str
def HdAt (H : Hp) (v : V) (h : Hd) : Prop := ∃ a pa, v = .ref a ∧ H a = some (.tup [.str h.nm, .ref pa, .str h.kd]) ∧ H pa = some (.lst (h.ks.map V.str))
def HdsAt (H : Hp) (vs : List V) (hs : List Hd) : Prop := Paired (HdAt H) vs hs
/-- the locals with their kinds, a list of pairs -/
def NrAt (H : Hp) (v : V) (nr : List (Str × Str)) : Prop := ∃ a vs, v = .ref a ∧ H a = some (.lst vs) ∧ Paired (fun u p => Row H u [.str p.1, .str p.2]) vs nr
theorem paired_ni {α : Type} {F : V → α → Prop} (hF : ∀ v a, F v a → ∃ b, v = .ref b) {vs : List V} {as : List α} (h : Paired F vs as) : NI vs := fun i r e => by
  cases h with
  | nil => cases e
  | cons r1 _ =>
    obtain ⟨b, eb⟩ := hF _ _ r1
    rw [eb] at e
    cases e
theorem Row.ref {H : Hp} {v : V} {xs : List V} (h : Row H v xs) : ∃ b, v = .ref b := by
  obtain ⟨a, e, _⟩ := h
  exact ⟨a, e⟩
theorem HdAt.ref {H : Hp} {v : V} {h : Hd} (q : HdAt H v h) : ∃ b, v = .ref b := by
  obtain ⟨a, _, e, _⟩ := q
  exact ⟨a, e⟩
/-- what the drawing of trees stands on: the draws, the way, the names, the heads that are seen -/
structure Wd (H : Hp) (d w : Addr) (C : Cfg) (ns : List Str) (hs : List Hd) : Prop where
  dr : DrAt H d
  wy : WyAt H w C
  nm : H C.na = some (.lst (ns.map V.str))
  hd : ∃ hv, H C.ha = some (.lst hv) ∧ HdsAt H hv hs
  ce : C.e ≤ 1000
section
variable {H H' : Hp} {d w : Addr} {C : Cfg} {ns : List Str} {hs : List Hd}
theorem Wd.ne (W : Wd H d w C ns hs) : d ≠ w := W.dr.neW W.wy
theorem Wd.kt (W : Wd H d w C ns hs) (k : Kp d w H H') : KT H H' := k.kt W.dr W.wy
/-- a list that is neither of both -/
theorem Wd.lst (W : Wd H d w C ns hs) (k : Kp d w H H') {b : Addr} {xs : List V} (n : NI xs) (h : H b = some (.lst xs)) : H' b = some (.lst xs) := k b _ h (W.dr.ne n h) (W.wy.ne n h)
theorem Wd.hdAt (W : Wd H d w C ns hs) (k : Kp d w H H') {v : V} {h : Hd} (q : HdAt H v h) : HdAt H' v h := by
  obtain ⟨a, pa, e, h1, h2⟩ := q
  exact ⟨a, pa, e, W.kt k _ _ h1, W.lst k (ni_str _) h2⟩
theorem Wd.hds (W : Wd H d w C ns hs) (k : Kp d w H H') {vs : List V} {gs : List Hd} (q : HdsAt H vs gs) : HdsAt H' vs gs := Paired.mapP q fun _ _ z => W.hdAt k z
theorem HdsAt.ni {vs : List V} {gs : List Hd} (q : HdsAt H vs gs) : NI vs := paired_ni (fun _ _ z => z.ref) q
theorem Wd.near (W : Wd H d w C ns hs) (k : Kp d w H H') {v : V} {nr : List (Str × Str)} (q : NrAt H v nr) : NrAt H' v nr := by
  obtain ⟨a, vs, e, h1, h2⟩ := q
  exact ⟨a, vs, e, W.lst k (paired_ni (fun _ _ z => z.ref) h2) h1, Paired.mapP h2 fun _ _ z => z.mono (W.kt k)⟩
/-- the world goes on -/
theorem Wd.next (W : Wd H d w C ns hs) (k : Kp d w H H') (h1 : DrAt H' d) (h2 : WyAt H' w C) : Wd H' d w C ns hs := by
  obtain ⟨hv, a, b⟩ := W.hd
  exact ⟨h1, h2, W.lst k (ni_str _) W.nm, ⟨hv, W.lst k b.ni a, W.hds k b⟩, W.ce⟩
theorem Wd.same (W : Wd H d w C ns hs) (s : Same H H') : Wd H' d w C ns hs := by
  obtain ⟨a, b, e⟩ := W.dr
  obtain ⟨x, y, z, e2⟩ := W.wy
  exact W.next (.of s) ⟨a, b, s _ _ e⟩ ⟨x, y, z, s _ _ e2⟩
theorem Wd.place (W : Wd H d w C ns hs) (k : Kp w w H H') (h : WyAt H' w C) : Wd H' d w C ns hs := by
  obtain ⟨a, b, e⟩ := W.dr
  exact W.next k.wide2 ⟨a, b, k d _ e W.ne W.ne⟩ h
theorem Wd.draw (W : Wd H d w C ns hs) (k : Kp d d H H') (h : DrAt H' d) : Wd H' d w C ns hs := by
  obtain ⟨a, b, c, e⟩ := W.wy
  exact W.next k.wide h ⟨a, b, c, k w _ e (Ne.symm W.ne) (Ne.symm W.ne)⟩
theorem Wd.new {D : Addr} {o : HO} (W : Wd H d w C ns hs) (n : H D = none) : Wd (upd H D o) d w C ns hs := W.same (same_new n)
theorem Wd.tree (W : Wd H d w C ns hs) (k : Kp d w H H') {t : T} {v : V} (h : TAt H t v) : TAt H' t v := h.mono (W.kt k)
end
end Tp
set_option Elab.async false
set_option linter.all false
set_option maxRecDepth 100000
/-! The text by places; defs with their promises; short words. -/
namespace Tp
open PySem L2

def topS (i : Nat) : Stmt := PySem.Challenge.pw_tierpile_k22_whole_one_name_unknown.main.body.getD i (.Pass ⟨0, 0, 0, 0⟩)

/-! ### a def as it stands; with its promise -/
structure At (K : PySem.W.Frag) (mg : Str → Option Value) (x : Str) (st : Stmt) (ps : List Str) : Prop where
  ex : ∃ (f : Addr) (fd : FuncData), Fun K x x st f fd ∧ mg x = some (.ref f) ∧ Binds K fd ps []
structure Dn (P : Program) (w : World) (K : PySem.W.Frag) (mg : Str → Option Value) (base : Heap) (x : Str) (k : Nat) (ps : List Str) (sp : Sp) : Prop where
  ex : ∃ (f : Addr) (fd : FuncData), FnOk P w K mg base CX0 k f fd ps sp ∧ mg x = some (.ref f) ∧ PySem.W.keepIn K (.ref f) = true ∧ Binds K fd ps []
section
variable {P : Program} {w : World} {K : PySem.W.Frag} {mg : Str → Option Value} {base : Heap} {x : Str} {k j : Nat} {ps : List Str} {sp sp' : Sp} {st : Stmt}
theorem At.dn (A : At K mg x st ps) (h : ∀ f fd, Fun K x x st f fd → FnOk P w K mg base CX0 k f fd ps sp) : Dn P w K mg base x k ps sp := by
  obtain ⟨f, fd, F, m, b⟩ := A.ex
  exact ⟨f, fd, h f fd F, m, F.kp, b⟩
theorem Dn.mono (D : Dn P w K mg base x k ps sp) (h : k ≤ j) : Dn P w K mg base x j ps sp := by
  obtain ⟨f, fd, F, r⟩ := D.ex
  exact ⟨f, fd, F.mono h, r⟩
theorem Dn.imp (D : Dn P w K mg base x k ps sp) (h : ∀ vs H Q E, sp' vs H Q E → sp vs H Q E) : Dn P w K mg base x k ps sp' := by
  obtain ⟨f, fd, F, r⟩ := D.ex
  exact ⟨f, fd, F.imp h, r⟩
/-- a promise that asks what is not so -/
theorem At.none (A : At K mg x st ps) (h : ∀ vs H Q E, ¬ sp vs H Q E) : Dn P w K mg base x k ps sp := by
  obtain ⟨f, fd, F, m, b⟩ := A.ex
  exact ⟨f, fd, ⟨fun vs H Q E q => absurd q (h vs H Q E), fun A outer s H args us vs Q E _ _ _ _ q => absurd q (h vs H Q E)⟩, m, F.kp, b⟩
end
/-- what a call of a def asks -/
def tDn (sp : Sp) (t : TA) : TE := fun σ H Q => t σ H fun vs H1 => sp vs H1 Q E0
def tDn0 (sp : Sp) : TE := fun σ H Q => sp [] H Q E0
section
variable {X : Cx} {x : Str} {k j : Nat} {ps : List Str} {sp : Sp} {p pos : Pos} {e : Expr} {es : List Expr} {t : TA}
theorem pe_dn (D : Dn X.prog X.w X.K X.mg X.base x k ps sp) (hr : Room j X.A) (hk : k ≤ j) (hg : Gl X x) (ha : PA X (e :: es) t) (hdb : (x == ("__debug__" : Str)) = false := by decide) (he : starEach (e :: es) X.env = (false, eval e X.env) :: starEach es X.env := by rfl) (hpl : (backTo pos (starEach es X.env)).any (·.1) = false := by rfl) :
    PE X (.Call (.Name x p) (e :: es) [] pos) (tDn sp t) := by
  obtain ⟨f, fd, F, m, kp, b⟩ := D.ex
  have h := pe_call (E := E0) (p := p) (pos := pos) F (hr.mono hk) hg m kp b .nil pass0 ha hdb he hpl
  refine ⟨fun pins s σ H Q I q => h.run pins s σ H Q I ?_⟩
  show t σ H fun vs H1 => sp (vs ++ []) H1 Q E0
  have e : (fun (vs : List V) (H1 : Hp) => sp (vs ++ []) H1 Q E0) = fun vs H1 => sp vs H1 Q E0 := by
    funext vs H1
    rw [List.append_nil]
  rw [e]
  exact q
theorem pe_dn0 (D : Dn X.prog X.w X.K X.mg X.base x k ps sp) (hr : Room j X.A) (hk : k ≤ j) (hg : Gl X x) (hdb : (x == ("__debug__" : Str)) = false := by decide) :
    PE X (.Call (.Name x p) [] [] pos) (tDn0 sp) := by
  obtain ⟨f, fd, F, m, kp, b⟩ := D.ex
  exact pe_call0 (E := E0) (p := p) (pos := pos) F (hr.mono hk) hg m kp b .nil pass0 hdb
end
/-! ### the built-ins that are still what they were -/
structure Bt (mg : Str → Option Value) : Prop where
  len : mg "len" = none
  isi : mg "isinstance" = none
  all : mg "all" = none
  list : mg "list" = none
  tuple : mg "tuple" = none
  int : mg "int" = none
  bool : mg "bool" = none
  str : mg "str" = none
  range : mg "range" = none
  max : mg "max" = none
  min : mg "min" = none
  sum : mg "sum" = none
  zip : mg "zip" = none
  enum : mg "enumerate" = none
  rev : mg "reversed" = none
  sorted : mg "sorted" = none
section
variable {X : Cx}
theorem bi_isi : bootBuiltins "isinstance" = some (.builtin "isinstance") := by decide +kernel
theorem bi_all : bootBuiltins "all" = some (.builtin "all") := by decide +kernel
theorem bi_sum : bootBuiltins "sum" = some (.builtin "sum") := by decide +kernel
theorem bi_max : bootBuiltins "max" = some (.builtin "max") := by decide +kernel
theorem bi_min : bootBuiltins "min" = some (.builtin "min") := by decide +kernel
theorem bi_sorted : bootBuiltins "sorted" = some (.builtin "sorted") := by decide +kernel
theorem bi_list : bootBuiltins "list" = some (.type "list") := by decide +kernel
theorem bi_tuple : bootBuiltins "tuple" = some (.type "tuple") := by decide +kernel
theorem bi_int : bootBuiltins "int" = some (.type "int") := by decide +kernel
theorem bi_bool : bootBuiltins "bool" = some (.type "bool") := by decide +kernel
theorem bi_str : bootBuiltins "str" = some (.type "str") := by decide +kernel
/-- the name of a built-in type as a value -/
theorem pe_ty {x : Str} {n : String} {pos : Pos} (hg : Gl X x) (hm : X.mg x = none) (hv : bootBuiltins x = some (.type n)) (hn : x ≠ "__name__" := by decide) (hd : (x == ("__debug__" : Str)) = false := by decide) : PE X (.Name x pos) (tC (.ty n)) := pe_bltn hg hm hv rfl hn hd
end
/-- len of a list or a tuple, K told -/
def rLenK (K : PySem.W.Frag) : List V → Hp → VK → Prop := fun xs H Q => ∃ p ys, xs = [V.ref p] ∧ (SqL K H p ys ∨ SqT K H p ys) ∧ Q (V.int ys.length) H
theorem call_lenK {X : Cx} {K : PySem.W.Frag} (h : X.K = K) : CallR X (.builtin "len") (rLenK K) := by
  subst h
  exact call_len_seq
/-! ### tests whose answer is known -/
theorem dT {p : Prop} [Decidable p] (h : p) : decide p = true := decide_eq_true h
theorem iteD {p A B : Prop} [Decidable p] (h : p) (a : A) : if decide p = true then A else B := by rw [decide_eq_true h]; exact iteT a
theorem iteN {p A B : Prop} [Decidable p] (h : ¬ p) (b : B) : if decide p = true then A else B := by rw [decide_eq_false h]; exact iteF b
theorem iteND {p A B : Prop} [Decidable p] (h : p) (b : B) : if (!decide p) = true then A else B := by rw [decide_eq_true h]; exact iteF b
theorem iteNN {p A B : Prop} [Decidable p] (h : ¬ p) (a : A) : if (!decide p) = true then A else B := by rw [decide_eq_false h]; exact iteT a
theorem ite2D {p A B : Prop} [Decidable p] (a : p → A) (b : ¬ p → B) : if decide p = true then A else B := by
  by_cases h : p
  · exact iteD h (a h)
  · exact iteN h (b h)
theorem kit_int_int : kitB "int" "int" = some true := by decide +kernel
theorem kit_int_bool : kitB "int" "bool" = some false := by decide +kernel
theorem kit_str_str : kitB "str" "str" = some true := by decide +kernel
theorem kit_tup_tup : kitB "tuple" "tuple" = some true := by decide +kernel
theorem kit_int_tup : kitB "int" "tuple" = some false := by decide +kernel
theorem kit_str_tup : kitB "str" "tuple" = some false := by decide +kernel
section
variable {K : PySem.W.Frag} {H : Hp} {Q : VK}
/-- isinstance(x, T) of a number, a text, a tuple -/
theorem isi_int {i : Int} {n : String} {b : Bool} (h : kitB "int" n = some b) (q : Q (.bl b) H) : rIsi K [.int i, .ty n] H Q := ⟨_, _, _, _, b, rfl, .ty n, .base (.int i), kit_ty h, q⟩
theorem isi_str {z : Str} {n : String} {b : Bool} (h : kitB "str" n = some b) (q : Q (.bl b) H) : rIsi K [.str z, .ty n] H Q := ⟨_, _, _, _, b, rfl, .ty n, .base (.str z), kit_ty h, q⟩
theorem isi_tup {a : Addr} {xs : List V} {n : String} {b : Bool} (ha : H a = some (.tup xs)) (h : kitB "tuple" n = some b) (q : Q (.bl b) H) : rIsi K [.ref a, .ty n] H Q := ⟨_, _, _, _, b, rfl, .ty n, .base (.tup ha), kit_ty h, q⟩
end
/-! ### the module's constants -/
structure Mc (K : PySem.W.Frag) (mg : Str → Option Value) (ka oa : Addr) (tl tn tp td te : Tok) : Prop where
  keys : mg "KEYS" = some (.ref ka)
  keysT : ∀ H, SqT K H ka (keysL.map V.str)
  ops : mg "OPS" = some (.ref oa)
  opsT : ∀ H, SqT K H oa (opsL.map V.str)
  letters : mg "LETTERS" = some (.str lettersS tl)
  num : mg "MOST_NUMBER" = some (.int 999999999 tn)
  parts : mg "MOST_PARTS" = some (.int 4 tp)
  defs : mg "MOST_DEFS" = some (.int 8 td)
  deep : mg "DEEP" = some (.int 10 te)
theorem hu1 {k : Nat} {A : Around} (r : Room k A) : A.units + 1 < cLine := by have := r.un; omega
theorem hu9 {k : Nat} {A : Around} (r : Room k A) : A.units + 9 < cLine := by have := r.un; omega
theorem line9 {n : Nat} (h : n ≤ 1000) : n ≤ sizeLine := Nat.le_of_lt (small1000 h)
end Tp
set_option Elab.async false
set_option linter.all false
set_option maxRecDepth 100000
/-! Comprehensions in short. -/
namespace Tp
open PySem L2
theorem qD {p : Prop} [Decidable p] {Q : VK} {H : Hp} (h : p) (q : Q (.bl true) H) : Q (.bl (decide p)) H := by rw [decide_eq_true h]; exact q
theorem qB {b : Bool} {Q : VK} {H : Hp} (h : b = true) (q : Q (.bl true) H) : Q (.bl b) H := by rw [h]; exact q
theorem iteBF {b : Bool} {A B : Prop} (h : b = false) (x : B) : if b = true then A else B := by rw [h]; exact iteF x
theorem iteBT {b : Bool} {A B : Prop} (h : b = true) (x : A) : if b = true then A else B := by rw [h]; exact iteT x
theorem inV_str (z : Str) : ∀ l : List Str, inV (.str z) (l.map V.str) = decide (z ∈ l)
  | [] => by simp [inV]
  | x :: l => by
    show (eqV (.str x) (.str z) || inV (.str z) (l.map V.str)) = _
    rw [inV_str z l]
    show ((x == z) || decide (z ∈ l)) = _
    by_cases h : x = z
    · subst h; simp
    · have h2 : ¬ z = x := fun e => h e.symm
      simp [h, h2]
theorem flat_str : ∀ l : List Str, (l.map V.str).all flatV = true
  | [] => rfl
  | _ :: l => by
    show (true && (l.map V.str).all flatV) = true
    rw [flat_str l] <;> rfl
/-- what holds between two statements -/
theorem seq_join {t u : TS} {D : Ends} {σ : L2.St} {H : Hp} (C : L2.St → Hp → Prop) (h2 : ∀ C' : L2.St → Hp → Prop, (∀ σ H, C σ H → C' σ H) → t { D with nx := C' } σ H) (h1 : ∀ σ H, C σ H → u D σ H) : tSeq t u D σ H := h2 _ h1
/-- the same heap, but for what is new -/
theorem Same.d {H H' : Hp} {D : Addr} {o : HO} (s : Same H H') (h : H D = some o) : H' D = some o := s D o h
/-- upon a new object all stays -/
theorem same_over {H1 H : Hp} {D : Addr} {o u : HO} (hD : H1 D = none) (s : Same H1 H) : Same H1 (upd H D u) := fun b x e => by
  rw [upd_ne (ne_of_none e hD)]
  exact s b x e
section
variable {J : It} {n : Nat} {G : Hp → Prop} {Y : Nat → Hp → V → Hp → Prop}
/-- [e for x in it], e always True, nothing that stood changed -/
theorem all_true (w : Walk J n G Y) {g : TG} {te : TE} {vs : List Nat} {σ : L2.St} {H1 : Hp} {D : Addr} {Qd : Hp → Prop} (hn : n < sizeLine) (hD : H1 D = none) (hY : ∀ i H x H', Y i H x H' → H' = H) (hG : ∀ H, Same H1 H → G H)
    (hs : ∀ i x H (Q' : VK), i < n → Same H1 H → Y i H x H → (∀ H4, Same H H4 → Q' (.bl true) H4) → g x (wipe σ vs) H fun σ2 H2 => wipe σ2 vs = wipe σ vs ∧ te σ2 H2 Q')
    (hd : ∀ H, Same H1 H → H D = some (.lst ((List.replicate n true).map V.bl)) → Qd H) :
    ∃ W : Nat → Nat → Hp → Prop, (∃ m, W 0 m (upd H1 D (.lst []))) ∧ ∀ i m H, W i m H →
      (J.stop i H ∧ Qd H) ∨ (J.go i H ∧ ∃ Nx : Hp → Prop, (∀ H', Nx H' → ∃ m', m' < m ∧ W (i + 1) m' H') ∧ ∀ x H', J.yld i H x H' → g x (wipe σ vs) H' fun σ2 H2 => wipe σ2 vs = wipe σ vs ∧ tYes σ2 H2 fun b H3 =>
        if b = true then te σ2 H3 fun y H4 => ∃ acc, H4 D = some (.lst acc) ∧ acc.length < sizeLine ∧ Nx (upd H4 D (.lst (acc ++ [y]))) else Nx H3) := by
  refine lc_it w (fun i H => Same H1 H ∧ H D = some (.lst ((List.replicate i true).map V.bl)) ∧ i ≤ n) ⟨same_new hD, upd_same, Nat.zero_le _⟩ (fun i H _ p => hG H p.1) (fun i x H H' hi p y => ?_) fun H p => hd H p.1 p.2.1
  have e := hY _ _ _ _ y
  subst e
  refine hs i x H' _ hi p.1 y fun H4 s4 => ⟨_, s4 _ _ p.2.1, ?_, same_over (o := .lst []) hD (p.1.trans s4), ?_, hi⟩
  · rw [List.length_map, List.length_replicate]
    omega
  · rw [upd_same, List.replicate_succ', List.map_append]
    rfl
theorem line9' {n : Nat} (h : n ≤ 1000) : n < sizeLine := small1000 h
theorem all_rep (n : Nat) : (List.replicate n true).all id = true := by
  rw [List.all_replicate]
  simp
end
end Tp
set_option Elab.async false
set_option linter.all false
set_option maxRecDepth 100000
/-! (a, b, *rest) = a tuple. -/
namespace Tp
open PySem PySem.Spec PyProof.Rows L2
section
variable {prog : Program} {w : World} {A : Around} {E : Value → Shared → Prop} {s : Shared}
theorem walks_shift {I : Addr} {fp wr : List Addr} {n : Nat} {P : Nat → Value → Prop} {St : Nat → Heap → Prop} (W : Walks prog w A I fp wr n P St) (k : Nat) (hk : k ≤ n) :
    Walks prog w A I fp wr (n - k) (fun i => P (i + k)) (fun i => St (i + k)) where
  sub := W.sub
  frame := fun i h h' => W.frame (i + k) h h'
  item := fun i s Q E hi st hQ => W.item (i + k) s Q E (by omega) st fun v h' tk hp st' hk' => hQ v h' tk hp (by rw [show i + 1 + k = i + k + 1 by omega]; exact st') hk'
  done := fun s Q E st hQ => W.done s Q E (by rw [show n = n - k + k by omega]; exact st) hQ
  self := fun i s Q E st hQ => W.self (i + k) s Q E st hQ
theorem items_drop {items acc : Array Value} {k : Nat} (hk : k ≤ items.size) (h : ItemsOf (fun i v => items[i + k]? = some v) acc (items.size - k)) : acc.toList = items.toList.drop k := by
  apply List.ext_getElem?
  intro i
  have hs : acc.toList.length = items.size - k := by rw [Array.length_toList]; exact h.1
  rw [List.getElem?_drop]
  by_cases hi : i < items.size - k
  · have h1 : acc.toList[i]? = some (acc.toList[i]'(by omega)) := List.getElem?_eq_getElem (by omega)
    have h2 : acc[i]? = some (acc.toList[i]'(by omega)) := by rw [← Array.getElem?_toList]; exact h1
    have h3 := h.2 i _ h2
    rw [h1, ← h3, Nat.add_comm, ← Array.getElem?_toList]
  · rw [List.getElem?_eq_none (by omega), List.getElem?_eq_none (by rw [Array.length_toList]; omega)]
theorem unpackItems_star {t : Addr} {items : Array Value} {k : Nat} {Q : List Value → Shared → Prop} (hh : A.handled = none) (ht : IsTup s.heap t items) (hk : k ≤ items.size) (hz : items.size ≤ sizeLine)
    (hQ : ∀ (s' : Shared), s'.gens = s.gens → s'.drawn = s.drawn → s'.os = s.os → (∀ b o, s.heap.get? b = some o → s'.heap.get? b = some o) →
      Q (items.toList.take k ++ [.ref s'.heap.objs.size]) { s' with heap := s'.heap.push { cls := .type "list", data := .seq (items.toList.drop k).toArray } }) : wpAny (model prog w) A (unpackItems (.ref t) (k + 1) (some k)) Q E s := by
  have hlt : t ≠ s.heap.objs.size := by obtain ⟨o, ho, _⟩ := ht; exact Nat.ne_of_lt (Heap.lt_size ho)
  unfold unpackItems
  refine wpAny_bind ?_
  unfold notIterableAtAll
  refine wpAny_bind (wpAny_specialOf ht.typeIs slot_tuple_iter.lookup ?_)
  refine wpAny_pure ?_
  simp only [Bool.false_eq_true, if_false]
  refine wpAny_bind (wpAny_holding (iter_tuple ht ?_))
  refine wpAny_bind (wpAny_holding (draw_tuple hlt k 0 _ _ ⟨_, Heap.get?_push_size _ rfl, rfl, rfl⟩ (ht.push _) (by omega) fun h₁ hit₁ hs₁ => ?_))
  have ht₁ : IsTup h₁ t items := (ht.push _).extBut hs₁.extBut hlt
  rw [Nat.zero_add] at hit₁
  have hl : ((items.toList.drop 0).take k).length = k := by rw [List.drop_zero, List.length_take, Array.length_toList]; omega
  rw [List.drop_zero] at hl ⊢
  rw [if_neg (by rw [hl]; omega)]
  have W := (walks_shift (Walks.tuple (prog := prog) (w := w) (A := A.in1) hh s.heap.objs.size t hlt items) k hk).toS
  have hN : s.heap.objs.size < h₁.objs.size := by obtain ⟨o, ho, _⟩ := hit₁; exact Heap.lt_size ho
  have hT : t < h₁.objs.size := by obtain ⟨o, ho, _⟩ := ht₁; exact Heap.lt_size ho
  refine wpAny_bind (wpAny_holding (wpAny_collect_iter (.inr (.inr (.inr rfl))) W ?_ ?_ ?_ ?_ (fun s' acc hm hacc => ?_) (by omega)))
  · rintro i s2 ⟨⟨o, ho, hc, _⟩, _⟩
    exact ⟨o, ho, hc⟩
  · show Heap.IsTupleIter h₁ s.heap.objs.size t (0 + k) ∧ _
    rw [Nat.zero_add]
    exact ⟨hit₁, ht₁⟩
  · intro b hb
    have hb : b = s.heap.objs.size ∨ b = t := by simpa using hb
    rcases hb with e | e
    · rw [e]; exact hN
    · rw [e]; exact hT
  · simp
  · have hd := items_drop hk hacc
    rw [hd]
    have hln : (items.toList.drop k).length = items.size - k := by rw [List.length_drop, Array.length_toList]
    rw [if_neg (by omega)]
    have e0 : k + 1 - 1 - k = 0 := by omega
    rw [e0, Nat.sub_zero, List.take_length, List.drop_length]
    simp only [List.append_nil]
    refine wpAny_bind ?_
    refine wpAny_newList (wpAny_pure ?_) (by rw [hln]; omega)
    have kp : ∀ b o, s.heap.get? b = some o → s'.heap.get? b = some o := fun b o e => by
      have hb : b ≠ s.heap.objs.size := Nat.ne_of_lt (Heap.lt_size e)
      exact hm.heap b o (by simpa using hb) (hs₁.extBut b o hb (Heap.get?_push_of_some _ e))
    exact hQ s' hm.gens hm.drawn hm.os kp
end
/-- (a, b, .., *rest) = a tuple: rest a new list -/
def gStar (K : PySem.W.Frag) (k : Nat) (t : TGs) : TG := fun v σ H Q => ∃ a xs, v = .ref a ∧ SqT K H a xs ∧ k ≤ xs.length ∧ ∀ p, H p = none → t (xs.take k ++ [.ref p]) σ (upd H p (.lst (xs.drop k))) Q
section
variable {X : Cx}
/-- several targets, the last one with a star -/
structure PGz (X : Cx) (ts : List Expr) (t : TGs) : Prop where
  run : ∀ (pins : List (Addr × Obj)) (s : Shared) (σ : L2.St) (H : Hp) (vs : List V) (us : List Value) (Q : L2.St → Hp → Prop), Inv X pins σ H s → Vals vs us → t vs σ H Q →
    wpAny (model X.prog X.w) X.A (assignInOrder ((assignEach ts X.env).map (·.2)) us) (fun _ s' => ∃ σ' H', Inv X pins σ' H' s' ∧ Q σ' H') X.xe s
theorem pgz_star {e : Expr} {t : TG} {p : Pos} (h1 : PG X e t) (hs : (assignEach [.Starred e p] X.env).map (·.2) = [assign e X.env] := by rfl) : PGz X [.Starred e p] (gCons t gNil) := by
  refine ⟨fun pins s σ H vs us Q I r h => ?_⟩
  obtain ⟨v, vr, e1, h⟩ := h
  subst e1
  cases r with
  | cons r rr =>
    rw [hs]
    refine assignInOrder_cons (thn (h1.run pins s σ H _ _ _ I r h) fun _ s1 ⟨σ1, H1, I1, q1⟩ => ?_)
    obtain ⟨e2, q1⟩ := q1
    subst e2
    cases rr
    exact assignInOrder_nil ⟨σ1, H1, I1, q1⟩
theorem pgz_cons {e : Expr} {es : List Expr} {t : TG} {u : TGs} (h1 : PG X e t) (h2 : PGz X es u)
    (hs : (assignEach (e :: es) X.env).map (·.2) = assign e X.env :: (assignEach es X.env).map (·.2) := by rfl) : PGz X (e :: es) (gCons t u) := by
  refine ⟨fun pins s σ H vs us Q I r h => ?_⟩
  obtain ⟨v, vr, e1, h⟩ := h
  subst e1
  cases r with
  | cons r rr =>
    rw [hs]
    refine assignInOrder_cons (thn (h1.run pins s σ H _ _ _ I r h) fun _ s1 ⟨σ1, H1, I1, q1⟩ => ?_)
    exact h2.run pins s1 σ1 H1 _ _ Q I1 rr q1
theorem pg_star {es : List Expr} {x k : Nat} {t : TGs} {pos : Pos} (hc : X.calm = true) (h : PGz X es t)
    (hn : (assignEach es X.env).length = k + 1 := by rfl) (hst : (assignEach es X.env).findIdx? (·.1) = some k := by rfl) : PG X (.Tuple es x pos) (gStar X.K k t) := by
  refine ⟨fun pins s σ H v u Q I r hw => ?_⟩
  obtain ⟨a, xs, e1, hq, hl, hw⟩ := hw
  subst e1
  cases r
  obtain ⟨its, rv, ht, hz⟩ := I.tuple hq
  have hlen := rv.length
  rw [assign_Tuple]
  refine wpAny_bind (wpAny_standAt ?_)
  unfold unpack
  rw [hn, hst]
  refine wpAny_bind (wpAny_holding (unpackItems_star (I.ok.hd hc) ht (by rw [List.size_toArray]; omega) (by rw [List.size_toArray]; omega) fun s' hg hd ho hk => ?_))
  have I1 : Inv X pins σ H s' := I.call' (ch := []) ho (Un.kept hk) (I.hok.kept hk) (by rw [hg]; exact I.bare) (fun _ z => nomatch z)
  have hf : H s'.heap.objs.size = none := I1.hok.fresh (Nat.le_refl _)
  have rd : Vals (xs.drop k) (its.drop k) := rv.drop k
  have I2 : Inv X pins σ (upd H s'.heap.objs.size (.lst (xs.drop k))) { s' with heap := s'.heap.push { cls := .type "list", data := .seq (its.toArray.toList.drop k).toArray } } := by
    refine I1.laid (t' := s'.toks) (fun b o e => Heap.get?_push_of_some _ e) (Nat.le_refl _) ⟨?_, its.drop k, 0, rd, Heap.get?_push_size _ rfl⟩
    rw [List.length_drop]
    omega
  refine h.run pins _ σ _ _ _ Q I2 ?_ (hw _ hf)
  exact (rv.take k).append (.cons rfl .nil)
end
end Tp
set_option Elab.async false
set_option linter.all false
set_option maxRecDepth 100000
set_option maxHeartbeats 4000000
/-! Whether a thing is a program: the walks. -/
namespace Tp
open PySem L2
abbrev sIsWithin : Stmt := topS 12
abbrev nIsWithin : List Str := ["thing", "low", "high"]
theorem scIsWithin : FnScope nIsWithin ["thing", "low", "high"] (defScope sIsWithin) := ⟨rfl, rfl, rfl, by decide +kernel, rfl, by decide +kernel, by decide +kernel⟩
abbrev sIsName : Stmt := topS 13
abbrev nIsName : List Str := ["thing", "sign"]
theorem scIsName : FnScope nIsName ["thing"] (defScope sIsName) := ⟨rfl, rfl, rfl, by decide +kernel, rfl, by decide +kernel, by decide +kernel⟩
abbrev sIsPlace : Stmt := topS 14
abbrev nIsPlace : List Str := ["thing", "one"]
theorem scIsPlace : FnScope nIsPlace ["thing"] (defScope sIsPlace) := ⟨rfl, rfl, rfl, by decide +kernel, rfl, by decide +kernel, by decide +kernel⟩
abbrev sIsNode : Stmt := topS 15
abbrev nIsNode : List Str := ["thing", "word", "place", "rest"]
theorem scIsNode : FnScope nIsNode ["thing"] (defScope sIsNode) := ⟨rfl, rfl, rfl, by decide +kernel, rfl, by decide +kernel, by decide +kernel⟩
abbrev sSubtrees : Stmt := topS 16
abbrev nSubtrees : List Str := ["tree", "word"]
theorem scSubtrees : FnScope nSubtrees ["tree"] (defScope sSubtrees) := ⟨rfl, rfl, rfl, by decide +kernel, rfl, by decide +kernel, by decide +kernel⟩
abbrev sIsTree : Stmt := topS 17
abbrev nIsTree : List Str := ["thing", "deep", "one"]
theorem scIsTree : FnScope nIsTree ["thing", "deep"] (defScope sIsTree) := ⟨rfl, rfl, rfl, by decide +kernel, rfl, by decide +kernel, by decide +kernel⟩
abbrev sIsDef : Stmt := topS 18
abbrev nIsDef : List Str := ["thing", "word", "place", "name", "params", "body", "param"]
theorem scIsDef : FnScope nIsDef ["thing"] (defScope sIsDef) := ⟨rfl, rfl, rfl, by decide +kernel, rfl, by decide +kernel, by decide +kernel⟩
abbrev sIsProgram : Stmt := topS 19
abbrev nIsProgram : List Str := ["thing", "one"]
theorem scIsProgram : FnScope nIsProgram ["thing"] (defScope sIsProgram) := ⟨rfl, rfl, rfl, by decide +kernel, rfl, by decide +kernel, by decide +kernel⟩
abbrev sNeedProgram : Stmt := topS 20
abbrev nNeedProgram : List Str := ["thing"]
theorem scNeedProgram : FnScope nNeedProgram ["thing"] (defScope sNeedProgram) := ⟨rfl, rfl, rfl, by decide +kernel, rfl, by decide +kernel, by decide +kernel⟩
section
variable {P : Program} {w : World} {K : PySem.W.Frag} {mg : Str → Option Value} {base : Heap} {ka oa : Addr} {tl tn tp td te : Tok}
def spIsWithin : Sp := fun vs H Q _ => ∃ n lo hi : Int, vs = [.int n, .int lo, .int hi] ∧ lo ≤ n ∧ n ≤ hi ∧ Q (.bl true) H
theorem dn_is_within (A : At K mg "is_within" sIsWithin ["thing", "low", "high"]) (B : Bt mg) : Dn P w K mg base "is_within" 1 ["thing", "low", "high"] spIsWithin := by
  refine A.dn fun f fd F => F.ok scIsWithin (fun vs H Q E h => ?_) (fun cdv A outer s H vs Q E hr h => ?_)
  · obtain ⟨n, lo, hi, rfl, _⟩ := h
    rfl
  obtain ⟨n, lo, hi, rfl, h1, h2, q⟩ := h
  refine ⟨_, (pss_one (ps_ret (pe_and (pe_callB call_isi (by rfl) B.isi bi_isi (pa_cons (pv 0) (pa_cons (pe_ty (by rfl) B.int bi_int) pa_nil))) (pe_and (pe_not (pe_callB call_isi (by rfl) B.isi bi_isi (pa_cons (pv 0) (pa_cons (pe_ty (by rfl) B.bool bi_bool) pa_nil)))) (pe_one (pe_chain op_le op_le (pv 1) (pv 0) (pv 2))))))), ?_⟩
  refine ⟨_, rfl, _, _, _, _, _, rfl, .ty _, .base (.int _), kit_ty kit_int_int, _, rfl, iteT ?_⟩
  refine ⟨_, rfl, _, _, _, _, _, rfl, .ty _, .base (.int _), kit_ty kit_int_bool, _, rfl, _, rfl, iteT ?_⟩
  refine ⟨_, rfl, _, rfl, _, _, rfl, rfl, _, rfl, iteD h1 ⟨_, rfl, _, _, rfl, rfl, ?_⟩⟩
  exact qD (Q := Q) h2 q
def spIsName : Sp := fun vs H Q _ => ∃ z : Str, vs = [.str z] ∧ NameOk z ∧ ∀ H', Same H H' → Q (.bl true) H'
theorem dn_is_name (A : At K mg "is_name" sIsName ["thing"]) (B : Bt mg) (M : Mc K mg ka oa tl tn tp td te) : Dn P w K mg base "is_name" 1 ["thing"] spIsName := by
  refine A.dn fun f fd F => F.ok scIsName (fun vs H Q E h => ?_) (fun cdv A outer s H vs Q E hr h => ?_)
  · obtain ⟨z, rfl, _⟩ := h
    rfl
  obtain ⟨z, rfl, hz, q⟩ := h
  have hl := hz.hi
  have hl1 := hz.lo
  refine ⟨_, (pss_cons (ps_if (PW.pt (pw_or (pt_not (pt_val (pe_callB call_isi (by rfl) B.isi bi_isi (pa_cons (pv 0) (pa_cons (pe_ty (by rfl) B.str bi_str) pa_nil))))) (pw_or (pt_not (pt_chain op_le op_le pe_int (pe_callB call_len_str (by rfl) B.len PySem.boot_len (pa_cons (pv 0) pa_nil)) pe_int)) (pw_or1 (pt_cmpR op_in_seq (pv 0) (pe_glob (v := .ref ka) (by rfl) M.keys rfl) (by rfl))))))
   (pss_one (ps_ret pe_bl))
   pss_nil)
   (pss_one (ps_ret (pe_callB (cr_all rfl) (by rfl) B.all bi_all (pa_cons (pe_lc (own := [("sign", 1)]) (g := gName 1) (tt := tYes) rfl scIsName.nd (pi_str (pv 0)) (blkOk_by (N := nIsName) (sc := defScope sIsName) (by decide +kernel)) (fun _ _ _ _ _ => (pg_name (i := 1) scIsName.nd rfl (.inl rfl))) (fun _ _ _ _ _ => pts_nil) (fun _ _ _ _ _ => (pe_cmpR op_in_sign (pv 1) (pe_glob (v := .str lettersS) (by rfl) M.letters ⟨_, rfl⟩) (by rfl)))) pa_nil))))), ?_⟩
  refine ⟨_, rfl, _, _, _, _, _, rfl, .ty _, .base (.str _), kit_ty kit_str_str, _, rfl, iteF ?_⟩
  refine ⟨_, rfl, z, rfl, line9 (by omega), _, _, rfl, rfl, _, rfl, iteD (by omega) ⟨_, _, rfl, rfl, _, rfl, iteND (by omega) ?_⟩⟩
  refine ⟨_, rfl, ka, _, rfl, .inr (M.keysT _), rfl, flat_str _, _, rfl, iteBF ?_ ?_⟩
  · show inV (.str z) (keysL.map V.str) = false
    rw [inV_str]
    exact decide_eq_false hz.key
  refine ⟨_, rfl, z, rfl, fun D nD => all_true walk_str (line9' (by show z.length ≤ 1000; omega)) nD (fun _ _ _ _ y => y.1) (fun _ _ => trivial) (fun i x H2 Q' hi s2 y k => ?_) fun H2 s2 hD => ?_⟩
  · obtain ⟨_, c, hc, rfl⟩ := y
    refine ⟨rfl, _, rfl, c, lettersS, rfl, rfl, ?_⟩
    refine qD (Q := Q') (hz.let_ c ?_) (k _ (Same.refl _))
    exact List.mem_of_getElem? (by rw [Array.getElem?_toList]; exact hc)
  · refine ⟨D, _, rfl, SqL.of hD, ?_⟩
    rw [all_rep]
    exact q _ s2
def spIsPlace : Sp := fun vs H Q _ => ∃ (v : V) (p q : Int), vs = [v] ∧ PlAt H v p q ∧ PlOk p q ∧ ∀ H', Same H H' → Q (.bl true) H'
theorem dn_is_place (A : At K mg "is_place" sIsPlace ["thing"]) (B : Bt mg) (DIsWithin : Dn P w K mg base "is_within" 1 ["thing", "low", "high"] spIsWithin) : Dn P w K mg base "is_place" 2 ["thing"] spIsPlace := by
  refine A.dn fun f fd F => F.ok scIsPlace (fun vs H Q E h => ?_) (fun cdv A outer s H vs Q E hr h => ?_)
  · obtain ⟨v, p, q, rfl, _⟩ := h
    rfl
  obtain ⟨v, p0, q0, rfl, ⟨a, rfl, ha⟩, hp, q⟩ := h
  obtain ⟨h1, h2, h3, h4⟩ := hp
  refine ⟨_, (pss_one (ps_ret (pe_and (pe_callB call_isi (by rfl) B.isi bi_isi (pa_cons (pv 0) (pa_cons (pe_ty (by rfl) B.tuple bi_tuple) pa_nil))) (pe_and (pe_cmpR op_eq (pe_callB call_len_seq (by rfl) B.len PySem.boot_len (pa_cons (pv 0) pa_nil)) pe_int (nomark _)) (pe_one (pe_callB (cr_all rfl) (by rfl) B.all bi_all (pa_cons (pe_lc (own := [("one", 1)]) (g := gName 1) (tt := tYes) rfl scIsPlace.nd (pi_tup (pv 0)) (blkOk_by (N := nIsPlace) (sc := defScope sIsPlace) (by decide +kernel)) (fun _ _ _ _ _ => (pg_name (i := 1) scIsPlace.nd rfl (.inl rfl))) (fun _ _ _ _ _ => pts_nil) (fun _ _ _ _ _ => (pe_dn DIsWithin hr (by omega) (by rfl) (pa_cons (pv 1) (pa_cons pe_int (pa_cons pe_int pa_nil)))))) pa_nil))))))), ?_⟩
  refine ⟨_, rfl, _, _, _, _, _, rfl, .ty _, .base (.tup ha), kit_ty kit_tup_tup, _, rfl, iteT ?_⟩
  refine ⟨_, rfl, a, _, rfl, .inr (SqT.of ha), rfl, _, rfl, iteT ?_⟩
  refine ⟨_, rfl, a, rfl, ⟨_, SqT.of ha⟩, fun D nD => all_true (walk_tup (xs := [.int p0, .int q0])) (line9' (by show 2 ≤ 1000; decide)) nD (fun _ _ _ _ y => y.1) (fun H2 s2 => SqT.of (s2 _ _ ha)) (fun i x H2 Q' hi s2 y k => ?_) fun H2 s2 hD => ?_⟩
  · obtain ⟨_, hx⟩ := y
    have hx' : ∃ n : Int, x = .int n ∧ 0 ≤ n ∧ n ≤ 9999 := by
      match i, hx with
      | 0, hx => exact ⟨p0, (Option.some.inj hx).symm, h1, h2⟩
      | 1, hx => exact ⟨q0, (Option.some.inj hx).symm, h3, h4⟩
    obtain ⟨n, rfl, n1, n2⟩ := hx'
    exact ⟨rfl, _, rfl, n, 0, 9999, rfl, n1, n2, k _ (Same.refl _)⟩
  · refine ⟨D, _, rfl, SqL.of hD, ?_⟩
    rw [all_rep]
    exact q _ s2
def ndW : Nd → Str
  | .num _ => "num" | .nil => "nil" | .use _ => "use" | .op _ => "op" | .ite => "if" | .lt _ => "let" | .cs _ _ => "case"
def RsAt (H : Hp) (d : Nd) (vs rest : List V) : Prop := match d with
  | .num n => vs = [] ∧ rest = [.int n]
  | .nil => vs = [] ∧ rest = []
  | .use z => ∃ g, Row H g vs ∧ rest = [.str z, g]
  | .op s => ∃ l r, vs = [l, r] ∧ rest = [.str s, l, r]
  | .ite => ∃ c y n, vs = [c, y, n] ∧ rest = [c, y, n]
  | .lt z => ∃ e b, vs = [e, b] ∧ rest = [.str z, e, b]
  | .cs h t => ∃ x e b, vs = [x, e, b] ∧ rest = [x, e, .str h, .str t, b]
theorem NdAt.row {H : Hp} {d : Nd} {pv v : V} {vs : List V} (h : NdAt H d pv vs v) : ∃ a rest, v = .ref a ∧ H a = some (.tup (.str (ndW d) :: pv :: rest)) ∧ RsAt H d vs rest := by
  cases d with
  | num n => obtain ⟨e, a, e2, h⟩ := h; exact ⟨a, _, e2, h, e, rfl⟩
  | nil => obtain ⟨e, a, e2, h⟩ := h; exact ⟨a, _, e2, h, e, rfl⟩
  | use z => obtain ⟨g, hg, a, e2, h⟩ := h; exact ⟨a, _, e2, h, g, hg, rfl⟩
  | op s => obtain ⟨l, r, e, a, e2, h⟩ := h; exact ⟨a, _, e2, h, l, r, e, rfl⟩
  | ite => obtain ⟨c, y, n, e, a, e2, h⟩ := h; exact ⟨a, _, e2, h, c, y, n, e, rfl⟩
  | lt z => obtain ⟨l, r, e, a, e2, h⟩ := h; exact ⟨a, _, e2, h, l, r, e, rfl⟩
  | cs x y => obtain ⟨c, y, n, e, a, e2, h⟩ := h; exact ⟨a, _, e2, h, c, y, n, e, rfl⟩
theorem RsAt.mono {H H' : Hp} (k : KT H H') {d : Nd} {vs rest : List V} (h : RsAt H d vs rest) : RsAt H' d vs rest := by
  cases d with
  | use z => obtain ⟨g, hg, e⟩ := h; exact ⟨g, hg.mono k, e⟩
  | num _ => exact h
  | nil => exact h
  | op _ => exact h
  | ite => exact h
  | lt _ => exact h
  | cs _ _ => exact h
def spIsNode : Sp := fun vs H Q _ => ∃ (v : V) (d : Nd) (pv : V) (p q : Int) (cs : List V), vs = [v] ∧ PlAt H pv p q ∧ PlOk p q ∧ NdAt H d pv cs v ∧ NdOk d cs.length ∧ ∀ H', Same H H' → Q (.bl true) H'
theorem dn_is_node (A : At K mg "is_node" sIsNode ["thing"]) (B : Bt mg) (M : Mc K mg ka oa tl tn tp td te) (DIsWithin : Dn P w K mg base "is_within" 1 ["thing", "low", "high"] spIsWithin) (DIsName : Dn P w K mg base "is_name" 1 ["thing"] spIsName)
    (DIsPlace : Dn P w K mg base "is_place" 2 ["thing"] spIsPlace) : Dn P w K mg base "is_node" 3 ["thing"] spIsNode := by
  refine A.dn fun f fd F => F.ok scIsNode (fun vs H Q E h => ?_) (fun cdv A outer s H vs Q E hr h => ?_)
  · obtain ⟨v, d, y, p, q, cs, rfl, _⟩ := h
    rfl
  obtain ⟨v, d, y, p0, q0, cs, rfl, hp, hpo, hd, hdo, q⟩ := h
  obtain ⟨a, rest, rfl, ha, hr2⟩ := hd.row
  refine ⟨_, (pss_cons (ps_if (PW.pt (pw_or (pt_not (pt_val (pe_callB call_isi (by rfl) B.isi bi_isi (pa_cons (pv 0) (pa_cons (pe_ty (by rfl) B.tuple bi_tuple) pa_nil))))) (pw_or (pt_cmpR op_lt (pe_callB call_len_seq (by rfl) B.len PySem.boot_len (pa_cons (pv 0) pa_nil)) pe_int (nomark _)) (pw_or (pt_not (pt_val (pe_callB call_isi (by rfl) B.isi bi_isi (pa_cons (pe_ix ix_tup (pv 0) pe_int (fun _ _ => rfl)) (pa_cons (pe_ty (by rfl) B.str bi_str) pa_nil))))) (pw_or1 (pt_not (pt_val (pe_dn DIsPlace hr (by omega) (by rfl) (pa_cons (pe_ix ix_tup (pv 0) pe_int (fun _ _ => rfl)) pa_nil)))))))))
   (pss_one (ps_ret pe_bl))
   pss_nil)
   (pss_cons (ps_asg (pv 0) (pg_star rfl (pgz_cons (pg_name (i := 1) scIsNode.nd rfl (.inl rfl)) (pgz_cons (pg_name (i := 2) scIsNode.nd rfl (.inl rfl)) (pgz_star (pg_name (i := 3) scIsNode.nd rfl (.inl rfl)))))))
   (pss_cons (ps_if (pt_cmpR op_eq (pv 1) pe_str (nomark _))
   (pss_one (ps_ret (pe_and (pe_cmpR op_eq (pe_callB call_len_seq (by rfl) B.len PySem.boot_len (pa_cons (pv 3) pa_nil)) pe_int (nomark _)) (pe_one (pe_dn DIsWithin hr (by omega) (by rfl) (pa_cons (pe_ix ix_list (pv 3) pe_int (fun _ _ => rfl)) (pa_cons pe_int (pa_cons (pe_glob (v := .int 999999999) (by rfl) M.num ⟨_, rfl⟩) pa_nil))))))))
   pss_nil)
   (pss_cons (ps_if (pt_cmpR op_eq (pv 1) pe_str (nomark _))
   (pss_one (ps_ret (pe_and (pe_cmpR op_eq (pe_callB call_len_seq (by rfl) B.len PySem.boot_len (pa_cons (pv 3) pa_nil)) pe_int (nomark _)) (pe_and (pe_dn DIsName hr (by omega) (by rfl) (pa_cons (pe_ix ix_list (pv 3) pe_int (fun _ _ => rfl)) pa_nil)) (pe_and (pe_callB call_isi (by rfl) B.isi bi_isi (pa_cons (pe_ix ix_list (pv 3) pe_int (fun _ _ => rfl)) (pa_cons (pe_ty (by rfl) B.tuple bi_tuple) pa_nil))) (pe_one (pe_cmpR op_le (pe_callB call_len_seq (by rfl) B.len PySem.boot_len (pa_cons (pe_ix ix_list (pv 3) pe_int (fun _ _ => rfl)) pa_nil)) (pe_glob (v := .int 4) (by rfl) M.parts ⟨_, rfl⟩) (nomark _))))))))
   pss_nil)
   (pss_cons (ps_if (pt_cmpR op_eq (pv 1) pe_str (nomark _))
   (pss_one (ps_ret (pe_and (pe_cmpR op_eq (pe_callB call_len_seq (by rfl) B.len PySem.boot_len (pa_cons (pv 3) pa_nil)) pe_int (nomark _)) (pe_and (pe_callB call_isi (by rfl) B.isi bi_isi (pa_cons (pe_ix ix_list (pv 3) pe_int (fun _ _ => rfl)) (pa_cons (pe_ty (by rfl) B.str bi_str) pa_nil))) (pe_one (pe_cmpR op_in_seq (pe_ix ix_list (pv 3) pe_int (fun _ _ => rfl)) (pe_glob (v := .ref oa) (by rfl) M.ops rfl) (by rfl)))))))
   pss_nil)
   (pss_cons (ps_if (pt_cmpR op_eq (pv 1) pe_str (nomark _))
   (pss_one (ps_ret (pe_and (pe_cmpR op_eq (pe_callB call_len_seq (by rfl) B.len PySem.boot_len (pa_cons (pv 3) pa_nil)) pe_int (nomark _)) (pe_one (pe_dn DIsName hr (by omega) (by rfl) (pa_cons (pe_ix ix_list (pv 3) pe_int (fun _ _ => rfl)) pa_nil))))))
   pss_nil)
   (pss_cons (ps_if (pt_cmpR op_eq (pv 1) pe_str (nomark _))
   (pss_one (ps_ret (pe_and (pe_cmpR op_eq (pe_callB call_len_seq (by rfl) B.len PySem.boot_len (pa_cons (pv 3) pa_nil)) pe_int (nomark _)) (pe_and (pe_dn DIsName hr (by omega) (by rfl) (pa_cons (pe_ix ix_list (pv 3) pe_int (fun _ _ => rfl)) pa_nil)) (pe_one (pe_dn DIsName hr (by omega) (by rfl) (pa_cons (pe_ix ix_list (pv 3) pe_int (fun _ _ => rfl)) pa_nil)))))))
   pss_nil)
   (pss_one (ps_ret (pe_or (pe_and (pe_cmpR op_eq (pv 1) pe_str (nomark _)) (pe_one (pe_cmpR (op_eqD hr.units) (pv 3) (pe_lst pa_nil) (nomark _)))) (pe_one (pe_and (pe_cmpR op_eq (pv 1) pe_str (nomark _)) (pe_one (pe_cmpR op_eq (pe_callB call_len_seq (by rfl) B.len PySem.boot_len (pa_cons (pv 3) pa_nil)) pe_int (nomark _))))))))))))))), ?_⟩
  refine ⟨_, rfl, _, _, _, _, _, rfl, .ty _, .base (.tup ha), kit_ty kit_tup_tup, _, rfl, iteF ?_⟩
  refine ⟨_, rfl, a, _, rfl, .inr (SqT.of ha), _, _, rfl, rfl, _, rfl, iteN (by show ¬ ((rest.length + 1 + 1 : Nat) : Int) < 2; omega) ?_⟩
  refine ⟨_, rfl, a, _, _, _, rfl, rfl, SqT.of ha, atI_nat (j := 0) rfl, _, _, _, _, _, rfl, .ty _, .base (.str _), kit_ty kit_str_str, _, rfl, iteF ?_⟩
  refine ⟨_, rfl, a, _, _, _, rfl, rfl, SqT.of ha, atI_nat (j := 1) rfl, y, p0, q0, rfl, hp, hpo, fun H1 s1 => ⟨_, rfl, iteF ?_⟩⟩
  have hp := hp.mono (KT.of s1)
  have hr2 := hr2.mono (KT.of s1)
  have ha := s1 _ _ ha
  refine ⟨_, rfl, a, _, rfl, SqT.of ha, (by show 2 ≤ rest.length + 1 + 1; omega), fun l nl => ⟨_, _, rfl, _, _, rfl, _, _, rfl, rfl, ?_⟩⟩
  have s2 := s1.trans (same_new (o := .lst rest) nl)
  have hl : upd H1 l (.lst rest) l = some (.lst rest) := upd_same
  have hr2 := hr2.mono (KT.of (same_new (o := .lst rest) nl))
  have fin : Q (.bl true) (upd H1 l (.lst rest)) := q _ s2
  cases d with
  | num n =>
    obtain ⟨_, rfl⟩ := hr2
    obtain ⟨h1, h2, _⟩ := hdo
    refine ⟨_, rfl, rfl, _, rfl, iteBT rfl ?_⟩
    refine ⟨_, rfl, l, _, rfl, .inl (SqL.of hl), rfl, _, rfl, iteT ?_⟩
    exact ⟨_, rfl, l, _, _, _, rfl, rfl, SqL.of hl, atI_nat (j := 0) rfl, n, 0, 999999999, rfl, h1, h2, fin⟩
  | use z =>
    obtain ⟨g, hg, rfl⟩ := hr2
    obtain ⟨g, rfl, hg⟩ := hg
    obtain ⟨h1, h2⟩ := hdo
    refine ⟨_, rfl, rfl, _, rfl, iteBF rfl ⟨_, rfl, rfl, _, rfl, iteBT rfl ?_⟩⟩
    refine ⟨_, rfl, l, _, rfl, .inl (SqL.of hl), rfl, _, rfl, iteT ?_⟩
    refine ⟨_, rfl, l, _, _, _, rfl, rfl, SqL.of hl, atI_nat (j := 0) rfl, z, rfl, h1, fun H3 s3 => ?_⟩
    have hl := s3 _ _ hl
    have hg := s3 _ _ hg
    have fin : Q (.bl true) H3 := q _ (s2.trans s3)
    refine ⟨_, rfl, iteT ?_⟩
    refine ⟨_, rfl, l, _, _, _, rfl, rfl, SqL.of hl, atI_nat (j := 1) rfl, _, _, _, _, _, rfl, .ty _, .base (.tup hg), kit_ty kit_tup_tup, _, rfl, iteT ?_⟩
    refine ⟨_, rfl, l, _, _, _, rfl, rfl, SqL.of hl, atI_nat (j := 1) rfl, g, _, rfl, .inr (SqT.of hg), _, _, rfl, rfl, ?_⟩
    exact qD (Q := Q) (by show ((cs.length : Nat) : Int) ≤ 4; omega) fin
  | op s =>
    obtain ⟨x, y, _, rfl⟩ := hr2
    obtain ⟨h1, h2⟩ := hdo
    refine ⟨_, rfl, rfl, _, rfl, iteBF rfl ⟨_, rfl, rfl, _, rfl, iteBF rfl ⟨_, rfl, rfl, _, rfl, iteBT rfl ?_⟩⟩⟩
    refine ⟨_, rfl, l, _, rfl, .inl (SqL.of hl), rfl, _, rfl, iteT ?_⟩
    refine ⟨_, rfl, l, _, _, _, rfl, rfl, SqL.of hl, atI_nat (j := 0) rfl, _, _, _, _, _, rfl, .ty _, .base (.str _), kit_ty kit_str_str, _, rfl, iteT ?_⟩
    refine ⟨_, rfl, l, _, _, _, rfl, rfl, SqL.of hl, atI_nat (j := 0) rfl, oa, _, rfl, .inr (M.opsT _), rfl, flat_str _, ?_⟩
    refine qB (Q := Q) ?_ fin
    rw [inV_str]
    exact decide_eq_true h1
  | lt z =>
    obtain ⟨x, y, _, rfl⟩ := hr2
    obtain ⟨h1, h2⟩ := hdo
    refine ⟨_, rfl, rfl, _, rfl, iteBF rfl ⟨_, rfl, rfl, _, rfl, iteBF rfl ⟨_, rfl, rfl, _, rfl, iteBF rfl ⟨_, rfl, rfl, _, rfl, iteBT rfl ?_⟩⟩⟩⟩
    refine ⟨_, rfl, l, _, rfl, .inl (SqL.of hl), rfl, _, rfl, iteT ?_⟩
    exact ⟨_, rfl, l, _, _, _, rfl, rfl, SqL.of hl, atI_nat (j := 0) rfl, z, rfl, h1, fun H3 s3 => q _ (s2.trans s3)⟩
  | cs a b =>
    obtain ⟨x, y, n, _, rfl⟩ := hr2
    obtain ⟨h1, h2, h3⟩ := hdo
    refine ⟨_, rfl, rfl, _, rfl, iteBF rfl ⟨_, rfl, rfl, _, rfl, iteBF rfl ⟨_, rfl, rfl, _, rfl, iteBF rfl ⟨_, rfl, rfl, _, rfl, iteBF rfl ⟨_, rfl, rfl, _, rfl, iteBT rfl ?_⟩⟩⟩⟩⟩
    refine ⟨_, rfl, l, _, rfl, .inl (SqL.of hl), rfl, _, rfl, iteT ?_⟩
    refine ⟨_, rfl, l, _, _, _, rfl, rfl, SqL.of hl, atI_nat (j := 2) rfl, a, rfl, h1, fun H3 s3 => ?_⟩
    refine ⟨_, rfl, iteT ?_⟩
    exact ⟨_, rfl, l, _, _, _, rfl, rfl, SqL.of (s3 _ _ hl), atI_nat (j := 3) rfl, b, rfl, h2, fun H4 s4 => q _ ((s2.trans s3).trans s4)⟩
  | nil =>
    obtain ⟨_, rfl⟩ := hr2
    refine ⟨_, rfl, rfl, _, rfl, iteBF rfl ⟨_, rfl, rfl, _, rfl, iteBF rfl ⟨_, rfl, rfl, _, rfl, iteBF rfl ⟨_, rfl, rfl, _, rfl, iteBF rfl ⟨_, rfl, rfl, _, rfl, iteBF rfl ?_⟩⟩⟩⟩⟩
    refine ⟨_, rfl, rfl, _, rfl, iteT ⟨_, rfl, (line9 (by show 0 ≤ 1000; decide)), fun m nm => ?_⟩⟩
    have hl2 := same_new (o := .lst []) nm _ _ hl
    refine ⟨.list [], .list [], .lst (SqL.of hl2) .nil, .lst (SqL.of upd_same) .nil, rfl, rfl, _, rfl, iteT ?_⟩
    exact q _ (s2.trans (same_new nm))
  | ite =>
    obtain ⟨x, y, n, _, rfl⟩ := hr2
    refine ⟨_, rfl, rfl, _, rfl, iteBF rfl ⟨_, rfl, rfl, _, rfl, iteBF rfl ⟨_, rfl, rfl, _, rfl, iteBF rfl ⟨_, rfl, rfl, _, rfl, iteBF rfl ⟨_, rfl, rfl, _, rfl, iteBF rfl ?_⟩⟩⟩⟩⟩
    refine ⟨_, rfl, rfl, _, rfl, iteF ⟨_, rfl, iteF ?_⟩⟩
    refine ⟨_, rfl, rfl, _, rfl, iteT ?_⟩
    exact ⟨_, rfl, l, _, rfl, .inl (SqL.of hl), rfl, fin⟩
def spSubtrees : Sp := fun vs H Q _ => ∃ (v : V) (d : Nd) (pv : V) (cs : List V), vs = [v] ∧ NdAt H d pv cs v ∧ ∀ l H', Same H H' → H l = none → H' l = some (.lst cs) → Q (.ref l) H'
theorem dn_subtrees (A : At K mg "subtrees" sSubtrees ["tree"]) (B : Bt mg) : Dn P w K mg base "subtrees" 1 ["tree"] spSubtrees := by
  refine A.dn fun f fd F => F.ok scSubtrees (fun vs H Q E h => ?_) (fun cdv A outer s H vs Q E hr h => ?_)
  · obtain ⟨v, d, y, cs, rfl, _⟩ := h
    rfl
  obtain ⟨v, d, y, cs, rfl, hd, q⟩ := h
  obtain ⟨a, rest, rfl, ha, hr2⟩ := hd.row
  refine ⟨_, (pss_cons (ps_set (i := 1) scSubtrees.nd rfl (.inl rfl) (pe_ix ix_tup (pv 0) pe_int (fun _ _ => rfl)))
   (pss_cons (ps_if (pt_cmpR op_eq (pv 1) pe_str (nomark _))
   (pss_one (ps_ret (pe_callTy call_list_of (by rfl) B.list bi_list (pa_cons (pe_ix ix_tup (pv 0) pe_int (fun _ _ => rfl)) pa_nil))))
   pss_nil)
   (pss_cons (ps_if (pt_cmpR op_in_seq (pv 1) (pe_tup (pa_cons pe_str (pa_cons pe_str pa_nil))) (by rfl))
   (pss_one (ps_ret (pe_callTy call_list_of (by rfl) B.list bi_list (pa_cons (pe_slice sl_tupA (pv 0) (po_some pe_int) (po_some pe_int)) pa_nil))))
   pss_nil)
   (pss_cons (ps_if (pt_cmpR op_eq (pv 1) pe_str (nomark _))
   (pss_one (ps_ret (pe_callTy call_list_of (by rfl) B.list bi_list (pa_cons (pe_slice sl_tupA (pv 0) (po_some pe_int) (po_some pe_int)) pa_nil))))
   pss_nil)
   (pss_cons (ps_if (pt_cmpR op_eq (pv 1) pe_str (nomark _))
   (pss_one (ps_ret (pe_lst (pa_cons (pe_ix ix_tup (pv 0) pe_int (fun _ _ => rfl)) (pa_cons (pe_ix ix_tup (pv 0) pe_int (fun _ _ => rfl)) (pa_cons (pe_ix ix_tup (pv 0) pe_int (fun _ _ => rfl)) pa_nil))))))
   pss_nil)
   (pss_one (ps_ret (pe_lst pa_nil)))))))), ?_⟩
  refine ⟨_, rfl, a, _, _, _, rfl, rfl, SqT.of ha, atI_nat (j := 0) rfl, ?_⟩
  have two : ∀ (p : Addr), H p = none → Same H (upd H p (.tup [.str "op", .str "let"])) := fun p np => same_new np
  cases d with
  | use z =>
    obtain ⟨g, ⟨g, rfl, hg⟩, rfl⟩ := hr2
    refine ⟨_, rfl, rfl, _, rfl, iteBT rfl ?_⟩
    exact ⟨_, rfl, a, _, _, _, rfl, rfl, SqT.of ha, atI_nat (j := 3) rfl, g, _, rfl, .inr (SqT.of hg), fun l nl => q l _ (same_new nl) nl upd_same⟩
  | op s =>
    obtain ⟨x, y2, rfl, rfl⟩ := hr2
    refine ⟨_, rfl, rfl, _, rfl, iteBF rfl ⟨_, rfl, (line9 (by show 2 ≤ 1000; decide)), fun p np => ⟨p, _, rfl, .inr (SqT.of upd_same), rfl, flat_str ["op", "let"], _, rfl, iteBT rfl ?_⟩⟩⟩
    have s1 := two p np
    refine ⟨_, rfl, _, rfl, _, rfl, a, _, rfl, SqT.of (s1 _ _ ha), fun h => absurd h.1 (by show ¬ ((3 : Nat) = 0); decide), fun _ m nm => ?_⟩
    refine ⟨m, _, rfl, .inr (SqT.of upd_same), fun l nl => ?_⟩
    have s2 := s1.trans (same_new (o := .tup [x, y2]) nm)
    exact q l _ (s2.trans (same_new nl)) (s2.none nl) upd_same
  | lt z =>
    obtain ⟨x, y2, rfl, rfl⟩ := hr2
    refine ⟨_, rfl, rfl, _, rfl, iteBF rfl ⟨_, rfl, (line9 (by show 2 ≤ 1000; decide)), fun p np => ⟨p, _, rfl, .inr (SqT.of upd_same), rfl, flat_str ["op", "let"], _, rfl, iteBT rfl ?_⟩⟩⟩
    have s1 := two p np
    refine ⟨_, rfl, _, rfl, _, rfl, a, _, rfl, SqT.of (s1 _ _ ha), fun h => absurd h.1 (by show ¬ ((3 : Nat) = 0); decide), fun _ m nm => ?_⟩
    refine ⟨m, _, rfl, .inr (SqT.of upd_same), fun l nl => ?_⟩
    have s2 := s1.trans (same_new (o := .tup [x, y2]) nm)
    exact q l _ (s2.trans (same_new nl)) (s2.none nl) upd_same
  | ite =>
    obtain ⟨x, y2, y3, rfl, rfl⟩ := hr2
    refine ⟨_, rfl, rfl, _, rfl, iteBF rfl ⟨_, rfl, (line9 (by show 2 ≤ 1000; decide)), fun p np => ⟨p, _, rfl, .inr (SqT.of upd_same), rfl, flat_str ["op", "let"], _, rfl, iteBF rfl ?_⟩⟩⟩
    have s1 := two p np
    refine ⟨_, rfl, rfl, _, rfl, iteBT rfl ?_⟩
    refine ⟨_, rfl, _, rfl, _, rfl, a, _, rfl, SqT.of (s1 _ _ ha), fun h => absurd h.1 (by show ¬ ((2 : Nat) = 0); decide), fun _ m nm => ?_⟩
    refine ⟨m, _, rfl, .inr (SqT.of upd_same), fun l nl => ?_⟩
    have s2 := s1.trans (same_new (o := .tup [x, y2, y3]) nm)
    exact q l _ (s2.trans (same_new nl)) (s2.none nl) upd_same
  | cs h t =>
    obtain ⟨x, y2, y3, rfl, rfl⟩ := hr2
    refine ⟨_, rfl, rfl, _, rfl, iteBF rfl ⟨_, rfl, (line9 (by show 2 ≤ 1000; decide)), fun p np => ⟨p, _, rfl, .inr (SqT.of upd_same), rfl, flat_str ["op", "let"], _, rfl, iteBF rfl ?_⟩⟩⟩
    have s1 := two p np
    have ha1 := s1 _ _ ha
    refine ⟨_, rfl, rfl, _, rfl, iteBF rfl ⟨_, rfl, rfl, _, rfl, iteBT rfl ?_⟩⟩
    refine ⟨_, rfl, a, _, _, _, rfl, rfl, SqT.of ha1, atI_nat (j := 2) rfl, ?_⟩
    refine ⟨_, rfl, a, _, _, _, rfl, rfl, SqT.of ha1, atI_nat (j := 3) rfl, ?_⟩
    refine ⟨_, rfl, a, _, _, _, rfl, rfl, SqT.of ha1, atI_nat (j := 6) rfl, (line9 (by show 3 ≤ 1000; decide)), fun l nl => ?_⟩
    exact q l _ (s1.trans (same_new nl)) (s1.none nl) upd_same
  | num n =>
    obtain ⟨rfl, rfl⟩ := hr2
    refine ⟨_, rfl, rfl, _, rfl, iteBF rfl ⟨_, rfl, (line9 (by show 2 ≤ 1000; decide)), fun p np => ⟨p, _, rfl, .inr (SqT.of upd_same), rfl, flat_str ["op", "let"], _, rfl, iteBF rfl ?_⟩⟩⟩
    have s1 := two p np
    refine ⟨_, rfl, rfl, _, rfl, iteBF rfl ⟨_, rfl, rfl, _, rfl, iteBF rfl ⟨(line9 (by show 0 ≤ 1000; decide)), fun l nl => ?_⟩⟩⟩
    exact q l _ (s1.trans (same_new nl)) (s1.none nl) upd_same
  | nil =>
    obtain ⟨rfl, rfl⟩ := hr2
    refine ⟨_, rfl, rfl, _, rfl, iteBF rfl ⟨_, rfl, (line9 (by show 2 ≤ 1000; decide)), fun p np => ⟨p, _, rfl, .inr (SqT.of upd_same), rfl, flat_str ["op", "let"], _, rfl, iteBF rfl ?_⟩⟩⟩
    have s1 := two p np
    refine ⟨_, rfl, rfl, _, rfl, iteBF rfl ⟨_, rfl, rfl, _, rfl, iteBF rfl ⟨(line9 (by show 0 ≤ 1000; decide)), fun l nl => ?_⟩⟩⟩
    exact q l _ (s1.trans (same_new nl)) (s1.none nl) upd_same
def spIsTree (n : Nat) : Sp := fun vs H Q _ => ∃ (v : V) (t : T) (k : Int), vs = [v, .int k] ∧ TAt H t v ∧ TOk n t ∧ (n : Int) ≤ k ∧ k ≤ 100 ∧ ∀ H', Same H H' → Q (.bl true) H'
theorem dn_is_tree (A : At K mg "is_tree" sIsTree ["thing", "deep"]) (B : Bt mg) (DIsNode : Dn P w K mg base "is_node" 3 ["thing"] spIsNode) (DSubtrees : Dn P w K mg base "subtrees" 1 ["tree"] spSubtrees) :
    ∀ n, Dn P w K mg base "is_tree" (n + 4) ["thing", "deep"] (spIsTree n)
  | 0 => A.none fun vs H Q E h => by
    obtain ⟨v, t, k, _, _, ht, _⟩ := h
    exact ht
  | n + 1 => by
    have DIsTree := dn_is_tree A B DIsNode DSubtrees n
    refine A.dn fun f fd F => F.ok scIsTree (fun vs H Q E h => ?_) (fun cdv A outer s H vs Q E hr h => ?_)
    · obtain ⟨v, t, k, rfl, _⟩ := h
      rfl
    obtain ⟨v, t, k, rfl, ht, hk, h1, h2, q⟩ := h
    obtain ⟨d, p0, q0, ts⟩ := t
    rw [tat_mk] at ht
    obtain ⟨y, cs, hp, hd, hts⟩ := ht
    have hl := hts.len
    obtain ⟨g1, g2, g3⟩ := hk
    have h4 : cs.length ≤ 4 := by
      rw [hl]
      cases d with
      | num _ => have e : ts.length = 0 := g2.2.2; omega
      | nil => have e : ts.length = 0 := g2; omega
      | use _ => exact g2.2
      | op _ => have e : ts.length = 2 := g2.2; omega
      | ite => have e : ts.length = 3 := g2; omega
      | lt _ => have e : ts.length = 2 := g2.2; omega
      | cs _ _ => have e : ts.length = 3 := g2.2.2; omega
    rw [← hl] at g2
    refine ⟨_, (pss_one (ps_ret (pe_and (pe_cmpR op_gt (pv 1) pe_int (nomark _)) (pe_and (pe_dn DIsNode hr (by omega) (by rfl) (pa_cons (pv 0) pa_nil)) (pe_one (pe_callB (cr_all rfl) (by rfl) B.all bi_all (pa_cons (pe_lc (own := [("one", 2)]) (g := gName 2) (tt := tYes) rfl scIsTree.nd (pi_list (pe_dn DSubtrees hr (by omega) (by rfl) (pa_cons (pv 0) pa_nil))) (blkOk_by (N := nIsTree) (sc := defScope sIsTree) (by decide +kernel)) (fun _ _ _ _ _ => (pg_name (i := 2) scIsTree.nd rfl (.inl rfl))) (fun _ _ _ _ _ => pts_nil) (fun _ _ _ _ _ => (pe_dn DIsTree hr (by omega) (by rfl) (pa_cons (pv 2) (pa_cons (pe_op op_sub (pv 1) pe_int) pa_nil))))) pa_nil))))))), ?_⟩
    refine ⟨_, rfl, _, _, rfl, rfl, _, rfl, iteD (by omega) ?_⟩
    refine ⟨v, rfl, v, d, y, p0, q0, cs, rfl, hp, g1, hd, g2, fun H1 s1 => ⟨_, rfl, iteT ?_⟩⟩
    have hd := hd.mono (KT.of s1)
    have hts := TsAt.mono (KT.of s1) hts
    refine ⟨v, rfl, v, d, y, cs, rfl, hd, fun l H2 s2 nl hl2 => ⟨l, rfl, ⟨cs, SqL.of hl2⟩, fun D nD => all_true (walk_list (xs := cs)) (line9' (by omega)) nD (fun _ _ _ _ y => y.1) (fun H3 s3 => SqL.of (s3 _ _ hl2)) (fun i x H3 Q' hi s3 y k2 => ?_) fun H3 s3 hD => ?_⟩⟩
    · obtain ⟨_, hx⟩ := y
      obtain ⟨t, ht, hta⟩ := hts.get hx
      refine ⟨rfl, _, rfl, _, rfl, _, _, rfl, rfl, x, t, _, rfl, hta.mono (KT.of (s2.trans s3)), g3 t (List.mem_of_getElem? ht), ?_, ?_, fun H4 s4 => k2 _ s4⟩
      · omega
      · omega
    · refine ⟨D, _, rfl, SqL.of hD, ?_⟩
      rw [all_rep]
      exact q _ ((s1.trans s2).trans s3)
/-! ### programs -/
structure Df where
  p : Int
  q : Int
  nm : Str
  ps : List Str
  b : T
def DfAt (H : Hp) (v : V) (f : Df) : Prop := ∃ pv g bv, PlAt H pv f.p f.q ∧ Row H g (f.ps.map V.str) ∧ TAt H f.b bv ∧ Row H v [.str "def", pv, .str f.nm, g, bv]
theorem DfAt.mono {H H' : Hp} (k : KT H H') {v : V} {f : Df} (h : DfAt H v f) : DfAt H' v f := by
  obtain ⟨pv, g, bv, h1, h2, h3, h4⟩ := h
  exact ⟨pv, g, bv, h1.mono k, h2.mono k, h3.mono k, h4.mono k⟩
def DfOk (f : Df) : Prop := PlOk f.p f.q ∧ NameOk f.nm ∧ f.ps.length ≤ 4 ∧ (∀ z ∈ f.ps, NameOk z) ∧ TOk 10 f.b
def PrAt (H : Hp) (v : V) (fs : List Df) : Prop := ∃ vs, Row H v vs ∧ Paired (DfAt H) vs fs
theorem PrAt.mono {H H' : Hp} (k : KT H H') {v : V} {fs : List Df} (h : PrAt H v fs) : PrAt H' v fs := by
  obtain ⟨vs, h1, h2⟩ := h
  exact ⟨vs, h1.mono k, Paired.mapP h2 fun _ _ z => z.mono k⟩
def PrOk (fs : List Df) : Prop := fs.length ≤ 8 ∧ ∀ f ∈ fs, DfOk f
theorem paired_len {α : Type} {F : V → α → Prop} : ∀ {vs : List V} {as : List α}, Paired F vs as → vs.length = as.length
  | _, _, .nil => rfl
  | _, _, .cons _ r => congrArg (· + 1) (paired_len r)
theorem Paired.get {α : Type} {F : V → α → Prop} : ∀ {vs : List V} {as : List α} {i : Nat} {v : V}, Paired F vs as → vs[i]? = some v → ∃ a, as[i]? = some a ∧ F v a
  | _, _, i, v, .nil, e => by cases e
  | _, _, 0, v, .cons r1 _, e => by
    have e2 := Option.some.inj e
    rw [e2] at r1
    exact ⟨_, rfl, r1⟩
  | _, _, i + 1, v, .cons _ r2, e => Paired.get (i := i) r2 e
def spIsDef : Sp := fun vs H Q _ => ∃ (v : V) (f : Df), vs = [v] ∧ DfAt H v f ∧ DfOk f ∧ ∀ H', Same H H' → Q (.bl true) H'
theorem dn_is_def (A : At K mg "is_def" sIsDef ["thing"]) (B : Bt mg) (M : Mc K mg ka oa tl tn tp td te) (DIsName : Dn P w K mg base "is_name" 1 ["thing"] spIsName) (DIsPlace : Dn P w K mg base "is_place" 2 ["thing"] spIsPlace)
    (DIsTree : Dn P w K mg base "is_tree" 14 ["thing", "deep"] (spIsTree 10)) : Dn P w K mg base "is_def" 15 ["thing"] spIsDef := by
  refine A.dn fun f fd F => F.ok scIsDef (fun vs H Q E h => ?_) (fun cdv A outer s H vs Q E hr h => ?_)
  · obtain ⟨v, f, rfl, _⟩ := h
    rfl
  obtain ⟨v, f, rfl, hf, ⟨o1, o2, o3, o4, o5⟩, q⟩ := h
  obtain ⟨y, g, bv, hp, ⟨g, rfl, hg⟩, hb, a, rfl, ha⟩ := hf
  refine ⟨_, (pss_cons (ps_if (PW.pt (pw_or (pt_not (pt_val (pe_callB call_isi (by rfl) B.isi bi_isi (pa_cons (pv 0) (pa_cons (pe_ty (by rfl) B.tuple bi_tuple) pa_nil))))) (pw_or (pt_cmpR op_ne (pe_callB call_len_seq (by rfl) B.len PySem.boot_len (pa_cons (pv 0) pa_nil)) pe_int (nomark _)) (pw_or1 (pt_cmpR op_ne (pe_ix ix_tup (pv 0) pe_int (fun _ _ => rfl)) pe_str (nomark _))))))
   (pss_one (ps_ret pe_bl))
   pss_nil)
   (pss_cons (ps_asg (pv 0) (pg_tup rfl (pgs_cons (pg_name (i := 1) scIsDef.nd rfl (.inl rfl)) (pgs_cons (pg_name (i := 2) scIsDef.nd rfl (.inl rfl)) (pgs_cons (pg_name (i := 3) scIsDef.nd rfl (.inl rfl)) (pgs_cons (pg_name (i := 4) scIsDef.nd rfl (.inl rfl)) (pgs_cons (pg_name (i := 5) scIsDef.nd rfl (.inl rfl)) pgs_nil)))))))
   (pss_cons (ps_if (PW.pt (pw_or (pt_not (pt_val (pe_dn DIsPlace hr (by omega) (by rfl) (pa_cons (pv 2) pa_nil)))) (pw_or (pt_not (pt_val (pe_dn DIsName hr (by omega) (by rfl) (pa_cons (pv 3) pa_nil)))) (pw_or (pt_not (pt_val (pe_callB call_isi (by rfl) B.isi bi_isi (pa_cons (pv 4) (pa_cons (pe_ty (by rfl) B.tuple bi_tuple) pa_nil))))) (pw_or1 (pt_cmpR op_gt (pe_callB call_len_seq (by rfl) B.len PySem.boot_len (pa_cons (pv 4) pa_nil)) (pe_glob (v := .int 4) (by rfl) M.parts ⟨_, rfl⟩) (nomark _)))))))
   (pss_one (ps_ret pe_bl))
   pss_nil)
   (pss_one (ps_ret (pe_and (pe_callB (cr_all rfl) (by rfl) B.all bi_all (pa_cons (pe_lc (own := [("param", 6)]) (g := gName 6) (tt := tYes) rfl scIsDef.nd (pi_tup (pv 4)) (blkOk_by (N := nIsDef) (sc := defScope sIsDef) (by decide +kernel)) (fun _ _ _ _ _ => (pg_name (i := 6) scIsDef.nd rfl (.inl rfl))) (fun _ _ _ _ _ => pts_nil) (fun _ _ _ _ _ => (pe_dn DIsName hr (by omega) (by rfl) (pa_cons (pv 6) pa_nil)))) pa_nil)) (pe_one (pe_dn DIsTree hr (by omega) (by rfl) (pa_cons (pv 5) (pa_cons (pe_glob (v := .int 10) (by rfl) M.deep ⟨_, rfl⟩) pa_nil)))))))))), ?_⟩
  refine ⟨_, rfl, _, _, _, _, _, rfl, .ty _, .base (.tup ha), kit_ty kit_tup_tup, _, rfl, iteF ?_⟩
  refine ⟨_, rfl, a, _, rfl, .inr (SqT.of ha), rfl, _, rfl, iteBF rfl ?_⟩
  refine ⟨_, rfl, a, _, _, _, rfl, rfl, SqT.of ha, atI_nat (j := 0) rfl, rfl, _, rfl, iteBF rfl ?_⟩
  refine ⟨_, rfl, a, _, rfl, SqT.of ha, rfl, _, _, rfl, _, _, rfl, _, _, rfl, _, _, rfl, _, _, rfl, rfl, ?_⟩
  refine ⟨_, rfl, y, _, _, rfl, hp, o1, fun H1 s1 => ⟨_, rfl, iteF ?_⟩⟩
  refine ⟨_, rfl, _, rfl, o2, fun H2 s2 => ⟨_, rfl, iteF ?_⟩⟩
  have s3 := s1.trans s2
  have hg2 := s3 _ _ hg
  refine ⟨_, rfl, _, _, _, _, _, rfl, .ty _, .base (.tup hg2), kit_ty kit_tup_tup, _, rfl, iteF ?_⟩
  refine ⟨_, rfl, g, _, rfl, .inr (SqT.of hg2), _, _, rfl, rfl, _, rfl, iteN (by rw [List.length_map]; omega) ?_⟩
  refine ⟨_, rfl, g, rfl, ⟨_, SqT.of hg2⟩, fun D nD => all_true (walk_tup (xs := f.ps.map V.str)) (line9' (by rw [List.length_map]; omega)) nD (fun _ _ _ _ y => y.1) (fun H3 s4 => SqT.of (s4 _ _ hg2)) (fun i x H3 Q' hi s4 y k2 => ?_) fun H3 s4 hD => ?_⟩
  · obtain ⟨_, hx⟩ := y
    rw [List.getElem?_map] at hx
    cases hz : f.ps[i]? with
    | none => rw [hz] at hx; cases hx
    | some z =>
      rw [hz] at hx
      have e : V.str z = x := Option.some.inj hx
      subst e
      exact ⟨rfl, _, rfl, z, rfl, o4 z (List.mem_of_getElem? hz), fun H4 s5 => k2 _ s5⟩
  · refine ⟨D, _, rfl, SqL.of hD, _, rfl, ?_⟩
    rw [all_rep]
    refine iteT ?_
    exact ⟨_, rfl, bv, f.b, 10, rfl, hb.mono (KT.of (s3.trans s4)), o5, by omega, by omega, fun H4 s5 => q _ ((s3.trans s4).trans s5)⟩
def spIsProgram : Sp := fun vs H Q _ => ∃ (v : V) (fs : List Df), vs = [v] ∧ PrAt H v fs ∧ PrOk fs ∧ ∀ H', Same H H' → Q (.bl true) H'
theorem dn_is_program (A : At K mg "is_program" sIsProgram ["thing"]) (B : Bt mg) (M : Mc K mg ka oa tl tn tp td te) (DIsDef : Dn P w K mg base "is_def" 15 ["thing"] spIsDef) : Dn P w K mg base "is_program" 16 ["thing"] spIsProgram := by
  refine A.dn fun f fd F => F.ok scIsProgram (fun vs H Q E h => ?_) (fun cdv A outer s H vs Q E hr h => ?_)
  · obtain ⟨v, fs, rfl, _⟩ := h
    rfl
  obtain ⟨v, fs, rfl, ⟨ys, ⟨a, rfl, ha⟩, hfs⟩, ⟨o1, o2⟩, q⟩ := h
  have hl := paired_len hfs
  refine ⟨_, (pss_one (ps_ret (pe_and (pe_callB call_isi (by rfl) B.isi bi_isi (pa_cons (pv 0) (pa_cons (pe_ty (by rfl) B.tuple bi_tuple) pa_nil))) (pe_and (pe_cmpR op_le (pe_callB call_len_seq (by rfl) B.len PySem.boot_len (pa_cons (pv 0) pa_nil)) (pe_glob (v := .int 8) (by rfl) M.defs ⟨_, rfl⟩) (nomark _)) (pe_one (pe_callB (cr_all rfl) (by rfl) B.all bi_all (pa_cons (pe_lc (own := [("one", 1)]) (g := gName 1) (tt := tYes) rfl scIsProgram.nd (pi_tup (pv 0)) (blkOk_by (N := nIsProgram) (sc := defScope sIsProgram) (by decide +kernel)) (fun _ _ _ _ _ => (pg_name (i := 1) scIsProgram.nd rfl (.inl rfl))) (fun _ _ _ _ _ => pts_nil) (fun _ _ _ _ _ => (pe_dn DIsDef hr (by omega) (by rfl) (pa_cons (pv 1) pa_nil)))) pa_nil))))))), ?_⟩
  refine ⟨_, rfl, _, _, _, _, _, rfl, .ty _, .base (.tup ha), kit_ty kit_tup_tup, _, rfl, iteT ?_⟩
  refine ⟨_, rfl, a, _, rfl, .inr (SqT.of ha), _, _, rfl, rfl, _, rfl, iteD (by omega) ?_⟩
  refine ⟨_, rfl, a, rfl, ⟨_, SqT.of ha⟩, fun D nD => all_true (walk_tup (xs := ys)) (line9' (by omega)) nD (fun _ _ _ _ y => y.1) (fun H3 s4 => SqT.of (s4 _ _ ha)) (fun i x H3 Q' hi s4 y k2 => ?_) fun H3 s4 hD => ?_⟩
  · obtain ⟨_, hx⟩ := y
    obtain ⟨z, hz, hf⟩ := Paired.get hfs hx
    exact ⟨rfl, _, rfl, x, z, rfl, hf.mono (KT.of s4), o2 z (List.mem_of_getElem? hz), fun H4 s5 => k2 _ s5⟩
  · refine ⟨D, _, rfl, SqL.of hD, ?_⟩
    rw [all_rep]
    exact q _ s4
def spNeedProgram : Sp := fun vs H Q _ => ∃ (v : V) (fs : List Df), vs = [v] ∧ PrAt H v fs ∧ PrOk fs ∧ ∀ H', Same H H' → Q .non H'
theorem dn_need_program (A : At K mg "need_program" sNeedProgram ["thing"]) (DIsProgram : Dn P w K mg base "is_program" 16 ["thing"] spIsProgram) : Dn P w K mg base "need_program" 17 ["thing"] spNeedProgram := by
  refine A.dn fun f fd F => F.ok scNeedProgram (fun vs H Q E h => ?_) (fun cdv A outer s H vs Q E hr h => ?_)
  · obtain ⟨v, fs, rfl, _⟩ := h
    rfl
  obtain ⟨v, fs, rfl, h1, h2, q⟩ := h
  refine ⟨_, (pss_one (ps_if (pt_not (pt_val (pe_dn DIsProgram hr (by omega) (by rfl) (pa_cons (pv 0) pa_nil))))
   (pss_one ps_never)
   pss_nil)), ?_⟩
  exact ⟨v, rfl, v, fs, rfl, h1, h2, fun H1 s1 => ⟨_, rfl, iteF (q _ s1)⟩⟩
end
end Tp
set_option Elab.async false
set_option linter.all false
set_option maxRecDepth 100000
set_option maxHeartbeats 4000000
/-! The looks: the walks. -/
namespace Tp
open PySem L2
abbrev sScoped : Stmt := topS 21
abbrev nScoped : List Str := ["tree", "near", "one"]
theorem scScoped : FnScope nScoped ["tree", "near"] (defScope sScoped) := ⟨rfl, rfl, rfl, by decide +kernel, rfl, by decide +kernel, by decide +kernel⟩
abbrev sUseFaults : Stmt := topS 23
abbrev nUseFaults : List Str := ["tree", "near", "table", "name", "args", "due"]
theorem scUseFaults : FnScope nUseFaults ["tree", "near", "table"] (defScope sUseFaults) := ⟨rfl, rfl, rfl, by decide +kernel, rfl, by decide +kernel, by decide +kernel⟩
abbrev sTreeFaults : Stmt := topS 24
abbrev nTreeFaults : List Str := ["tree", "near", "table", "found", "one", "names"]
theorem scTreeFaults : FnScope nTreeFaults ["tree", "near", "table"] (defScope sTreeFaults) := ⟨rfl, rfl, rfl, by decide +kernel, rfl, by decide +kernel, by decide +kernel⟩
/-- the table of the defs -/
def TbAt (H : Hp) (D : Addr) (tab : Str → Option Nat) : Prop := ∃ kvs, H D = some (.dK kvs) ∧ ∀ z, valV kvs (.inr z) = (tab z).map fun (n : Nat) => V.int (n : Int)
def FlAt (H : Hp) (u : V) (f : Flt) : Prop := ∃ pv, PlAt H pv f.p f.q ∧ Row H u [pv, .str f.word, .str f.name]
theorem FlAt.mono {H H' : Hp} (k : KT H H') {u : V} {f : Flt} (h : FlAt H u f) : FlAt H' u f := by
  obtain ⟨pv, h1, h2⟩ := h
  exact ⟨pv, h1.mono k, h2.mono k⟩
def FlsAt (H : Hp) (us : List V) (fs : List Flt) : Prop := Paired (FlAt H) us fs
theorem FlsAt.mono {H H' : Hp} (k : KT H H') {us : List V} {fs : List Flt} (h : FlsAt H us fs) : FlsAt H' us fs := Paired.mapP h fun _ _ z => z.mono k
theorem paired_app {β α : Type} {F : β → α → Prop} : ∀ {us vs : List β} {as bs : List α}, Paired F us as → Paired F vs bs → Paired F (us ++ vs) (as ++ bs)
  | _, _, _, _, .nil, h => h
  | _, _, _, _, .cons r t, h => .cons r (paired_app t h)
theorem ndW_let {d : Nd} (h : ndW d = "let") : ∃ z, d = .lt z := by
  cases d with
  | num n => exact absurd (show ("num" : Str) = "let" from h) (by decide)
  | nil => exact absurd (show ("nil" : Str) = "let" from h) (by decide)
  | use z => exact absurd (show ("use" : Str) = "let" from h) (by decide)
  | op z => exact absurd (show ("op" : Str) = "let" from h) (by decide)
  | ite => exact absurd (show ("if" : Str) = "let" from h) (by decide)
  | lt z => exact ⟨z, rfl⟩
  | cs a b => exact absurd (show ("case" : Str) = "let" from h) (by decide)
theorem ndW_case {d : Nd} (h : ndW d = "case") : ∃ a b, d = .cs a b := by
  cases d with
  | num n => exact absurd (show ("num" : Str) = "case" from h) (by decide)
  | nil => exact absurd (show ("nil" : Str) = "case" from h) (by decide)
  | use z => exact absurd (show ("use" : Str) = "case" from h) (by decide)
  | op z => exact absurd (show ("op" : Str) = "case" from h) (by decide)
  | ite => exact absurd (show ("if" : Str) = "case" from h) (by decide)
  | lt z => exact absurd (show ("let" : Str) = "case" from h) (by decide)
  | cs a b => exact ⟨a, b, rfl⟩
theorem ndW_use {d : Nd} (h : ndW d = "use") : ∃ z, d = .use z := by
  cases d with
  | num n => exact absurd (show ("num" : Str) = "use" from h) (by decide)
  | nil => exact absurd (show ("nil" : Str) = "use" from h) (by decide)
  | use z => exact ⟨z, rfl⟩
  | op z => exact absurd (show ("op" : Str) = "use" from h) (by decide)
  | ite => exact absurd (show ("if" : Str) = "use" from h) (by decide)
  | lt z => exact absurd (show ("let" : Str) = "use" from h) (by decide)
  | cs a b => exact absurd (show ("case" : Str) = "use" from h) (by decide)
theorem beqN {a b : Str} (h : a ≠ b) : (a == b) = false := beq_eq_false_iff_ne.mpr h
section
variable {P : Program} {w : World} {K : PySem.W.Frag} {mg : Str → Option Value} {base : Heap} {ka oa : Addr} {tl tn tp td te : Tok}
/-- the trees within, each with the locals it sees -/
def ScAt (H : Hp) (d : Nd) (near : List Str) (cs us : List V) : Prop := us.length = cs.length ∧ ∀ i u, us[i]? = some u → ∃ c nv, cs[i]? = some c ∧ Row H u [c, nv] ∧ Row H nv ((nearOf d near i).map V.str)
def spScoped : Sp := fun vs H Q _ => ∃ (v nv : V) (d : Nd) (y : V) (cs : List V) (near : List Str), vs = [v, nv] ∧ NdAt H d y cs v ∧ cs.length ≤ 4 ∧ Row H nv (near.map V.str) ∧ near.length ≤ 100 ∧
  ∀ l us H', Same H H' → H l = none → H' l = some (.lst us) → ScAt H' d near cs us → Q (.ref l) H'
theorem dn_scoped (A : At K mg "scoped" sScoped ["tree", "near"]) (B : Bt mg) (DSubtrees : Dn P w K mg base "subtrees" 1 ["tree"] spSubtrees) : Dn P w K mg base "scoped" 2 ["tree", "near"] spScoped := by
  refine A.dn fun f fd F => F.ok scScoped (fun vs H Q E h => ?_) (fun cdv A outer s H vs Q E hr h => ?_)
  · obtain ⟨v, nv, d, y, cs, near, rfl, _⟩ := h
    rfl
  obtain ⟨v, nv, d, y, cs, near, rfl, hd, h4, hn, hnl, q⟩ := h
  obtain ⟨a, rest, rfl, ha, hr2⟩ := hd.row
  obtain ⟨n, rfl, hn⟩ := hn
  refine ⟨_, (pss_cons (ps_if (pt_cmpR op_eq (pe_ix ix_tup (pv 0) pe_int (fun _ _ => rfl)) pe_str (nomark _))
   (pss_one (ps_ret (pe_lst (pa_cons (pe_tup (pa_cons (pe_ix ix_tup (pv 0) pe_int (fun _ _ => rfl)) (pa_cons (pv 1) pa_nil))) (pa_cons (pe_tup (pa_cons (pe_ix ix_tup (pv 0) pe_int (fun _ _ => rfl)) (pa_cons (pe_op op_catA (pv 1) (pe_tup (pa_cons (pe_ix ix_tup (pv 0) pe_int (fun _ _ => rfl)) pa_nil))) pa_nil))) pa_nil)))))
   pss_nil)
   (pss_cons (ps_if (pt_cmpR op_eq (pe_ix ix_tup (pv 0) pe_int (fun _ _ => rfl)) pe_str (nomark _))
   (pss_one (ps_ret (pe_lst (pa_cons (pe_tup (pa_cons (pe_ix ix_tup (pv 0) pe_int (fun _ _ => rfl)) (pa_cons (pv 1) pa_nil))) (pa_cons (pe_tup (pa_cons (pe_ix ix_tup (pv 0) pe_int (fun _ _ => rfl)) (pa_cons (pv 1) pa_nil))) (pa_cons (pe_tup (pa_cons (pe_ix ix_tup (pv 0) pe_int (fun _ _ => rfl)) (pa_cons (pe_op op_catA (pv 1) (pe_tup (pa_cons (pe_ix ix_tup (pv 0) pe_int (fun _ _ => rfl)) (pa_cons (pe_ix ix_tup (pv 0) pe_int (fun _ _ => rfl)) pa_nil)))) pa_nil))) pa_nil))))))
   pss_nil)
   (pss_one (ps_ret (pe_lc (own := [("one", 2)]) (g := gName 2) (tt := tYes) rfl scScoped.nd (pi_list (pe_dn DSubtrees hr (by omega) (by rfl) (pa_cons (pv 0) pa_nil))) (blkOk_by (N := nScoped) (sc := defScope sScoped) (by decide +kernel)) (fun _ _ _ _ _ => (pg_name (i := 2) scScoped.nd rfl (.inl rfl))) (fun _ _ _ _ _ => pts_nil) (fun _ _ _ _ _ => (pe_tup (pa_cons (pv 2) (pa_cons (pv 1) pa_nil))))))))), ?_⟩
  refine ⟨_, rfl, a, _, _, _, rfl, rfl, SqT.of ha, atI_nat (j := 0) rfl, rfl, _, rfl, ?_⟩
  have hnl2 : (near.map V.str).length = near.length := List.length_map ..
  by_cases hl : ∃ z, d = .lt z
  · obtain ⟨z, rfl⟩ := hl
    obtain ⟨x1, x2, rfl, rfl⟩ := hr2
    refine iteBT rfl ?_
    refine ⟨_, rfl, a, _, _, _, rfl, rfl, SqT.of ha, atI_nat (j := 3) rfl, _, rfl, (line9 (by show 2 ≤ 1000; decide)), fun p1 n1 => ?_⟩
    have s1 := same_new (o := .tup [x1, .ref n]) n1
    have ha1 := s1 _ _ ha
    refine ⟨_, rfl, a, _, _, _, rfl, rfl, SqT.of ha1, atI_nat (j := 4) rfl, _, rfl, _, rfl, a, _, _, _, rfl, rfl, SqT.of ha1, atI_nat (j := 2) rfl, (line9 (by show 1 ≤ 1000; decide)), fun p2 n2 => ?_⟩
    have s2 := s1.trans (same_new (o := .tup [.str z]) n2)
    have hn2 := s2 _ _ hn
    have t1 : upd (upd H p1 (.tup [x1, .ref n])) p2 (.tup [.str z]) p1 = some (.tup [x1, .ref n]) := same_new n2 _ _ upd_same
    have t2 : upd (upd H p1 (.tup [x1, .ref n])) p2 (.tup [.str z]) p2 = some (.tup [.str z]) := upd_same
    generalize upd (upd H p1 (.tup [x1, .ref n])) p2 (.tup [.str z]) = H2 at *
    have fin : ∀ (b : Addr) (Hb : Hp), Same H2 Hb → Hb b = some (.tup ((near ++ [z]).map V.str)) → 2 ≤ sizeLine ∧ ∀ p3, Hb p3 = none → 2 ≤ sizeLine ∧ ∀ l, upd Hb p3 (.tup [x2, .ref b]) l = none → Q (.ref l) (upd (upd Hb p3 (.tup [x2, .ref b])) l (.lst [.ref p1, .ref p3])) := by
      intro b Hb sb hb
      refine ⟨line9 (by decide), fun p3 n3 => ⟨line9 (by decide), fun l nl => ?_⟩⟩
      have s4 := (s2.trans sb).trans (same_new (o := .tup [x2, .ref b]) n3)
      have s5 := s4.trans (same_new (o := .lst [.ref p1, .ref p3]) nl)
      refine q l _ _ s5 (s4.none nl) upd_same ⟨rfl, fun i u hu => ?_⟩
      match i, hu with
      | 0, hu =>
        obtain rfl := Option.some.inj hu
        exact ⟨x1, .ref n, rfl, ⟨p1, rfl, same_new nl _ _ (same_new n3 _ _ (sb _ _ t1))⟩, ⟨n, rfl, s5 _ _ hn⟩⟩
      | 1, hu =>
        obtain rfl := Option.some.inj hu
        exact ⟨x2, .ref b, rfl, ⟨p3, rfl, same_new nl _ _ upd_same⟩, ⟨b, rfl, same_new nl _ _ (same_new n3 _ _ hb)⟩⟩
    refine ⟨n, p2, _, _, rfl, rfl, SqT.of hn2, SqT.of t2, (line9 (by rw [hnl2]; show near.length + 1 ≤ 1000; omega)), fun e => ?_, fun _ e => (nomatch e), fun _ _ p3 n3 => ?_⟩
    · have e2 : near = [] := List.map_eq_nil_iff.mp e
      exact fin p2 _ (fun _ _ h => h) (by rw [e2]; exact t2)
    · exact fin p3 _ (same_new n3) (by rw [upd_same, List.map_append]; rfl)
  by_cases hc : ∃ h t, d = .cs h t
  · obtain ⟨h, t, rfl⟩ := hc
    obtain ⟨x1, x2, x3, rfl, rfl⟩ := hr2
    refine iteBF rfl ?_
    refine ⟨_, rfl, a, _, _, _, rfl, rfl, SqT.of ha, atI_nat (j := 0) rfl, rfl, _, rfl, iteBT rfl ?_⟩
    refine ⟨_, rfl, a, _, _, _, rfl, rfl, SqT.of ha, atI_nat (j := 2) rfl, _, rfl, (line9 (by show 2 ≤ 1000; decide)), fun p0 n0 => ?_⟩
    have s0 := same_new (o := .tup [x1, .ref n]) n0
    have ha0 := s0 _ _ ha
    refine ⟨_, rfl, a, _, _, _, rfl, rfl, SqT.of ha0, atI_nat (j := 3) rfl, _, rfl, (line9 (by show 2 ≤ 1000; decide)), fun p1 n1 => ?_⟩
    have s1 := s0.trans (same_new (o := .tup [x2, .ref n]) n1)
    have ha1 := s1 _ _ ha
    refine ⟨_, rfl, a, _, _, _, rfl, rfl, SqT.of ha1, atI_nat (j := 6) rfl, _, rfl, _, rfl, a, _, _, _, rfl, rfl, SqT.of ha1, atI_nat (j := 4) rfl, _, rfl, a, _, _, _, rfl, rfl, SqT.of ha1, atI_nat (j := 5) rfl, (line9 (by show 2 ≤ 1000; decide)), fun p2 n2 => ?_⟩
    have s2 := s1.trans (same_new (o := .tup [.str h, .str t]) n2)
    have hn2 := s2 _ _ hn
    have t0 : upd (upd (upd H p0 (.tup [x1, .ref n])) p1 (.tup [x2, .ref n])) p2 (.tup [.str h, .str t]) p0 = some (.tup [x1, .ref n]) := same_new n2 _ _ (same_new n1 _ _ upd_same)
    have t1 : upd (upd (upd H p0 (.tup [x1, .ref n])) p1 (.tup [x2, .ref n])) p2 (.tup [.str h, .str t]) p1 = some (.tup [x2, .ref n]) := same_new n2 _ _ upd_same
    have t2 : upd (upd (upd H p0 (.tup [x1, .ref n])) p1 (.tup [x2, .ref n])) p2 (.tup [.str h, .str t]) p2 = some (.tup [.str h, .str t]) := upd_same
    generalize upd (upd (upd H p0 (.tup [x1, .ref n])) p1 (.tup [x2, .ref n])) p2 (.tup [.str h, .str t]) = H2 at *
    have fin : ∀ (b : Addr) (Hb : Hp), Same H2 Hb → Hb b = some (.tup ((near ++ [h, t]).map V.str)) → 2 ≤ sizeLine ∧ ∀ p3, Hb p3 = none → 3 ≤ sizeLine ∧ ∀ l, upd Hb p3 (.tup [x3, .ref b]) l = none → Q (.ref l) (upd (upd Hb p3 (.tup [x3, .ref b])) l (.lst [.ref p0, .ref p1, .ref p3])) := by
      intro b Hb sb hb
      refine ⟨line9 (by decide), fun p3 n3 => ⟨line9 (by decide), fun l nl => ?_⟩⟩
      have s4 := (s2.trans sb).trans (same_new (o := .tup [x3, .ref b]) n3)
      have s5 := s4.trans (same_new (o := .lst [.ref p0, .ref p1, .ref p3]) nl)
      refine q l _ _ s5 (s4.none nl) upd_same ⟨rfl, fun i u hu => ?_⟩
      match i, hu with
      | 0, hu =>
        obtain rfl := Option.some.inj hu
        exact ⟨x1, .ref n, rfl, ⟨p0, rfl, same_new nl _ _ (same_new n3 _ _ (sb _ _ t0))⟩, ⟨n, rfl, s5 _ _ hn⟩⟩
      | 1, hu =>
        obtain rfl := Option.some.inj hu
        exact ⟨x2, .ref n, rfl, ⟨p1, rfl, same_new nl _ _ (same_new n3 _ _ (sb _ _ t1))⟩, ⟨n, rfl, s5 _ _ hn⟩⟩
      | 2, hu =>
        obtain rfl := Option.some.inj hu
        exact ⟨x3, .ref b, rfl, ⟨p3, rfl, same_new nl _ _ upd_same⟩, ⟨b, rfl, same_new nl _ _ (same_new n3 _ _ hb)⟩⟩
    refine ⟨n, p2, _, _, rfl, rfl, SqT.of hn2, SqT.of t2, (line9 (by rw [hnl2]; show near.length + 2 ≤ 1000; omega)), fun e => ?_, fun _ e => (nomatch e), fun _ _ p3 n3 => ?_⟩
    · have e2 : near = [] := List.map_eq_nil_iff.mp e
      exact fin p2 _ (fun _ _ h => h) (by rw [e2]; exact t2)
    · exact fin p3 _ (same_new n3) (by rw [upd_same, List.map_append]; rfl)
  have nw : ∀ i, nearOf d near i = near := fun i => by
    cases d with
    | lt z => exact absurd ⟨z, rfl⟩ hl
    | cs h t => exact absurd ⟨h, t, rfl⟩ hc
    | _ => rfl
  refine iteN (fun e => hl (ndW_let (V.str.inj e))) ?_
  refine ⟨_, rfl, a, _, _, _, rfl, rfl, SqT.of ha, atI_nat (j := 0) rfl, rfl, _, rfl, iteN (fun e => hc (ndW_case (V.str.inj e))) ?_⟩
  refine ⟨_, rfl, _, d, y, cs, rfl, hd, fun l H1 s1 nl hl1 => ⟨l, rfl, ⟨cs, SqL.of hl1⟩, fun D nD => ?_⟩⟩
  refine lc_it (walk_list (xs := cs)) (fun i H2 => Same H1 H2 ∧ ∃ acc, H2 D = some (.lst acc) ∧ acc.length = i ∧ ∀ j u, acc[j]? = some u → ∃ c, cs[j]? = some c ∧ Row H2 u [c, .ref n]) ⟨same_new nD, [], upd_same, rfl, fun (j : Nat) (u : V) (hu : ([] : List V)[j]? = some u) => by simp at hu⟩ (fun i H2 _ p => SqL.of (p.1 _ _ hl1)) (fun i x H2 H3 hi p y => ?_) fun H2 p => ?_
  · obtain ⟨rfl, hx⟩ := y
    obtain ⟨s2, acc, hacc, hlen, hall⟩ := p
    refine ⟨rfl, _, rfl, _, rfl, (line9 (by show 2 ≤ 1000; decide)), fun p np => ?_⟩
    have hacc' := same_new (o := .tup [x, .ref n]) np _ _ hacc
    refine ⟨acc, hacc', (line9' (by omega)), same_over (o := .lst []) nD (s2.trans (same_new np)), _, upd_same, by rw [List.length_append, hlen]; rfl, fun j u hu => ?_⟩
    have kk := kt_updL (o := .lst (acc ++ [.ref p])) hacc'
    by_cases hj : j < acc.length
    · rw [List.getElem?_append_left hj] at hu
      obtain ⟨c, h1, h2⟩ := hall j u hu
      exact ⟨c, h1, (h2.mono (KT.of (same_new np))).mono kk⟩
    · rw [List.getElem?_append_right (by omega)] at hu
      have hj0 : j = i := by
        cases hz : j - acc.length with
        | zero => omega
        | succ m => rw [hz] at hu; cases hu
      subst hj0
      rw [hlen, Nat.sub_self] at hu
      obtain rfl := Option.some.inj hu
      exact ⟨x, hx, ⟨p, rfl, kk _ _ upd_same⟩⟩
  · obtain ⟨s2, acc, hacc, hlen, hall⟩ := p
    refine q D acc H2 (s1.trans s2) (s1.none nD) hacc ⟨hlen, fun i u hu => ?_⟩
    obtain ⟨c, h1, h2⟩ := hall i u hu
    exact ⟨c, .ref n, h1, h2, by rw [nw i]; exact ⟨n, rfl, (s1.trans s2) _ _ hn⟩⟩
theorem TbAt.mono {H H' : Hp} (s : Same H H') {D : Addr} {tab : Str → Option Nat} (h : TbAt H D tab) : TbAt H' D tab := by
  obtain ⟨kvs, h1, h2⟩ := h
  exact ⟨kvs, s _ _ h1, h2⟩
def spUseFaults : Sp := fun vs H Q _ => ∃ (v nv : V) (D : Addr) (z : Str) (y : V) (p q : Int) (cs : List V) (near : List Str) (tab : Str → Option Nat), vs = [v, nv, .ref D] ∧ NdAt H (.use z) y cs v ∧ PlAt H y p q ∧ Row H nv (near.map V.str) ∧ TbAt H D tab ∧
  ∀ l us H', Same H H' → H l = none → H' l = some (.lst us) → FlsAt H' us (hdF tab (.use z) near p q cs.length) → Q (.ref l) H'
theorem dn_use_faults (A : At K mg "use_faults" sUseFaults ["tree", "near", "table"]) (B : Bt mg) : Dn P w K mg base "use_faults" 1 ["tree", "near", "table"] spUseFaults := by
  refine A.dn fun f fd F => F.ok scUseFaults (fun vs H Q E h => ?_) (fun cdv A outer s H vs Q E hr h => ?_)
  · obtain ⟨v, nv, D, z, y, p, q, cs, near, tab, rfl, _⟩ := h
    rfl
  obtain ⟨v, nv, D, z, y, p0, q0, cs, near, tab, rfl, hd, hp, ⟨n, rfl, hn⟩, ⟨kvs, hD, hkv⟩, q⟩ := h
  obtain ⟨g, ⟨g, rfl, hg⟩, a, rfl, ha⟩ := hd
  have ha : H a = some (.tup [.str "use", y, .str z, .ref g]) := ha
  have out0 : hdF tab (.use z) near p0 q0 cs.length = [] → ∀ l, H l = none → Q (.ref l) (upd H l (.lst [])) := fun e l nl => q l [] _ (same_new nl) nl upd_same (by rw [e]; exact .nil)
  have out1 : ∀ (wd : Str), hdF tab (.use z) near p0 q0 cs.length = [⟨p0, q0, wd, z⟩] → ∀ t, H t = none → ∀ l, upd H t (.tup [y, .str wd, .str z]) l = none → Q (.ref l) (upd (upd H t (.tup [y, .str wd, .str z])) l (.lst [.ref t])) := fun wd e t nt l nl => by
    have s1 := same_new (o := .tup [y, .str wd, .str z]) nt
    have s2 := s1.trans (same_new (o := .lst [.ref t]) nl)
    refine q l _ _ s2 (s1.none nl) upd_same ?_
    rw [e]
    exact .cons ⟨y, hp.mono (KT.of s2), t, rfl, same_new nl _ _ upd_same⟩ .nil
  refine ⟨_, (pss_cons (ps_par (i := 3) (j := 4) (by rfl) scUseFaults.nd rfl rfl (by decide) rfl rfl (pa_cons (pe_ix ix_tup (pv 0) pe_int (fun _ _ => rfl)) (pa_cons (pe_ix ix_tup (pv 0) pe_int (fun _ _ => rfl)) pa_nil)) (by rfl))
   (pss_cons (ps_if (PW.pt (pw_and (pt_cmpR op_notIn_seq (pv 3) (pv 1) (by rfl)) (pw_and1 (pt_cmp (pc_dnotin (hu1 hr) (pv 3) (pv 2))))))
   (pss_one (ps_ret (pe_lst (pa_cons (pe_tup (pa_cons (pe_ix ix_tup (pv 0) pe_int (fun _ _ => rfl)) (pa_cons pe_str (pa_cons (pv 3) pa_nil)))) pa_nil))))
   pss_nil)
   (pss_cons (ps_set (i := 5) scUseFaults.nd rfl (.inl rfl) (pe_ifExp (pt_cmpR op_in_seq (pv 3) (pv 1) (by rfl)) pe_int (pe_dget (hu1 hr) (pv 2) (pv 3) (fun _ _ => rfl))))
   (pss_one (ps_ret (pe_ifExp (pt_cmpR op_eq (pe_callB call_len_seq (by rfl) B.len PySem.boot_len (pa_cons (pv 4) pa_nil)) (pv 5) (nomark _)) (pe_lst pa_nil) (pe_lst (pa_cons (pe_tup (pa_cons (pe_ix ix_tup (pv 0) pe_int (fun _ _ => rfl)) (pa_cons pe_str (pa_cons (pv 3) pa_nil)))) pa_nil)))))))), ?_⟩
  refine ⟨_, rfl, a, _, _, _, rfl, rfl, SqT.of ha, atI_nat (j := 2) rfl, _, rfl, a, _, _, _, rfl, rfl, SqT.of ha, atI_nat (j := 3) rfl, _, _, rfl, ?_⟩
  by_cases hz : z ∈ near
  · have e1 : inV (.str z) (near.map V.str) = true := by rw [inV_str]; exact decide_eq_true hz
    refine ⟨_, rfl, _, rfl, n, _, rfl, .inr (SqT.of hn), rfl, flat_str _, _, rfl, iteBF (by show (!inV (.str z) (near.map V.str)) = false; rw [e1]; rfl) ?_⟩
    refine ⟨_, rfl, _, rfl, n, _, rfl, .inr (SqT.of hn), rfl, flat_str _, _, rfl, iteBT e1 ?_⟩
    by_cases hc : cs.length = 0
    · refine ⟨_, rfl, g, _, rfl, .inr (SqT.of hg), _, rfl, rfl, _, rfl, iteD (by rw [hc]; rfl) ⟨line9 (by decide), ?_⟩⟩
      exact out0 (by show (if z ∈ near then _ else _) = _; rw [if_pos hz, if_pos hc])
    · refine ⟨_, rfl, g, _, rfl, .inr (SqT.of hg), _, rfl, rfl, _, rfl, iteN (fun e => hc (by have := V.int.inj e; omega)) ?_⟩
      refine ⟨_, rfl, a, _, _, _, rfl, rfl, SqT.of ha, atI_nat (j := 1) rfl, _, rfl, line9 (by show 3 ≤ 1000; decide), fun t nt => ⟨line9 (by show 1 ≤ 1000; decide), ?_⟩⟩
      exact out1 "count" (by show (if z ∈ near then _ else _) = _; rw [if_pos hz, if_neg hc]) t nt
  · have e1 : inV (.str z) (near.map V.str) = false := by rw [inV_str]; exact decide_eq_false hz
    refine ⟨_, rfl, _, rfl, n, _, rfl, .inr (SqT.of hn), rfl, flat_str _, _, rfl, iteBT (by show (!inV (.str z) (near.map V.str)) = true; rw [e1]; rfl) ?_⟩
    refine ⟨_, rfl, _, rfl, D, _, rfl, .inl ⟨kvs, .inr z, .inl hD, rfl, (hkv z).symm⟩, _, rfl, ?_⟩
    cases ht : tab z with
    | none =>
      refine iteT ⟨_, rfl, a, _, _, _, rfl, rfl, SqT.of ha, atI_nat (j := 1) rfl, _, rfl, line9 (by show 3 ≤ 1000; decide), fun t nt => ⟨line9 (by show 1 ≤ 1000; decide), ?_⟩⟩
      exact out1 "unknown" (by show (if z ∈ near then _ else _) = _; rw [if_neg hz, ht]) t nt
    | some m =>
      refine iteF ?_
      refine ⟨_, rfl, _, rfl, n, _, rfl, .inr (SqT.of hn), rfl, flat_str _, _, rfl, iteBF e1 ?_⟩
      refine ⟨_, rfl, _, rfl, D, _, rfl, .inl ⟨kvs, .inr z, .inl hD, rfl, by rw [hkv z, ht]; rfl⟩, ?_⟩
      by_cases hc : cs.length = m
      · refine ⟨_, rfl, g, _, rfl, .inr (SqT.of hg), _, rfl, rfl, _, rfl, iteD (by rw [hc]) ⟨line9 (by decide), ?_⟩⟩
        exact out0 (by show (if z ∈ near then _ else _) = _; rw [if_neg hz, ht]; show (if _ then _ else _) = _; rw [if_pos hc])
      · refine ⟨_, rfl, g, _, rfl, .inr (SqT.of hg), _, rfl, rfl, _, rfl, iteN (fun e => hc (by have := V.int.inj e; omega)) ?_⟩
        refine ⟨_, rfl, a, _, _, _, rfl, rfl, SqT.of ha, atI_nat (j := 1) rfl, _, rfl, line9 (by show 3 ≤ 1000; decide), fun t nt => ⟨line9 (by show 1 ≤ 1000; decide), ?_⟩⟩
        exact out1 "count" (by show (if z ∈ near then _ else _) = _; rw [if_neg hz, ht]; show (if _ then _ else _) = _; rw [if_neg hc]) t nt
theorem hdF_len (tab : Str → Option Nat) (d : Nd) (near : List Str) (p q : Int) (n : Nat) : (hdF tab d near p q n).length ≤ 1 := by
  cases d with
  | use z =>
    show List.length (if z ∈ near then (if n = 0 then [] else [_]) else _) ≤ 1
    by_cases h : z ∈ near
    · rw [if_pos h]
      by_cases h2 : n = 0
      · rw [if_pos h2]; exact Nat.zero_le _
      · rw [if_neg h2]; exact Nat.le_refl _
    · rw [if_neg h]
      cases tab z with
      | none => exact Nat.le_refl _
      | some m =>
        show List.length (if n = m then [] else [_]) ≤ 1
        by_cases h2 : n = m
        · rw [if_pos h2]; exact Nat.zero_le _
        · rw [if_neg h2]; exact Nat.le_refl _
  | cs a b =>
    show List.length (if a = b then [_] else []) ≤ 1
    by_cases h2 : a = b
    · rw [if_pos h2]; exact Nat.le_refl _
    · rw [if_neg h2]; exact Nat.zero_le _
  | num _ => exact Nat.zero_le _
  | nil => exact Nat.zero_le _
  | op _ => exact Nat.zero_le _
  | ite => exact Nat.zero_le _
  | lt _ => exact Nat.zero_le _
mutual
theorem flt_len (tab : Str → Option Nat) : ∀ (t : T) (near : List Str), (flt tab t near).length ≤ cnt t
  | .mk d p q ts, near => by
    rw [flt_mk, cnt_mk, List.length_append]
    have a := hdF_len tab d near p q ts.length
    have b := fltL_len tab d near ts 0
    omega
theorem fltL_len (tab : Str → Option Nat) (d : Nd) (near : List Str) : ∀ (ts : List T) (i : Nat), (fltL tab d near ts i).length ≤ cntL ts
  | [], i => by rw [fltL_nil]; exact Nat.zero_le _
  | t :: ts, i => by
    rw [fltL_cons, cntL_cons, List.length_append]
    have a := flt_len tab t (nearOf d near i)
    have b := fltL_len tab d near ts (i + 1)
    omega
end
theorem fltL_snoc (tab : Str → Option Nat) (d : Nd) (near : List Str) (t : T) : ∀ (ts : List T) (i : Nat), fltL tab d near (ts ++ [t]) i = fltL tab d near ts i ++ flt tab t (nearOf d near (i + ts.length))
  | [], i => by
    rw [List.nil_append, fltL_cons, fltL_nil, fltL_nil, List.append_nil, List.nil_append]
    rfl
  | u :: ts, i => by
    rw [List.cons_append, fltL_cons, fltL_cons, fltL_snoc tab d near t ts (i + 1), List.append_assoc, List.length_cons, show i + 1 + ts.length = i + (ts.length + 1) by omega]
theorem NdOk.le {d : Nd} {n : Nat} (g2 : NdOk d n) : n ≤ 4 := by
  cases d with
  | num _ => have e : n = 0 := g2.2.2; omega
  | nil => have e : n = 0 := g2; omega
  | use _ => exact g2.2
  | op _ => have e : n = 2 := g2.2; omega
  | ite => have e : n = 3 := g2; omega
  | lt _ => have e : n = 2 := g2.2; omega
  | cs _ _ => have e : n = 3 := g2.2.2; omega
theorem near_len (d : Nd) (near : List Str) (i : Nat) : (nearOf d near i).length ≤ near.length + 2 := by
  cases d with
  | lt z =>
    show List.length (if i = 1 then near ++ [z] else near) ≤ _
    by_cases h : i = 1
    · rw [if_pos h, List.length_append]; exact Nat.add_le_add_left (show 1 ≤ 2 by decide) _
    · rw [if_neg h]; omega
  | cs a b =>
    show List.length (if i = 2 then near ++ [a, b] else near) ≤ _
    by_cases h : i = 2
    · rw [if_pos h, List.length_append]; exact Nat.le_refl _
    · rw [if_neg h]; omega
  | num _ => exact Nat.le_add_right _ _
  | nil => exact Nat.le_add_right _ _
  | op _ => exact Nat.le_add_right _ _
  | ite => exact Nat.le_add_right _ _
  | use _ => exact Nat.le_add_right _ _
theorem pow5 {n : Nat} (h : n ≤ 10) : 5 ^ n ≤ 9765625 := Nat.le_trans (Nat.pow_le_pow_right (by decide) h) (by decide)
def spTreeFaults (n : Nat) : Sp := fun vs H Q _ => ∃ (v nv : V) (D : Addr) (t : T) (near : List Str) (tab : Str → Option Nat), vs = [v, nv, .ref D] ∧ TAt H t v ∧ TOk n t ∧ n ≤ 10 ∧ Row H nv (near.map V.str) ∧ near.length + 2 * n ≤ 90 ∧ TbAt H D tab ∧
  ∀ l us H', Same H H' → H l = none → H' l = some (.lst us) → FlsAt H' us (flt tab t near) → Q (.ref l) H'
theorem dn_tree_faults (A : At K mg "tree_faults" sTreeFaults ["tree", "near", "table"]) (B : Bt mg) (DScoped : Dn P w K mg base "scoped" 2 ["tree", "near"] spScoped) (DUseFaults : Dn P w K mg base "use_faults" 1 ["tree", "near", "table"] spUseFaults) :
    ∀ n, Dn P w K mg base "tree_faults" (n + 3) ["tree", "near", "table"] (spTreeFaults n)
  | 0 => A.none fun vs H Q E h => by
    obtain ⟨v, nv, D, t, near, tab, _, _, ht, _⟩ := h
    exact ht
  | n + 1 => by
    have DTreeFaults := dn_tree_faults A B DScoped DUseFaults n
    refine A.dn fun f fd F => F.ok scTreeFaults (fun vs H Q E h => ?_) (fun cdv A outer s H vs Q E hr h => ?_)
    · obtain ⟨v, nv, D, t, near, tab, rfl, _⟩ := h
      rfl
    obtain ⟨v, nv, D, t, near, tab, rfl, ht, hk, h10, hn, hnl, hD, q⟩ := h
    have hc5 := Nat.le_trans (cnt_le hk) (pow5 h10)
    obtain ⟨d, p0, q0, ts⟩ := t
    rw [tat_mk] at ht
    obtain ⟨y, cs, hp, hd, hts⟩ := ht
    have hl := hts.len
    obtain ⟨g1, g2, g3⟩ := hk
    have h4 := g2.le
    have hcl : ∀ i, 1 + (fltL tab d near (ts.take i) 0).length ≤ 9765625 := fun i => by
      have a := fltL_len tab d near (ts.take i) 0
      have b : cntL (ts.take i) ≤ cntL ts := by
        have e := cntL_append (ts.take i) (ts.drop i)
        rw [List.take_append_drop] at e
        omega
      rw [cnt_mk] at hc5
      omega
    obtain ⟨a, rest, ea, ha, hr2⟩ := hd.row
    refine ⟨_, (pss_cons (ps_set (i := 3) scTreeFaults.nd rfl (.inl rfl) (pe_lst pa_nil))
     (pss_cons (ps_if (pt_cmpR op_eq (pe_ix ix_tup (pv 0) pe_int (fun _ _ => rfl)) pe_str (nomark _))
     (pss_one (ps_set (i := 3) scTreeFaults.nd rfl (.inl rfl) (pe_dn DUseFaults hr (by omega) (by rfl) (pa_cons (pv 0) (pa_cons (pv 1) (pa_cons (pv 2) pa_nil))))))
     (pss_one (ps_if (PW.pt (pw_and (pt_cmpR op_eq (pe_ix ix_tup (pv 0) pe_int (fun _ _ => rfl)) pe_str (nomark _)) (pw_and1 (pt_cmpR op_eq (pe_ix ix_tup (pv 0) pe_int (fun _ _ => rfl)) (pe_ix ix_tup (pv 0) pe_int (fun _ _ => rfl)) (nomark _)))))
     (pss_one (ps_set (i := 3) scTreeFaults.nd rfl (.inl rfl) (pe_lst (pa_cons (pe_tup (pa_cons (pe_ix ix_tup (pv 0) pe_int (fun _ _ => rfl)) (pa_cons pe_str (pa_cons (pe_ix ix_tup (pv 0) pe_int (fun _ _ => rfl)) pa_nil)))) pa_nil))))
     pss_nil)))
     (pss_cons (ps_for PassesOwn.never rfl (pi_list (pe_dn DScoped hr (by omega) (by rfl) (pa_cons (pv 0) (pa_cons (pv 1) pa_nil)))) (pg_tup rfl (pgs_cons (pg_name (i := 4) scTreeFaults.nd rfl (.inl rfl)) (pgs_cons (pg_name (i := 5) scTreeFaults.nd rfl (.inl rfl)) pgs_nil)))
     (pss_one (ps_set (i := 3) scTreeFaults.nd rfl (.inl rfl) (pe_op op_cat (pv 3) (pe_dn DTreeFaults hr (by omega) (by rfl) (pa_cons (pv 4) (pa_cons (pv 5) (pa_cons (pv 2) pa_nil))))))))
     (pss_one (ps_ret (pv 3)))))), ?_⟩
    refine ⟨line9 (by decide), fun l0 nl0 => ?_⟩
    have s0 := same_new (o := .lst []) nl0
    have ha0 := s0 _ _ ha
    subst ea
    dsimp only [gName]
    refine seq_join (fun σ H1 => ∃ l us, σ = [some (.ref a), some nv, some (.ref D), some (.ref l), none, none] ∧ Same H H1 ∧ H l = none ∧ H1 l = some (.lst us) ∧ FlsAt H1 us (hdF tab d near p0 q0 ts.length)) (fun C hC => ?_) ?_
    · refine ⟨_, rfl, a, _, _, _, rfl, rfl, SqT.of ha0, atI_nat (j := 0) rfl, rfl, _, rfl, ?_⟩
      by_cases hu : ∃ z, d = .use z
      · obtain ⟨z, rfl⟩ := hu
        refine iteBT rfl ?_
        refine ⟨_, rfl, _, rfl, _, rfl, .ref a, nv, D, z, y, p0, q0, cs, near, tab, rfl, hd.mono (KT.of s0), hp.mono (KT.of s0), hn.mono (KT.of s0), hD.mono s0, fun l us H' s1 nl hlu hf => ?_⟩
        refine hC _ _ ⟨l, us, rfl, s0.trans s1, s0.none nl, hlu, ?_⟩
        rw [← hl]
        exact hf
      refine iteN (fun e => hu (ndW_use (V.str.inj e))) ?_
      refine ⟨_, rfl, a, _, _, _, rfl, rfl, SqT.of ha0, atI_nat (j := 0) rfl, rfl, _, rfl, ?_⟩
      by_cases hc : ∃ x z, d = .cs x z
      · obtain ⟨x, z, rfl⟩ := hc
        obtain ⟨x1, x2, x3, ecs, rfl⟩ := hr2
        refine iteBT rfl ?_
        refine ⟨_, rfl, a, _, _, _, rfl, rfl, SqT.of ha0, atI_nat (j := 4) rfl, _, rfl, a, _, _, _, rfl, rfl, SqT.of ha0, atI_nat (j := 5) rfl, rfl, _, rfl, ?_⟩
        by_cases hxz : x = z
        · refine iteD (by rw [hxz]) ?_
          refine ⟨_, rfl, a, _, _, _, rfl, rfl, SqT.of ha0, atI_nat (j := 1) rfl, _, rfl, a, _, _, _, rfl, rfl, SqT.of ha0, atI_nat (j := 4) rfl, line9 (by show 3 ≤ 1000; decide), fun t nt => ⟨line9 (by show 1 ≤ 1000; decide), fun l nl => ?_⟩⟩
          have s1 := s0.trans (same_new (o := .tup [y, .str "twice", .str x]) nt)
          have s2 := s1.trans (same_new (o := .lst [.ref t]) nl)
          refine hC _ _ ⟨l, [.ref t], rfl, s2, s1.none nl, upd_same, ?_⟩
          show FlsAt _ _ (if x = z then [_] else [])
          rw [if_pos hxz]
          exact .cons ⟨y, hp.mono (KT.of s2), t, rfl, same_new nl _ _ upd_same⟩ .nil
        · refine iteN (fun e => hxz (V.str.inj e)) ?_
          refine hC _ _ ⟨l0, [], rfl, s0, nl0, upd_same, ?_⟩
          show FlsAt _ _ (if x = z then [_] else [])
          rw [if_neg hxz]
          exact .nil
      refine iteN (fun e => hc (ndW_case (V.str.inj e))) ?_
      refine iteF ?_
      refine hC _ _ ⟨l0, [], rfl, s0, nl0, upd_same, ?_⟩
      cases d with
      | use z => exact absurd ⟨z, rfl⟩ hu
      | cs x z => exact absurd ⟨x, z, rfl⟩ hc
      | _ => exact .nil
    · rintro σ H1 ⟨l1, us1, rfl, s1, nl1, hl1, hf1⟩
      refine ⟨_, rfl, _, rfl, .ref a, nv, d, y, cs, near, rfl, hd.mono (KT.of s1), by omega, hn.mono (KT.of s1), by omega, fun l2 us2 H2 s2 nl2 hl2 hsc => ?_⟩
      refine ⟨l2, rfl, ⟨us2, SqL.of hl2⟩, ?_⟩
      refine for_list (xs := us2) (fun i σ H3 => ∃ l us x4 x5, σ = [some (.ref a), some nv, some (.ref D), some (.ref l), x4, x5] ∧ Same H2 H3 ∧ H l = none ∧ H3 l = some (.lst us) ∧ FlsAt H3 us (hdF tab d near p0 q0 ts.length ++ fltL tab d near (ts.take i) 0)) ?_ (fun i σ H3 hi p => ?_) (fun i x σ H3 hx p => ?_) (fun σ H3 p => ?_)
      · refine ⟨l1, us1, none, none, rfl, fun _ _ h => h, nl1, s2 _ _ hl1, ?_⟩
        rw [List.take_zero, fltL_nil, List.append_nil]
        exact hf1.mono (KT.of s2)
      · obtain ⟨_, _, _, _, _, s3, _⟩ := p
        exact SqL.of (s3 _ _ hl2)
      · obtain ⟨l, us, x4, x5, rfl, s3, nl, hlu, hf⟩ := p
        obtain ⟨c, nv2, hc, ⟨u, rfl, hu⟩, hnv2⟩ := hsc.2 i x hx
        obtain ⟨t, ht, hta⟩ := hts.get hc
        have s5 := (s1.trans s2).trans s3
        have hn2 := near_len d near i
        refine ⟨u, _, rfl, SqT.of (s3 _ _ hu), rfl, _, _, rfl, _, _, rfl, rfl, ?_⟩
        refine ⟨_, rfl, _, rfl, _, rfl, _, rfl, c, nv2, D, t, nearOf d near i, tab, rfl, hta.mono (KT.of s5), g3 t (List.mem_of_getElem? ht), by omega, hnv2.mono (KT.of s3), by omega, hD.mono s5, fun l4 us4 H4 s4 nl4 hl4 hf4 => ?_⟩
        have e1 : hdF tab d near p0 q0 ts.length ++ fltL tab d near (ts.take (i + 1)) 0 = (hdF tab d near p0 q0 ts.length ++ fltL tab d near (ts.take i) 0) ++ flt tab t (nearOf d near i) := by
          rw [List.append_assoc, List.take_add_one, ht]
          show _ ++ fltL tab d near (ts.take i ++ [t]) 0 = _
          have hlt : i < ts.length := by
            by_cases h : i < ts.length
            · exact h
            · rw [List.getElem?_eq_none (by omega)] at ht; cases ht
          rw [fltL_snoc, List.length_take, Nat.min_eq_left (by omega), Nat.zero_add]
        have hf5 : FlsAt H4 (us ++ us4) (hdF tab d near p0 q0 ts.length ++ fltL tab d near (ts.take (i + 1)) 0) := by
          rw [e1]
          exact paired_app (hf.mono (KT.of s4)) hf4
        have hlen : us.length + us4.length ≤ 9765626 := by
          have e := paired_len hf5
          rw [List.length_append] at e
          have z1 := hdF_len tab d near p0 q0 ts.length
          have z2 := hcl (i + 1)
          rw [e, List.length_append]
          omega
        refine ⟨l, l4, us, us4, rfl, rfl, s4 _ _ hlu, hl4, Nat.le_trans hlen (by rw [sizeLine_eq]; decide), fun l5 nl5 => ?_⟩
        have s6 := same_new (o := .lst (us ++ us4)) nl5
        exact ⟨l5, us ++ us4, _, _, rfl, (s3.trans s4).trans s6, (s5.trans s4).none nl5, upd_same, hf5.mono (KT.of s6)⟩
      · obtain ⟨l, us, x4, x5, rfl, s3, nl, hlu, hf⟩ := p
        refine ⟨_, rfl, q l us H3 ((s1.trans s2).trans s3) nl hlu ?_⟩
        rw [flt_mk]
        have e : us2.length = ts.length := by rw [hsc.1, hl]
        rw [e, List.take_length] at hf
        exact hf
end
end Tp
set_option Elab.async false
set_option linter.all false
set_option maxRecDepth 100000
/-! enumerate(a tuple). -/
namespace Tp
open PySem PySem.Spec PyProof.Rows L2
set_option maxHeartbeats 1000000 in
theorem enum_new1 {v : Value} {o : Obj} {H : Heap → Prop} (B : Begins v o H) :
    Meets (Builtin.«enumerate.__new__» ⟨[.type "enumerate", v], []⟩) (fun _ R s => H s.heap ∧
      R (.ok (.ret (.ref (s.heap.push o).objs.size))) { s with heap := (s.heap.push o).push { cls := .type "enumerate", data := .fields #[.none, .bool false, .ref s.heap.objs.size, rawInt 0, .none, .none] } }) :=
  .of_wp fun prog w A R s h => by
    obtain ⟨hp, g, d, tk, os⟩ := s; obtain ⟨h1, h⟩ := h
    have hsub := sub_enumerate
    have q1 : ∀ {A' : Around} {E : Value → Shared → Prop} {Q : Value → Shared → Prop}, Q (.ref hp.objs.size) ⟨hp.push o, g, d, tk, os⟩ → wpAny (model prog w) A' (pyIter v) Q E ⟨hp, g, d, tk, os⟩ :=
      fun q => B.iter prog w _ _ ⟨hp, g, d, tk, os⟩ _ h1 q
    wp_walk using q1
    refine wpAny_stack_any fun st => wpAny_pure ?_
    split
    · rename_i c _ _ _ _ _
      cases (c == Value.type "enumerate")
      · wp_walk using q1
        exact ⟨_, rfl, h⟩
      · wp_walk using q1
        exact ⟨_, rfl, h⟩
    · wp_walk using q1
      exact ⟨_, rfl, h⟩
section
variable {prog : Program} {w : World} {A : Around} {E : Value → Shared → Prop} {s : Shared}
theorem enum_starts {v : Value} {o : Obj} {H : Heap → Prop} {Q : Value → Shared → Prop} (B : Begins v o H) (h1 : H s.heap)
    (h : ∀ h', IsEnum h' (s.heap.objs.size + 1) s.heap.objs.size 0 .none → h'.get? s.heap.objs.size = some o → h'.objs.size = s.heap.objs.size + 2 →
      (∀ b o, s.heap.get? b = some o → h'.get? b = some o) → Q (.ref (s.heap.objs.size + 1)) { s with heap := h' }) :
    wpAny (model prog w) A (call (.type "enumerate") [v]) Q E s := by
  refine callType_new F.called_enumerate (by decide) (F.typeCall_enumerate_1 _) (F.newCall_enumerate_1 _) (fun obj => F.args_object_init_2 obj _) F.entry_enumerate_new (enum_new1 B) ⟨h1, ?_⟩
  have hz : (s.heap.push o).objs.size = s.heap.objs.size + 1 := Heap.size_push ..
  show _ ∧ _
  rw [hz]
  have he : IsEnum ((s.heap.push o).push { cls := .type "enumerate", data := .fields #[.none, .bool false, .ref s.heap.objs.size, rawInt 0, .none, .none] }) (s.heap.objs.size + 1) s.heap.objs.size 0 .none := by
    have := Heap.get?_push_size (s.heap.push o) (o := { cls := .type "enumerate", data := .fields #[.none, .bool false, .ref s.heap.objs.size, rawInt 0, .none, .none] }) rfl
    rw [hz] at this; exact this
  refine ⟨⟨_, he, rfl⟩, h _ he (Heap.get?_push_of_some _ (Heap.get?_push_size _ B.free)) (by rw [Heap.size_push, hz]) fun b o x => Heap.get?_push_of_some _ (Heap.get?_push_of_some _ x)⟩
end
/-- the tuple at a, each item in a new pair -/
def IteT (K : PySem.W.Frag) (a : Addr) : It :=
  ⟨fun i H => ∃ (xs : List V) (x : V), SqT K H a xs ∧ xs[i]? = some x, fun i H v H' => ∃ T x, v = .ref T ∧ H T = none ∧ H' = upd H T (.tup [.int (i : Nat), x]) ∧ ∀ xs, SqT K H a xs → xs[i]? = some x, fun i H => ∃ xs : List V, SqT K H a xs ∧ xs.length ≤ i⟩
theorem turn_enumT {P : Program} {w : World} {K : PySem.W.Frag} {elts : List Expr} {kk : Nat} {tpos : Pos} (a e it : Addr) :
    Turn P w K (.Tuple elts kk tpos) (IteT K a) [e, it] e (fun i h => (∃ old, IsEnum h e it ((i : Nat) : Int) old) ∧ h.IsTupleIter it a i ∧ e ≠ it) where
  mem := by simp
  obj := fun i h st b hb => by
    obtain ⟨⟨old, he⟩, ⟨o, ho, hc, hd⟩, _⟩ := st
    have e' : b = e ∨ b = it := by simpa using hb
    rcases e' with z | z
    · rw [z]; exact ⟨_, he, fun v q => nomatch q⟩
    · rw [z]; exact ⟨o, ho, fun v q => by rw [hd] at q; cases q⟩
  keep := fun i h h' st k => let ⟨⟨old, he⟩, hi, hne⟩ := st; ⟨⟨old, k e (by simp) _ he⟩, hi.at fun o q => k it (by simp) o q, hne⟩
  item := by
    intro X hP hw hK hc i pins s σ H E I hf st hg
    subst hP hw hK
    obtain ⟨⟨old, he⟩, hit, hne⟩ := st
    obtain ⟨xs, x, hq, hx⟩ := hg
    obtain ⟨its, rv, p, hz⟩ := I.tuple hq
    obtain ⟨u, hu, ru⟩ := rv.get hx
    have hlt : i < its.toArray.size := by
      rw [List.size_toArray]
      by_cases h : i < its.length
      · exact h
      · rw [List.getElem?_eq_none (by omega)] at hu; cases hu
    have hel : e < s.heap.objs.size := Heap.lt_size he
    have hil : it < s.heap.objs.size := by obtain ⟨_, q, _⟩ := hit; exact Heap.lt_size q
    have hia : a ≠ it := by
      rintro rfl
      obtain ⟨o, ho, hcls, _⟩ := hit
      obtain ⟨o2, ho2, hcls2, _⟩ := p
      rw [ho] at ho2
      obtain rfl := Option.some.inj ho2
      rw [hcls] at hcls2
      exact absurd hcls2 (by decide)
    have hea : e ≠ a := by
      rintro rfl
      obtain ⟨o2, ho2, hcls2, _⟩ := p
      rw [show s.heap.get? e = some _ from he] at ho2
      obtain rfl := Option.some.inj ho2
      exact absurd (show Value.type "enumerate" = Value.type "tuple" from hcls2) (by decide)
    refine wpAny_pyNext_enum_itemD (Draws.tuple (prog := X.prog) (w := X.w) (A := X.A.in1) (I.ok.hd hc) it a hia its.toArray) he ⟨hit, p⟩ hlt hne (by simp [hne, hea]) fun x' h' tk hP ho hit' hT hsz hk => ?_
    have hx' : x' = u := by
      have e1 : its.toArray[i]? = some x' := hP
      rw [show its.toArray[i]? = its[i]? by simp, hu] at e1
      exact (Option.some.inj e1).symm
    subst hx'
    refine ⟨_, rfl, wpAny_letOwnedTupleGo_enum (s := { s with heap := h', toks := tk + 1 }) ho fun h'' he' sb => ?_⟩
    have hT2 : h''.get? s.heap.objs.size = some { cls := .type "tuple", data := .seq #[.int i tk, x'] } := (sb.2 _ (Nat.ne_of_gt hel)).trans hT
    have new : ObjOk X.prog X.w (upd H s.heap.objs.size (.tup [.int (i : Nat), x])) h'' s.heap.objs.size (.tup [.int (i : Nat), x]) :=
      ⟨by show 2 ≤ sizeLine; decide, [.int i tk, x'], .cons ⟨_, rfl⟩ (.cons ru .nil), ⟨_, hT2, rfl, _, rfl⟩⟩
    have I1 : Inv X pins σ (upd H s.heap.objs.size (.tup [.int (i : Nat), x])) { s with heap := h'', toks := tk + 1 } :=
      I.turnedNew (ch := [e, it]) (fun b ob hb q => (sb.2 b (fun z => hb (by simp [z]))).trans (hk b ob (fun z => hb (by simp [z])) (fun z => hb (by simp [z])) q)) hf (Nat.le_refl _) new
    refine ⟨.ref s.heap.objs.size, _, I1, rfl, ⟨_, x, rfl, I.hok.fresh (Nat.le_refl _), rfl, fun ys hy => by rw [I.tuple_inj hy hq]; exact hx⟩, ⟨⟨x', ?_⟩, hit'.1.at fun o q => (sb.2 it (Ne.symm hne)).trans q, hne⟩, fun b hb => ?_⟩
    · have e1 : ((i + 1 : Nat) : Int) = (i : Int) + 1 := by omega
      rw [e1]; exact he'
    · have hb' : b < s.heap.objs.size := by
        have e' : b = e ∨ b = it := by simpa using hb
        rcases e' with z | z
        · rw [z]; exact hel
        · rw [z]; exact hil
      rw [upd_ne (Nat.ne_of_lt hb')]
      exact (hf b hb).1
  done := by
    intro X hP hw hK hc i pins s σ H E I hf st hg
    subst hP hw hK
    obtain ⟨⟨old, he⟩, hit, hne⟩ := st
    obtain ⟨xs, hq, hx⟩ := hg
    obtain ⟨its, rv, p, hz⟩ := I.tuple hq
    obtain ⟨f0, f1, f2, f3, f4, f5⟩ := hf it (by simp)
    have hl := rv.length
    have hT : s.TypeIs (.ref e) "enumerate" := ⟨_, he, rfl⟩
    unfold pyNext
    refine wpAny_bind (wpAny_attempt (wpAny_callSpecial?_slot (name := Str.ofString "__next__") hT F.slot_enumerate_next
      (wpAny_call_entry F.slot_enumerate_next hT F.entry_enumerate_next ?_ (F.args_enumerate_next_1 _))))
    show wpAny _ _ (field (.ref e) 2 >>= _) _ _ _
    refine wpAny_bind (wpAny_field he rfl (x := .ref it) rfl ?_)
    refine wpAny_bind (wpAny_nextOf_tuple_end (show X.A.in1.handled = none from I.ok.hd hc) hit p (by simp; omega) fun h' x' he' hx' => ?_)
    obtain ⟨o, ho, hcl⟩ := hx'
    refine wpAny_bind (wpAny_isInstance (T := "StopIteration") (b := true) ⟨o, ho, hcl⟩ isSubtype_stop ?_)
    exact wpAny_pure ⟨rfl, I.turned (t' := s.toks) (fun b o hb q => he' b o hb q) f0 f1 f3 f4 f5⟩
  self := fun A i s Q E st h => let ⟨⟨_, he⟩, _⟩ := st; wpAny_pyIter_enum he h
def iEnumT (K : PySem.W.Frag) (te : TE) : TI := fun σ H R => te σ H fun v H1 => ∃ a xs, v = .ref a ∧ SqT K H1 a xs ∧ R (IteT K a) H1
theorem pi_enumT {X : Cx} {e : Expr} {te : TE} {p pos tpos : Pos} {elts : List Expr} {kk : Nat} (hg : Gl X "enumerate") (hm : X.mg "enumerate" = none) (he : PE X e te) (hs : starEach [e] X.env = (false, eval e X.env) :: starEach [] X.env := by rfl) :
    PI X (.Tuple elts kk tpos) (.Call (.Name "enumerate" p) [e] [] pos) (iEnumT X.K te) := by
  refine ⟨fun pins s σ H R I h => ?_⟩
  refine Call_ (ld_blt I hg hm boot_enumerate (PyProof.Rows.callWith_type1 (args_cons (thn (he.run pins s σ H _ I h) fun u s1 ⟨v, H1, I1, r1, q1⟩ => args_nil ?_) hs) hs rfl))
  obtain ⟨a, xs, ex, hq, q⟩ := q1
  subst ex
  obtain rfl : u = Value.ref a := r1
  obtain ⟨its, rv, p', hz⟩ := I1.tuple hq
  refine enum_starts (begins_tuple a its.toArray) p' fun h' he hit hsz hk => wpAny_pyIter_enum he ?_
  have I2 : Inv X pins σ H1 { s1 with heap := h' } := I1.kept (t' := s1.toks) hk
  refine ⟨s1.heap.objs.size + 1, [s1.heap.objs.size + 1, s1.heap.objs.size], _, _, H1, rfl, I2, turn_enumT a (s1.heap.objs.size + 1) s1.heap.objs.size, ⟨⟨.none, he⟩, ⟨_, hit, rfl, rfl⟩, Nat.succ_ne_self _⟩, fun b hb => ?_, q⟩
  have e' : b = s1.heap.objs.size + 1 ∨ b = s1.heap.objs.size := by simpa using hb
  have hle : s1.heap.objs.size ≤ b := by
    rcases e' with z | z
    · rw [z]; exact Nat.le_add_right _ _
    · rw [z]; exact Nat.le_refl _
  exact I1.fpOk hle (I1.hok.fresh hle)
theorem walk_enumT {K : PySem.W.Frag} {a : Addr} {xs : List V} : Walk (IteT K a) xs.length (fun H => SqT K H a xs) (YPair (fun i => some (.int (i : Nat))) (fun i => xs[i]?)) := by
  refine ⟨fun i _ hi q => ⟨xs, xs[i], q, by simp [hi]⟩, fun _ q => ⟨xs, q, Nat.le_refl _⟩, fun i H v H' _ q y => ?_⟩
  obtain ⟨T, x, h1, h2, h3, h4⟩ := y
  exact ⟨T, .int (i : Nat), x, h1, h2, h3, rfl, h4 xs q⟩
end Tp
set_option Elab.async false
set_option linter.all false
set_option maxRecDepth 100000
set_option maxHeartbeats 2000000
/-! Sets of at most one row; sorted of them. -/
namespace Tp
open PySem PySem.Spec PyProof.Rows L2
abbrev freshT (w : World) : SetTable := .fresh 0 0 (!w.params.followText "set-order")
theorem tab_fresh (w : World) : TabOk (freshT w) [] := ⟨List.Pairwise.nil, rfl, rfl, .inl rfl, fun x hx => (by cases hx), fun i h j hi => (by simp at hi)⟩
theorem led_fresh (w : World) : w.params.followText "set-order" = true ∨ (freshT w).led = true := by
  show _ ∨ (!w.params.followText "set-order") = true
  cases w.params.followText "set-order"
  · exact .inr rfl
  · exact .inl rfl
/-- the set at a holds just the objects at these places, one at most -/
def SetN (w : World) (h : Heap) (a : Addr) (as : List Addr) : Prop :=
  ∃ o es ep t, h.get? a = some o ∧ o.ExactSet ∧ o.data = .set es ep t ∧ es.toList.map (·.2) = as.map Value.ref ∧ as.length ≤ 1 ∧ Ris t.place.toList ∧ t.fits es.size = true ∧ (w.params.followText "set-order" = true ∨ t.led = true) ∧ (as = [] → es = #[] ∧ t = freshT w)
/-- one may ask whether its hash is by value -/
def ByVal (P : Program) (w : World) (n : Nat) (s : Shared) (v : Value) : Prop := ∀ (A : Around) (E : Value → Shared → Prop) (Q : Bool → Shared → Prop), (∀ b, Q b s) → wpAny (model P w) A (hashByValue n v) Q E s
section
variable {P : Program} {w : World} {A : Around} {E : Value → Shared → Prop} {s : Shared} {a : Addr}
theorem byVal_int (n : Nat) (i : Int) (t : Tok) : ByVal P w n s (.int i t) := fun A E Q h => by
  rw [show hashByValue n (.int i t) = pure true by cases n <;> rfl]
  exact wpAny_pure (h _)
theorem byVal_str (n : Nat) (z : Str) (t : Tok) : ByVal P w n s (.str z t) := fun A E Q h => by
  rw [show hashByValue n (.str z t) = pure false by cases n <;> rfl]
  exact wpAny_pure (h _)
theorem byVal_tup {n : Nat} {b : Addr} {o : Obj} {vs : Array Value} {m : Nat} (ho : s.heap.get? b = some o) (hc : o.cls = .type "tuple") (hd : o.data = .seq vs m) (hi : ∀ v ∈ vs.toList, ByVal P w n s v) : ByVal P w (n + 1) s (.ref b) := fun A E Q h => by
  have hT : s.TypeIs (.ref b) "tuple" := ⟨o, ho, hc⟩
  unfold hashByValue
  refine wpAny_bind (wpAny_specialOf hT F.slot_tuple_hash.lookup ?_)
  show wpAny _ _ (seqItems? (.ref b) >>= _) _ _ s
  refine wpAny_bind (wpAny_seqItems ho hd ?_)
  refine wpAny_bind ?_
  show wpAny _ _ (forIn vs _ _) _ _ s
  rw [← Array.forIn_toList]
  refine wpAny_forIn_list _ (fun rest r s' => r.1 = none ∧ s' = s ∧ ∀ v ∈ rest, ByVal P w n s v) _ ?_ ?_ _ _ ⟨rfl, rfl, hi⟩
  · rintro v rest r s' ⟨hr, rfl, hall⟩
    refine wpAny_bind (hall v List.mem_cons_self _ _ _ fun b => ?_)
    cases b with
    | true =>
      simp only [Bool.not_true, Bool.false_eq_true, if_false]
      exact wpAny_pure ⟨rfl, rfl, fun u hu' => hall u (List.mem_cons_of_mem _ hu')⟩
    | false =>
      simp only [Bool.not_false, if_true]
      refine wpAny_pure ?_
      show wpAny _ _ (pure false) Q E s'
      exact wpAny_pure (h _)
  · rintro ⟨r1, r2⟩ s' ⟨hr, rfl, _⟩
    simp only at hr
    subst hr
    exact wpAny_pure (h _)
theorem search_none {o : Obj} {ep : Nat} (ho : s.heap.get? a = some o) (hd : o.data = .set #[] ep (freshT w)) {x : Value} {h : Int} {Q : SetFound → Shared → Prop}
    (hQ : Q (.free (way (freshT w).mask h 0) false) s) : wpAny (model P w) A (setSearch a x h true) Q E s := by
  have hf : (freshT w).fits (#[] : Array (Int × Value)).size = true := rfl
  unfold setSearch
  rw [show (100000 : Nat) = 99999 + 1 from rfl, setSearchFrom_succ]
  refine wpAny_bind (wpAny_setState_of ho hd hf ?_)
  dsimp only
  refine wp_if_neg (by unfold SetTable.gaveWay; rw [mask_odd (tab_fresh w).mok]; decide) ?_
  try refine wpAny_bind (wpAny_pure ?_)
  exact wpAny_pure hQ
/-- adding to the empty set -/
theorem add_one {o : Obj} {ep : Nat} (ho : s.heap.get? a = some o) (hex : o.ExactSet) (hd : o.data = .set #[] ep (freshT w)) {x : Addr} {h : Int} (hB : ByVal P w 8 s (.ref x)) {Q : Bool → Shared → Prop}
    (hQ : ∀ h', Heap.SameBut a s.heap h' → SetN w h' a [x] → Q true { s with heap := h' }) : wpAny (model P w) A (setAddHashed a (.ref x) h) Q E s := by
  have hf : (freshT w).fits (#[] : Array (Int × Value)).size = true := rfl
  have hK : way (freshT w).mask h 0 ∉ (freshT w).place.toList := List.not_mem_nil
  have hKb : ∀ k, k < 0 → way (freshT w).mask h k ∈ (freshT w).place.toList := fun k hk => absurd hk (Nat.not_lt_zero _)
  unfold setAddHashed
  refine wpAny_holding ?_
  rw [show (100000 : Nat) = 99999 + 1 from rfl, setAddHashedIn_succ]
  refine wpAny_bind (wpAny_setState_of ho hd hf ?_)
  dsimp only
  refine wp_if_neg (by simp [byScan, Value.scannable]) ?_
  try refine wpAny_bind (wpAny_pure ?_)
  refine wpAny_bind (search_none ho hd ?_)
  dsimp only
  refine wpAny_bind (wpAny_setState_of ho hd hf ?_)
  dsimp only
  obtain ⟨q1, q2, q3, q4, q5, q6, q7, q8, q9⟩ := (tab_fresh w).put hK hKb
  have hp1 : ((freshT w).put (way (freshT w).mask h 0)).1.plain = true := by rw [q6]; rfl
  generalize hpt : (freshT w).put (way (freshT w).mask h 0) = pt at q1 q3 q4 q5 q6 q7 q8 q9 hp1 ⊢
  obtain ⟨t1, p⟩ := pt
  dsimp only at q1 q3 q4 q5 q6 q7 q8 q9 hp1 ⊢
  subst q1
  have hin : (SetTable.insertAt #[] (SetTable.below (freshT w).place (way (freshT w).mask h 0)) (h, Value.ref x)).toList = [(h, Value.ref x)] := by
    rw [SetTable.toList_insertAt]
    simp
  generalize SetTable.insertAt #[] (SetTable.below (freshT w).place (way (freshT w).mask h 0)) (h, Value.ref x) = es1 at hin ⊢
  have hes : es1.size = 1 := by rw [← Array.length_toList, hin]; rfl
  have hfill : t1.fill = 1 := q9
  have hmask : t1.mask = 7 := q4
  have key : ∀ t2 : SetTable, t2.place = t1.place → t2.dummies = t1.dummies → t2.mask = t1.mask → t2.led = t1.led →
      wpAny (model P w) A (do storeSet a es1 t2; if (!false && t2.tooFull) = true then do setRelay a (SetTable.grown (0 + 1)); pure true else pure true) Q E s := by
    intro t2 p1 p2 p3 p4
    refine wpAny_bind (wpAny_storeSet_of ho hd ?_ (by rw [hes, sizeLine_eq]; omega))
    have sb : Heap.SameBut a s.heap (s.heap.update a (Obj.putSet es1 t2)) := Heap.SameBut.update ..
    have ho1 := store_at (es' := es1) (t' := t2) ho hd
    generalize s.heap.update a (Obj.putSet es1 t2) = h1 at sb ho1 ⊢
    have hsz : t2.place.size = 1 := by
      have z := q3.sz
      rw [p1, z]
      simp
    have hdm : t2.dummies = #[] := by rw [p2]; exact q3.dm
    refine wp_if_neg ?_ ?_
    · unfold SetTable.tooFull SetTable.fill
      rw [hdm, p3, hmask, hsz]
      decide
    refine wpAny_pure (hQ h1 sb ⟨_, es1, _, t2, ho1, ⟨hex.1, hex.2.1, hex.2.2⟩, rfl, by rw [hin]; rfl, Nat.le_refl _, by rw [p1]; exact q3.ris, ?_, ?_, fun z => nomatch z⟩)
    · unfold SetTable.fits SetTable.fill
      rw [hdm, hsz, hes, p3, hmask]
      decide
    · rw [p4, q5]
      exact led_fresh w
  refine wp_if_pos hp1 ?_
  refine wpAny_bind (hB _ _ _ fun b => ?_)
  cases b with
  | true => exact key t1 rfl rfl rfl rfl
  | false => exact key { t1 with plain := false } rfl rfl rfl rfl
theorem setN_get {h : Heap} {as : List Addr} (R : SetN w h a as) : ∃ o, h.get? a = some o := by
  obtain ⟨o, _, _, _, ho, _⟩ := R
  exact ⟨o, ho⟩
theorem SetN.at {h h' : Heap} {as : List Addr} (R : SetN w h a as) (k : ∀ o, h.get? a = some o → h'.get? a = some o) : SetN w h' a as := by
  obtain ⟨o, es, ep, t, ho, r⟩ := R
  exact ⟨o, es, ep, t, k o ho, r⟩
theorem setN_fresh (h : Heap) (w : World) : SetN w (h.push { cls := .type "set", dict := none, data := .set #[] 0 (freshT w) }) h.objs.size [] :=
  ⟨_, #[], 0, _, Heap.get?_push_size _ rfl, ⟨rfl, rfl, rfl⟩, rfl, rfl, Nat.zero_le _, List.Pairwise.nil, rfl, led_fresh w, fun _ => ⟨rfl, rfl⟩⟩
/-- what a row is to the machine -/
structure RowIs (P : Program) (w : World) (s : Shared) (x : Addr) : Prop where
  key : ∃ k : NestedKey, NestedIs s.heap k (.ref x) ∧ k.depth ≤ 8
  byv : ∀ tk, ByVal P w 8 { s with toks := tk } (.ref x)
/-- set.add of a row to the empty set -/
theorem setN_add {x : Addr} {Q : Value → Shared → Prop} (R : SetN w s.heap a []) (hu : A.units + 9 < cLine) (hx : RowIs P w s x)
    (hQ : ∀ h' tk, Heap.SameBut a s.heap h' → SetN w h' a [x] → Q .none { s with heap := h', toks := tk }) : wpAny (model P w) A (call (.builtin "set.add") [.ref a, .ref x]) Q E s := by
  obtain ⟨o, es, ep, t, ho, hex, hd, _, _, _, _, _, h0⟩ := R
  obtain ⟨rfl, rfl⟩ := h0 rfl
  obtain ⟨k, hk, hk8⟩ := hx.key
  have hT : s.TypeIs (.ref a) "set" := ⟨o, ho, hex.1⟩
  refine wpAny_call_entry F.slot_set_add hT F.entry_set_add ?_ (F.args_set_add_2 _ _)
  unfold Builtin.«set.add» Builtin.Frozenset.oneOther
  simp only [List.isEmpty_nil, bind_assoc]
  unfold Builtin.Frozenset.addrOf setAdd
  refine wpAny_bind (wpAny_pure ?_)
  try dsimp only
  refine wpAny_bind (wpAny_pure ?_)
  try dsimp only
  refine wpAny_bind ?_
  refine wpAny_holding ?_
  refine wpAny_bind ((nestedKind P w).pyHash (by show A.units + 1 + 8 < cLine; omega) ⟨hk, hk8⟩ ?_)
  refine add_one (s := { s with toks := s.toks + (nestedKind P w).draws k }) ho hex hd (hx.byv _) fun h' sb r => ?_
  show wpAny _ _ (ret Value.none) _ _ _
  exact wpAny_pure ⟨_, rfl, hQ h' _ sb r⟩
/-- list.sort of so short a list -/
theorem sort_few {vs : List Value} {n : Nat} {R : PySem.Fin → Shared → Prop} (ho : s.heap.get? a = some (seqObj "list" vs.toArray n)) (hl : vs.length < 2)
    (h : R (.done (.ret .none)) { s with heap := sortedHeap s.heap a vs vs.toArray }) : wpAny (model P w) A (Builtin.«list.sort» ⟨[.ref a], []⟩) R E s := by
  rw [list_sort_plain]
  have ha : a < s.heap.objs.size := Heap.lt_size ho
  refine wpAny_bind (listItems_at ho rfl ?_)
  refine wpAny_bind (listUpdate_at ho rfl ?_)
  obtain ⟨e1, ho1⟩ : ∃ e1, (s.heap.update a (Obj.mapSeq fun _ => #[])).get? a = some (seqObj "list" #[] e1) := ⟨_, get?_update_seq ho (fun _ => #[])⟩
  refine wpAny_bind (seqEpoch_at ho1 rfl ?_)
  refine wpAny_bind (wpAny_newTuple ?_)
  refine wpAny_bind (wpAny_newList ?_)
  refine wpAny_holding ?_
  have ho6 : (((s.heap.update a (Obj.mapSeq fun _ => #[])).push (seqObj "tuple" vs.toArray 0)).push (seqObj "list" #[] 0)).get? a = some (seqObj "list" #[] e1) := by
    rw [Heap.get?_push_ne _ _ _ (by rw [size_push', Heap.size_update]; exact Nat.ne_of_lt (Nat.lt_succ_of_lt ha)), Heap.get?_push_ne _ _ _ (by rw [Heap.size_update]; exact Nat.ne_of_lt ha)]
    exact ho1
  show wpAny (model P w) A _ R E { s with heap := ((s.heap.update a (Obj.mapSeq fun _ => #[])).push (seqObj "tuple" vs.toArray 0)).push (seqObj "list" #[] 0) }
  dsimp only
  have h2 : vs.toArray.size < 2 := by simpa using hl
  rw [if_pos h2, if_pos h2]
  refine wpAny_bind (wpAny_pure ?_)
  rw [StateT.run_pure]
  refine wpAny_bind (wpAny_pure ?_)
  dsimp only
  refine wpAny_bind (seqEpoch_at ho6 rfl ?_)
  have e2 : (arrOf (SortSt.mk' general' (vs.toArray.zip vs.toArray) #[] 7 none)).map (·.2) = vs.toArray := by
    show (vs.toArray.zip vs.toArray).map (·.2) = vs.toArray
    match vs, hl with
    | [], _ => simp
    | [_], _ => simp
  rw [e2]
  refine wpAny_bind (listUpdate_at ho6 rfl ?_ (hsz2 := by rw [List.size_toArray, sizeLine_eq]; omega))
  simp only [bne_self_eq_false, Bool.false_eq_true, if_false]
  exact wpAny_pure h
/-- sorted of it -/
theorem sortedN {as : List Addr} {Q : Value → Shared → Prop} (R : SetN w s.heap a as) (hh : A.handled = none)
    (hQ : ∀ s' p (c : Nat), (∀ b o, s.heap.get? b = some o → s'.heap.get? b = some o) → s'.gens = s.gens → s'.os = s.os → s.heap.objs.size ≤ p →
      s'.heap.get? p = some (seqObj "list" (as.map Value.ref).toArray c) → Q (.ref p) s') : wpAny (model P w) A (call (.builtin "sorted") [.ref a]) Q E s := by
  obtain ⟨o, es, ep, t, ho, hex, hd, hes, hl, hr, hf, hled, _⟩ := R
  have hsz : es.size = as.length := by
    have z := congrArg List.length hes
    rw [List.length_map, List.length_map, Array.length_toList] at z
    exact z
  refine Calls.call_function_entry kind_sorted plain_sorted entry_sorted (args_sorted1 _) ?_
  unfold Builtin.«sorted»
  refine wpAny_bind (m := checkCount "sorted" 1 1 _) (wpAny_pure ?_)
  refine wpAny_bind (collect_set (A := A.in1) hh ⟨o, ho, hex.1, hd⟩ hf (by unfold scanBound; omega) hr hled fun s1 vs k1 hz g1 o1 pm => ?_)
  rw [hes] at pm
  have ev : vs = as.map Value.ref := by
    match as, hl, pm with
    | [], _, pm => exact List.perm_nil.mp pm
    | [x], _, pm => exact List.perm_singleton.mp pm
  subst ev
  refine wpAny_bind (wpAny_newList ?_ (by rw [List.length_map, sizeLine_eq]; omega))
  have hoL : (s1.heap.push (seqObj "list" (as.map Value.ref).toArray 0)).get? s1.heap.objs.size = some (seqObj "list" (as.map Value.ref).toArray 0) := Heap.get?_push_size _ rfl
  refine wpAny_bind (wpAny_holding (wpAny_call_entry slot_list_sort ⟨_, hoL, rfl⟩ entry_list_sort (sort_few (s := { s1 with heap := s1.heap.push (seqObj "list" (as.map Value.ref).toArray 0) }) hoL (by rw [List.length_map]; omega) ⟨_, rfl, ?_⟩) (args_list_sort _)))
  obtain ⟨c, hc⟩ := sortedHeap_at (vs := as.map Value.ref) (out := (as.map Value.ref).toArray) hoL
  refine wpAny_pure ⟨_, rfl, hQ _ s1.heap.objs.size c (fun b u e => ?_) g1 o1 hz hc⟩
  have q := k1 b u e
  have hlt := Heap.lt_size q
  show (sortedHeap (s1.heap.push (seqObj "list" (as.map Value.ref).toArray 0)) s1.heap.objs.size _ _).get? b = some u
  rw [sortedHeap_old (Nat.ne_of_lt hlt) (by rw [size_push']; exact Nat.lt_succ_of_lt hlt)]
  exact Heap.get?_push_of_some _ q
end
/-! ### as tracked things -/
def SetNO (w : World) (a : Addr) (as : List Addr) : HO := .ext fun h => SetN w h a as
theorem setNO_new {w : World} {P : Program} {H : Hp} {h : Heap} {a : Addr} {as : List Addr} (R : SetN w h a as) : ObjOk P w H h a (SetNO w a as) := ⟨R, setN_get R, fun h1 h2 p k => SetN.at p k⟩
/-- a row of the heap: a place, two texts -/
def RowV (K : PySem.W.Frag) (H : Hp) (c : Addr) : Prop := ∃ (pl : Addr) (p q : Int) (wd nm : Str), SqT K H c [.ref pl, .str wd, .str nm] ∧ SqT K H pl [.int p, .int q]
section
variable {X : Cx} {pins : List (Addr × Obj)} {σ : L2.St} {H : Hp} {s : Shared}
theorem vals2i {p q : Int} {us : List Value} (r : Vals [V.int p, V.int q] us) : ∃ t1 t2, us = [.int p t1, .int q t2] := by
  cases r with
  | cons r1 r2 =>
    cases r2 with
    | cons r2 r3 =>
      cases r3
      obtain ⟨t1, rfl⟩ := r1
      obtain ⟨t2, rfl⟩ := r2
      exact ⟨t1, t2, rfl⟩
theorem vals3r {a : Addr} {x y : Str} {us : List Value} (r : Vals [V.ref a, V.str x, V.str y] us) : ∃ t1 t2, us = [.ref a, .str x t1, .str y t2] := by
  cases r with
  | cons r1 r2 =>
    cases r2 with
    | cons r2 r3 =>
      cases r3 with
      | cons r3 r4 =>
        cases r4
        cases r1
        obtain ⟨t1, rfl⟩ := r2
        obtain ⟨t2, rfl⟩ := r3
        exact ⟨t1, t2, rfl⟩
theorem rowIs_of (I : Inv X pins σ H s) {c : Addr} (h : RowV X.K H c) : RowIs X.prog X.w s c := by
  obtain ⟨pl, p, q, wd, nm, h1, h2⟩ := h
  obtain ⟨its, rv, ⟨o, ho, hc, n, hd⟩, _⟩ := I.tuple h1
  obtain ⟨its2, rv2, ⟨o2, ho2, hc2, n2, hd2⟩, _⟩ := I.tuple h2
  obtain ⟨t1, t2, rfl⟩ := vals3r rv
  obtain ⟨t3, t4, rfl⟩ := vals2i rv2
  refine ⟨⟨.tup [.tup [.num p, .num q], .text wd, .text nm], ?_, by simp [NestedKey.depth, NestedKey.depthAll]⟩, fun tk => ?_⟩
  · exact .tup ho hc hd (.cons (.tup ho2 hc2 hd2 (.cons (.int _ _) (.cons (.int _ _) .nil))) (.cons (.text _ _) (.cons (.text _ _) .nil)))
  · refine byVal_tup (s := { s with toks := tk }) ho hc hd fun v hv => ?_
    rcases List.mem_cons.mp hv with rfl | hv
    · refine byVal_tup (s := { s with toks := tk }) ho2 hc2 hd2 fun v hv => ?_
      rcases List.mem_cons.mp hv with rfl | hv
      · exact byVal_int _ _ _
      · rcases List.mem_cons.mp hv with rfl | hv
        · exact byVal_int _ _ _
        · cases hv
    · rcases List.mem_cons.mp hv with rfl | hv
      · exact byVal_str _ _ _
      · rcases List.mem_cons.mp hv with rfl | hv
        · exact byVal_str _ _ _
        · cases hv
theorem setNO_get {a : Addr} {as : List Addr} (I : Inv X pins σ H s) (ha : H a = some (SetNO X.w a as)) : SetN X.w s.heap a as := (I.hok a _ ha).1
theorem addN_ok {E : Value → Shared → Prop} {D c : Addr} {Q : Value → Shared → Prop} (I : Inv X pins σ H s) (hu : X.A.units + 9 < cLine) (hD : H D = some (SetNO X.w D [])) (hc : RowV X.K H c)
    (h : ∀ s', Inv X pins σ (upd H D (SetNO X.w D [c])) s' → Q .none s') : wpAny (model X.prog X.w) X.A (call (.builtin "set.add") [.ref D, .ref c]) Q E s := by
  refine setN_add (setNO_get I hD) hu (rowIs_of I hc) fun h' tk sb new => ?_
  exact h _ (I.write (e := D) (t' := tk) (by rw [hD]; trivial) (.inl rfl) (fun b u hb hu => (sb.2 b hb).trans hu) (setN_get new) (setNO_new new))
/-- sorted of it -/
def rSortN (w : World) : List V → Hp → VK → Prop := fun vs H Q => ∃ (a : Addr) (as : List Addr), vs = [V.ref a] ∧ H a = some (SetNO w a as) ∧ ∀ p, H p = none → Q (.ref p) (upd H p (.lst (as.map V.ref)))
theorem vals_refN : ∀ as : List Addr, Vals (as.map V.ref) (as.map Value.ref)
  | [] => .nil
  | _ :: as => .cons rfl (vals_refN as)
theorem cr_sortN (hc : X.calm = true) : CallR X (.builtin "sorted") (rSortN X.w) := by
  intro pins s σ H vs us Q I r h
  obtain ⟨a, as, rfl, ha, q⟩ := h
  have R := setNO_get I ha
  have hl : as.length ≤ 1 := by
    obtain ⟨_, _, _, _, _, _, _, _, hl, _⟩ := R
    exact hl
  rw [Vals.ref1 r]
  refine sortedN R (I.ok.hd hc) fun s' p c k g o hp hg => ?_
  have hlen : (as.map V.ref).length ≤ sizeLine := by rw [List.length_map, sizeLine_eq]; omega
  have hn : H p = none := I.hok.fresh hp
  have J : Inv X pins σ (upd H p (.lst (as.map V.ref))) { s with heap := s'.heap, gens := s'.gens, drawn := s'.drawn, toks := s'.toks } :=
    I.call (ch := []) (Un.laid k hp hn) (I.hok.laid k hp ⟨hlen, as.map Value.ref, c, vals_refN as, hg⟩) (by rw [g]; exact I.bare) (fun _ z => nomatch z)
  have e : s' = { s with heap := s'.heap, gens := s'.gens, drawn := s'.drawn, toks := s'.toks } := by
    cases s'
    cases s
    cases o
    rfl
  rw [e]
  exact ⟨.ref p, _, J, rfl, q p hn⟩
end
section
variable {X : Cx}
/-- {elt for target in iter if ..}, of one turn at most that adds: D the new set -/
def tScN (w : World) (K : PySem.W.Frag) (wi : TI) (g : TG) (tt : TT) (te : TE) (vs : List Nat) : TE := fun σ H Q => wi σ H fun J H1 => ∀ D, H1 D = none → ∃ W : Nat → Nat → Hp → Prop, (∃ m, W 0 m (upd H1 D (SetNO w D []))) ∧ ∀ i m H, W i m H →
  (J.stop i H ∧ Q (.ref D) H) ∨ (J.go i H ∧ ∃ Nx : Hp → Prop, (∀ H', Nx H' → ∃ m', m' < m ∧ W (i + 1) m' H') ∧ ∀ x H', J.yld i H x H' → g x (wipe σ vs) H' fun σ2 H2 => wipe σ2 vs = wipe σ vs ∧ tt σ2 H2 fun b H3 =>
    if b = true then te σ2 H3 fun y H4 => ∃ (c : Addr), y = .ref c ∧ H4 D = some (SetNO w D []) ∧ RowV K H4 c ∧ Nx (upd H4 D (SetNO w D [c])) else Nx H3)
theorem scN_core {pins : List (Addr × Obj)} {s : Shared} {σ : L2.St} {H : Hp} {Q : VK} {elt tg iter : Expr} {ifs : List Expr} {scope : Scope} {own : List (PySem.Str × Nat)} {pos pos' : Pos} {wi : TI} {g : TG} {tt : TT} {te : TE} {use : Option (Value → Sem Unit)} {Qf : Value → Shared → Prop}
    (hc : X.calm = true) (hu : X.A.units + 9 < cLine) (hN : X.N.Nodup) (I : Inv X pins σ H s) (hi : PI X tg iter wi) (ok : BlkOk X.N X.env.scope scope own)
    (hg : ∀ (s : Shared) (H : Hp) (C : Addr) (cl : List (PySem.Str × Addr)) (fp : List Addr), PG (X.blk s H scope (compEnvC scope cl C X.env) fp) tg g) (ht : ∀ (s : Shared) (H : Hp) (C : Addr) (cl : List (PySem.Str × Addr)) (fp : List Addr), PTs (X.blk s H scope (compEnvC scope cl C X.env) fp) ifs tt)
    (he : ∀ (s : Shared) (H : Hp) (C : Addr) (cl : List (PySem.Str × Addr)) (fp : List Addr), PE (X.blk s H scope (compEnvC scope cl C X.env) fp) elt te) (hs : ∀ x, foldedSetIterable iter X.env x = pure x)
    (h : tScN X.w X.K wi g tt te (own.map (·.2)) σ H Q)
    (hRR : ∀ D C s' m H', Inv X pins σ H' s' → Q (.ref D) H' → s'.heap.Ns C m → FpOk X pins H' C → compPost (model X.prog X.w) X.A X.xe use Qf (.ref D) C (.ok .next) s') :
    wpAny (model X.prog X.w) X.A (comprehension (.SetComp elt [⟨tg, iter, ifs, 0⟩] scope pos) scope X.env pos' (newSet (.type "set")) false (eval iter X.env) use) Qf X.xe s := by
  have hfree : ∀ y ∈ scope.names, y.2 = .free → ∃ c, X.env.cells.lookup y.1 = some c := fun y hy e => by
    rcases ok.free y hy e with k | k
    · exact I.ok.has _ (.inl k)
    · exact I.ok.has _ (.inr k)
  refine wpAny_comprehension_free (use := use) rfl hs (closure_ok hfree) ok.kind (fun y hy e => by rw [ok.uniq y hy, e])
    (thn (hi.run pins s σ H _ I h) fun xv s1 hx => thn hx fun itv s2 h2 => ?_)
  obtain ⟨it, fp, tn, J, H2, e, I2, T, st2, f2, q⟩ := h2
  subst e
  refine PpSet.newSet_ok (newEnv_comp ?_)
  generalize hD : s2.heap.objs.size = D
  have hDn : H2 D = none := I2.hok.fresh (Nat.le_of_eq hD)
  obtain ⟨W, ⟨m0, w0⟩, turn⟩ := q D hDn
  -- the new list
  generalize hs3 : ({ s2 with heap := s2.heap.push { cls := .type "set", dict := none, data := .set #[] 0 (.fresh 0 0 (!X.w.params.followText "set-order")) } } : Shared) = s3
  have I3 : Inv X pins σ (upd H2 D (SetNO X.w D [])) s3 := by
    rw [← hs3]
    refine I2.laid (t' := s2.toks) (fun b o e => Heap.get?_push_of_some _ e) (Nat.le_of_eq hD) ?_
    rw [← hD]
    exact setNO_new (setN_fresh _ X.w)
  have h3 : s3.heap = s2.heap.push { cls := .type "set", dict := none, data := .set #[] 0 (.fresh 0 0 (!X.w.params.followText "set-order")) } := by rw [← hs3]
  have sz : ∀ b ∈ fp, b < s2.heap.objs.size := fun b hb => by
    obtain ⟨o, e, _⟩ := T.obj _ _ st2 b hb
    exact Heap.lt_size e
  have f3 : ∀ b ∈ fp, FpOk X pins (upd H2 D (SetNO X.w D [])) b ∧ b < s3.heap.objs.size := fun b hb => by
    have hlt := sz b hb
    refine ⟨⟨?_, (f2 b hb).2⟩, by rw [h3, Heap.size_push]; exact Nat.lt_succ_of_lt hlt⟩
    rw [upd_ne (by rw [← hD]; exact Nat.ne_of_lt hlt)]
    exact (f2 b hb).1
  have st3 : tn 0 s3.heap := T.keep _ _ _ st2 fun b _ o e => by rw [h3]; exact Heap.get?_push_of_some _ e
  have I4 := block_start I3 ok hN f3
  have pg := hg s3 (upd H2 D (SetNO X.w D [])) s3.heap.objs.size (cellsFrom (s3.heap.objs.size + 1) scope.names (cloFrom X.env.cells scope.names [])) fp
  have pt := ht s3 (upd H2 D (SetNO X.w D [])) s3.heap.objs.size (cellsFrom (s3.heap.objs.size + 1) scope.names (cloFrom X.env.cells scope.names [])) fp
  have pe := he s3 (upd H2 D (SetNO X.w D [])) s3.heap.objs.size (cellsFrom (s3.heap.objs.size + 1) scope.names (cloFrom X.env.cells scope.names [])) fp
  show codeAny _ _ (.compStart (.SetComp elt [⟨tg, iter, ifs, 0⟩] scope pos) 0 (.ref it) (.ref D) (compEnvC scope (cellsFrom (s3.heap.objs.size + 1) scope.names (cloFrom X.env.cells scope.names [])) s3.heap.objs.size X.env)) (compPost (model X.prog X.w) X.A X.xe use Qf (.ref D) s3.heap.objs.size) { s3 with heap := pushCells (s3.heap.push { cls := .type "dict", data := .dict #[] }) scope.names }
  have nfp : ∀ b ∈ fp, (upd H2 D (SetNO X.w D [])) b = none := fun b hb => (f3 b hb).1.1
  generalize hce : compEnvC scope (cellsFrom (s3.heap.objs.size + 1) scope.names (cloFrom X.env.cells scope.names [])) s3.heap.objs.size X.env = ce at I4 pg pt pe ⊢
  have cL : ce.locals = s3.heap.objs.size := by subst hce; rfl
  generalize hH3 : upd H2 D (SetNO X.w D []) = H3 at I3 I4 pg pt pe w0 nfp f3
  generalize hs4 : ({ s3 with heap := pushCells (s3.heap.push { cls := .type "dict", data := .dict #[] }) scope.names } : Shared) = s4 at I4 ⊢
  have st4 : tn 0 s4.heap := T.keep _ _ _ st3 fun b _ o e => by rw [← hs4]; exact pushCells_keeps _ _ _ _ (Heap.get?_push_of_some _ e)
  have stat : ∀ {σ' : L2.St} {H' : Hp} {s' : Shared}, Inv (X.blk s3 H3 scope ce fp) [] σ' H' s' → (∀ b ∈ fp, H' b = none) → ∀ b ∈ fp, FpOk (X.blk s3 H3 scope ce fp) [] H' b := fun {σ' H' s'} I' hn b hb =>
    ⟨hn b hb, (I'.ok.exf b hb).1, I'.ok.exfs b hb, .inl hb, fun x c e => (I'.ok.exf b hb).2 x c e, fun p hp => absurd (show p ∈ ([] : List (Addr × Obj)) ++ [] from hp) (by simp)⟩
  have loop : codeAny (model X.prog X.w) X.A (.compLoop (.SetComp elt [⟨tg, iter, ifs, 0⟩] scope pos) 0 (.ref it) (.ref D) ce) (compPost (model X.prog X.w) X.A X.xe use Qf (.ref D) s3.heap.objs.size) s4 := by
    refine PpSet.compLoopS_any (fun n s' => ∃ i H', Inv (X.blk s3 H3 scope ce fp) [] (wipe σ (own.map (·.2))) H' s' ∧ tn i s'.heap ∧ (∀ b ∈ fp, H' b = none) ∧ W i n H') ?_ m0 ⟨0, H3, I4, st4, nfp, w0⟩
    rintro n s5 ⟨i, H5, I5, st5, n5, w5⟩
    rcases turn i n H5 w5 with ⟨stop, qq⟩ | ⟨go, Nx, hNx, step⟩
    · have td := T.done (X.blk s3 H3 scope ce fp) rfl rfl rfl hc i [] s5 _ H5 (fun _ _ => False) I5 (stat I5 n5) st5 stop
      refine thnF td fun r s6 ⟨hr, I6⟩ => ?_
      subst hr
      -- back in the def's context
      have I7 : Inv X pins σ H5 s6 := I3.call' (ch := fp) I6.os I6.base I6.hok I6.bare fun b hb => ⟨(f3 b hb).1.2.2.2.1, (f3 b hb).1.2.1, (f3 b hb).1.2.2.2.2.1, (f3 b hb).1.2.2.2.2.2⟩
      have nC : H5 s3.heap.objs.size = none := by
        have z : H5 ce.locals = none := I6.free
        rw [cL] at z
        exact z
      obtain ⟨m, hn, _⟩ := I6.loc
      have hn : s6.heap.Ns ce.locals m := hn
      rw [cL] at hn
      exact hRR D s3.heap.objs.size s6 m H5 I7 qq hn (I3.fpOk (Nat.le_refl _) nC)
    · have ti := T.item (X.blk s3 H3 scope ce fp) rfl rfl rfl hc i [] s5 _ H5 (fun _ _ => False) I5 (stat I5 n5) st5 go
      refine thnF ti fun r s6 ⟨u, hr, h6⟩ => ?_
      subst hr
      refine thnF h6 fun _ s7 ⟨x, H7, I7, r7, y7, st7, n7⟩ => ?_
      have I7' := I7.pinned (stat I7 n7) (T.obj _ _ st7)
      refine thnF (pg.run _ s7 _ H7 x u _ I7' r7 (step x H7 y7)) fun _ s8 ⟨σ8, H8, I8, hw8, q8⟩ => ?_
      refine thnF (pt.run _ s8 σ8 H8 _ I8 q8) fun b s9 ⟨H9, I9, q9⟩ => ?_
      -- the turn's end
      have fin : ∀ {s' : Shared} {H' : Hp}, Inv (X.blk s3 H3 scope ce fp) ([] ++ pinsAt fp s7.heap) σ8 H' s' → Nx H' → ∃ m, m < n ∧ ∃ i H', Inv (X.blk s3 H3 scope ce fp) [] (wipe σ (own.map (·.2))) H' s' ∧ tn i s'.heap ∧ (∀ b ∈ fp, H' b = none) ∧ W i m H' := fun {s' H'} I' nx => by
        obtain ⟨m', hm, w'⟩ := hNx H' nx
        have pin' : ∀ b ∈ fp, ∀ o, s7.heap.get? b = some o → s'.heap.get? b = some o ∧ H' b = none := fun b hb o e =>
          let z := I'.pin (b, o) (List.mem_append_right _ (List.mem_append_right _ (mem_pinsAt hb e)))
          ⟨z.1, z.2.1⟩
        have hl : (wipe σ (own.map (·.2))).length = σ8.length := by rw [← hw8, wipe_length]
        refine ⟨m', hm, i + 1, H', (I'.unpinned (pins := [])).weak hl (fun j v e => ?_), T.keep _ _ _ st7 fun b hb o e => (pin' b hb o e).1, fun b hb => ?_, w'⟩
        · rw [← hw8] at e
          exact (wipe_some e).1
        · obtain ⟨o, e, _⟩ := T.obj _ _ st7 b hb
          exact (pin' b hb o e).2
      cases b with
      | false =>
        simp only [Bool.false_eq_true, if_false] at q9 ⊢
        exact fin I9 q9
      | true =>
        simp only [if_true] at q9 ⊢
        refine thnF (pe.run _ s9 σ8 H9 _ I9 q9) fun z s10 ⟨yv, H10, I10, r10, cb, ey, hD10, hz10, nx⟩ => ?_
        subst ey
        cases (show z = Value.ref cb from r10)
        exact addN_ok (X := X.blk s3 H3 scope ce fp) I10 hu hD10 hz10 fun s11 I11 => fin I11 nx
  exact PpSet.codeAny_compStart_set loop (T.self X.A 0 _ _ _ st4 loop)
/-- as a value -/
theorem pe_scN {elt tg iter : Expr} {ifs : List Expr} {scope : Scope} {own : List (PySem.Str × Nat)} {pos : Pos} {wi : TI} {g : TG} {tt : TT} {te : TE} (hc : X.calm = true) (hu : X.A.units + 9 < cLine) (hN : X.N.Nodup) (hi : PI X tg iter wi) (ok : BlkOk X.N X.env.scope scope own)
    (hg : ∀ (s : Shared) (H : Hp) (C : Addr) (cl : List (PySem.Str × Addr)) (fp : List Addr), PG (X.blk s H scope (compEnvC scope cl C X.env) fp) tg g) (ht : ∀ (s : Shared) (H : Hp) (C : Addr) (cl : List (PySem.Str × Addr)) (fp : List Addr), PTs (X.blk s H scope (compEnvC scope cl C X.env) fp) ifs tt)
    (he : ∀ (s : Shared) (H : Hp) (C : Addr) (cl : List (PySem.Str × Addr)) (fp : List Addr), PE (X.blk s H scope (compEnvC scope cl C X.env) fp) elt te) (hs : ∀ x, foldedSetIterable iter X.env x = pure x := by intro _; rfl) :
    PE X (.SetComp elt [⟨tg, iter, ifs, 0⟩] scope pos) (tScN X.w X.K wi g tt te (own.map (·.2))) := by
  refine ⟨fun pins s σ H Q I h => ?_⟩
  rw [PpSet.eval_SetComp]
  refine scN_core hc hu hN I hi ok hg ht he hs h fun D C s' m H' I' q hn f => ⟨m, hn, fun h'' sb => ?_⟩
  obtain ⟨f0, f1, f2, f3, f4, f5⟩ := f
  exact ⟨.ref D, H', I'.turned (t' := s'.toks) (fun b o hb e => (sb.2 b hb).trans e) f0 f1 f3 f4 f5, rfl, q⟩
end
end Tp
set_option Elab.async false
set_option linter.all false
set_option maxRecDepth 100000
set_option maxHeartbeats 4000000
/-! faults(program). -/
namespace Tp
open PySem PySem.Spec PyProof.Rows L2
abbrev sFaults : Stmt := topS 25
abbrev nFaults : List Str := ["program", "table", "found", "at", "word", "place", "name", "params", "body", "one", "row", "k", "param"]
theorem scFaults : FnScope nFaults ["program"] (defScope sFaults) := ⟨rfl, rfl, rfl, by decide +kernel, rfl, by decide +kernel, by decide +kernel⟩
section
variable {J : It} {n : Nat} {G : Hp → Prop} {Y : Nat → Hp → V → Hp → Prop}
/-- a dict comprehension over a walk -/
theorem dc_it (w : Walk J n G Y) {g : TG} {tt : TT} {tk tv : TE} {vs : List Nat} {σ : L2.St} {H1 : Hp} {D : Addr} {Qd : Hp → Prop} (Pv : Nat → Hp → Prop) (h0 : Pv 0 (upd H1 D (.dK []))) (hG : ∀ i H, i ≤ n → Pv i H → G H)
    (hs : ∀ i x H H', i < n → Pv i H → Y i H x H' → g x (wipe σ vs) H' fun σ2 H2 => wipe σ2 vs = wipe σ vs ∧ tt σ2 H2 fun b H3 =>
      if b = true then tk σ2 H3 fun y H4 => tv σ2 H4 fun z H5 => ∃ kvs k, y = kV k ∧ H5 D = some (.dK kvs) ∧ kvs.length < sizeLine ∧ Pv (i + 1) (upd H5 D (.dK (putK kvs k z))) else Pv (i + 1) H3) (hd : ∀ H, Pv n H → Qd H) :
    ∃ W : Nat → Nat → Hp → Prop, (∃ m, W 0 m (upd H1 D (.dK []))) ∧ ∀ i m H, W i m H →
      (J.stop i H ∧ Qd H) ∨ (J.go i H ∧ ∃ Nx : Hp → Prop, (∀ H', Nx H' → ∃ m', m' < m ∧ W (i + 1) m' H') ∧ ∀ x H', J.yld i H x H' → g x (wipe σ vs) H' fun σ2 H2 => wipe σ2 vs = wipe σ vs ∧ tt σ2 H2 fun b H3 =>
        if b = true then tk σ2 H3 fun y H4 => tv σ2 H4 fun z H5 => ∃ kvs k, y = kV k ∧ H5 D = some (.dK kvs) ∧ kvs.length < sizeLine ∧ Nx (upd H5 D (.dK (putK kvs k z))) else Nx H3) := by
  refine ⟨fun i m H => m = n - i ∧ i ≤ n ∧ Pv i H, ⟨n, by simp, Nat.zero_le _, h0⟩, ?_⟩
  rintro i m H ⟨rfl, hi, p⟩
  by_cases hlt : i < n
  · exact .inr ⟨w.goes i H hlt (hG i H hi p), Pv (i + 1), fun H' p' => ⟨n - (i + 1), by omega, rfl, hlt, p'⟩, fun x H' y => hs i x H H' hlt p (w.yields i H x H' hlt (hG i H hi p) y)⟩
  · obtain rfl : i = n := by omega
    exact .inl ⟨w.stops H (hG i H hi p), hd H p⟩
/-- a comprehension of a small set over a walk -/
theorem scN_it (w : Walk J n G Y) {w0 : World} {K : PySem.W.Frag} {g : TG} {tt : TT} {te : TE} {vs : List Nat} {σ : L2.St} {H1 : Hp} {D : Addr} {Qd : Hp → Prop} (Pv : Nat → Hp → Prop) (h0 : Pv 0 (upd H1 D (SetNO w0 D []))) (hG : ∀ i H, i ≤ n → Pv i H → G H)
    (hs : ∀ i x H H', i < n → Pv i H → Y i H x H' → g x (wipe σ vs) H' fun σ2 H2 => wipe σ2 vs = wipe σ vs ∧ tt σ2 H2 fun b H3 =>
      if b = true then te σ2 H3 fun y H4 => ∃ (c : Addr), y = .ref c ∧ H4 D = some (SetNO w0 D []) ∧ RowV K H4 c ∧ Pv (i + 1) (upd H4 D (SetNO w0 D [c])) else Pv (i + 1) H3) (hd : ∀ H, Pv n H → Qd H) :
    ∃ W : Nat → Nat → Hp → Prop, (∃ m, W 0 m (upd H1 D (SetNO w0 D []))) ∧ ∀ i m H, W i m H →
      (J.stop i H ∧ Qd H) ∨ (J.go i H ∧ ∃ Nx : Hp → Prop, (∀ H', Nx H' → ∃ m', m' < m ∧ W (i + 1) m' H') ∧ ∀ x H', J.yld i H x H' → g x (wipe σ vs) H' fun σ2 H2 => wipe σ2 vs = wipe σ vs ∧ tt σ2 H2 fun b H3 =>
        if b = true then te σ2 H3 fun y H4 => ∃ (c : Addr), y = .ref c ∧ H4 D = some (SetNO w0 D []) ∧ RowV K H4 c ∧ Nx (upd H4 D (SetNO w0 D [c])) else Nx H3) := by
  refine ⟨fun i m H => m = n - i ∧ i ≤ n ∧ Pv i H, ⟨n, by simp, Nat.zero_le _, h0⟩, ?_⟩
  rintro i m H ⟨rfl, hi, p⟩
  by_cases hlt : i < n
  · exact .inr ⟨w.goes i H hlt (hG i H hi p), Pv (i + 1), fun H' p' => ⟨n - (i + 1), by omega, rfl, hlt, p'⟩, fun x H' y => hs i x H H' hlt p (w.yields i H x H' hlt (hG i H hi p) y)⟩
  · obtain rfl : i = n := by omega
    exact .inl ⟨w.stops H (hG i H hi p), hd H p⟩
end
section
variable {X : Cx}
/-- name = {..} on one line, the name a local -/
theorem ps_setDc {i : Nat} {y : Str} {py : Pos} {kx vx tg iter : Expr} {ifs : List Expr} {scope : Scope} {own : List (Str × Nat)} {pos spos : Pos} {wi : TI} {g : TG} {tt : TT} {tk tv : TE} (hc : X.calm = true) (hN : X.N.Nodup) (hy : X.N[i]? = some y) (hyl : X.env.scope.names.lookup y = some .local)
    (hsw : swapsWith (.DictComp kx vx [⟨tg, iter, ifs, 0⟩] scope pos) (some (.Name y py)) spos.line X.env = pure true) (hi : PI X tg iter wi) (ok : BlkOk X.N X.env.scope scope own)
    (hg : ∀ (s : Shared) (H : Hp) (C : Addr) (cl : List (Str × Addr)) (fp : List Addr), PG (X.blk s H scope (compEnvC scope cl C X.env) fp) tg g) (ht : ∀ (s : Shared) (H : Hp) (C : Addr) (cl : List (Str × Addr)) (fp : List Addr), PTs (X.blk s H scope (compEnvC scope cl C X.env) fp) ifs tt)
    (hk : ∀ (s : Shared) (H : Hp) (C : Addr) (cl : List (Str × Addr)) (fp : List Addr), PE (X.blk s H scope (compEnvC scope cl C X.env) fp) kx tk)
    (he : ∀ (s : Shared) (H : Hp) (C : Addr) (cl : List (Str × Addr)) (fp : List Addr), PE (X.blk s H scope (compEnvC scope cl C X.env) fp) vx tv) (hs : ∀ x, foldedSetIterable iter X.env x = pure x := by intro _; rfl) :
    PS X (.Assign [.Name y py] (.DictComp kx vx [⟨tg, iter, ifs, 0⟩] scope pos) spos) (tAsg (tDc wi g tt tk tv (own.map (·.2))) (gName i)) := by
  refine ⟨fun pins s σ H D I h => ?_⟩
  rw [exec_Assign_Name_used _ _ _ _ hsw]
  refine wpAny_bind (wpAny_standAt (wpAny_bind ?_))
  show wpAny _ X.A (do let _ ← comprehension (.DictComp kx vx [⟨tg, iter, ifs, 0⟩] scope pos) scope X.env (firstIterPos [⟨tg, iter, ifs, 0⟩] pos) newDict false (eval iter X.env) (some (assign (.Name y py) X.env))) _ _ s
  have h : tDc wi g tt tk tv (own.map (·.2)) σ H (fun x H1 => gName i x σ H1 D.nx) := h
  refine wpAny_bind (thn (dc_core (Qf := fun _ s' => SP X pins D .next s') hc hN I hi ok hg ht hk he hs h fun L C s' m H' I' q hn f => ?_) fun _ s' hq => wpAny_pure (wpAny_pure hq))
  show wpAny _ _ (assign (.Name y py) X.env (.ref L)) _ _ _
  refine wpAny_assign_Name (store_ok2 (v := V.ref L) I' hN hy (.inl hyl) rfl (fun s2 I2 ⟨a, sb, ha⟩ => ?_) (.inr hyl))
  obtain ⟨f0, f1, f2, f3, f4, f5⟩ := f
  have haC : C ≠ a := by
    rcases ha with z | z
    · rw [z]; exact f1
    · exact fun e => f4 y a z e.symm
  exact ⟨m, hn.sameBut sb haC, fun h3 sb3 => ⟨_, H', I2.turned (t' := s2.toks) (fun b o hb e => (sb3.2 b hb).trans e) f0 f1 f3 f4 f5, q⟩⟩
theorem sw_trueD {kx vx : Expr} {gs : List Comprehension} {scope : Scope} {pos py : Pos} {y : Str} {l : Nat} {env : Env} (hk : env.scope.kind = .function) (hy : env.scope.names.lookup y = some .local) (hl : (py.line == pos.line) = true)
    (ha : (scope.names.any fun (n, k) => n == y && (k == .local || k == .cell)) = false) : swapsWith (.DictComp kx vx gs scope pos) (some (.Name y py)) l env = pure true := by
  have ky : env.kindOf y = some .local := hy
  have hb : env.blockKind = .function := by unfold Env.blockKind; rw [hk]; rfl
  unfold swapsWith
  simp only [hb, ky, ha, Expr.pos, hl]
  rfl
end
/-- reversed(a tuple) -/
theorem walk_revT {K : PySem.W.Frag} {a : Addr} {xs : List V} : Walk (RT.ItvT K a xs.length) xs.length (fun H => SqT K H a xs) (fun i H x H' => H' = H ∧ xs[xs.length - 1 - i]? = some x) :=
  ⟨fun i _ hi q => ⟨hi, xs, xs[xs.length - 1 - i]'(by omega), q, by simp [show xs.length - 1 - i < xs.length by omega]⟩, fun _ _ => Nat.le_refl _, fun _ _ _ _ _ q y => ⟨y.1, y.2 xs q⟩⟩
theorem cut_to (xs : List V) {k : Nat} (hk : k ≤ xs.length) : cutV xs none (some (k : Int)) = xs.take k := by
  unfold cutV
  rw [HT.sIx_nat, HT.sIx_none, List.drop_zero, Nat.sub_zero, Nat.min_eq_left hk]
theorem not_whole {n k : Nat} (hk : k < n) (h : HT.sIx n 0 none = 0 ∧ HT.sIx n n (some (k : Int)) = n) : False := by
  have e := h.2
  rw [HT.sIx_nat] at e
  omega
theorem nodup_ne {α : Type} {l : List α} (h : l.Nodup) {i j : Nat} {x : α} (hi : l[i]? = some x) (hj : l[j]? = some x) (ne : i ≠ j) : False := by
  obtain ⟨h1, e1⟩ := List.getElem?_eq_some_iff.mp hi
  obtain ⟨h2, e2⟩ := List.getElem?_eq_some_iff.mp hj
  rcases Nat.lt_or_gt_of_ne ne with c | c
  · exact List.pairwise_iff_getElem.mp h i j h1 h2 c (e1.trans e2.symm)
  · exact List.pairwise_iff_getElem.mp h j i h2 h1 c (e2.trans e1.symm)
/-- the table of a program, its faults -/
def tabOf : List Df → Str → Option Nat
  | [], _ => none
  | f :: fs, z => if z = f.nm then some f.ps.length else tabOf fs z
def pflTo (tab : Str → Option Nat) : List Df → List Flt
  | [] => []
  | f :: fs => flt tab f.b f.ps ++ pflTo tab fs
def pfl (fs : List Df) : List Flt := pflTo (tabOf fs) fs
theorem pflTo_app (tab : Str → Option Nat) : ∀ xs ys : List Df, pflTo tab (xs ++ ys) = pflTo tab xs ++ pflTo tab ys
  | [], ys => rfl
  | x :: xs, ys => by
    show flt tab x.b x.ps ++ pflTo tab (xs ++ ys) = (flt tab x.b x.ps ++ pflTo tab xs) ++ pflTo tab ys
    rw [pflTo_app tab xs ys, List.append_assoc]
theorem pflTo_take (tab : Str → Option Nat) (fs : List Df) (i : Nat) : (pflTo tab (fs.take i)).length ≤ (pflTo tab fs).length := by
  have e := pflTo_app tab (fs.take i) (fs.drop i)
  rw [List.take_append_drop] at e
  rw [e, List.length_append]
  omega
section
variable {P : Program} {w : World} {K : PySem.W.Frag} {mg : Str → Option Value} {base : Heap} {ka oa : Addr} {tl tn tp td te : Tok}
def spFaults : Sp := fun vs H Q _ => ∃ (v : V) (fs : List Df), vs = [v] ∧ PrAt H v fs ∧ PrOk fs ∧ (fs.map Df.nm).Nodup ∧ (∀ f ∈ fs, f.ps.Nodup) ∧ (pfl fs).length ≤ 1 ∧
  ∀ l us H', Same H H' → H l = none → H' l = some (.lst us) → FlsAt H' us (pfl fs) → Q (.ref l) H'
theorem dn_faults (A : At K mg "faults" sFaults ["program"]) (B : Bt mg) (DNeedProgram : Dn P w K mg base "need_program" 17 ["thing"] spNeedProgram) (DTreeFaults : Dn P w K mg base "tree_faults" 13 ["tree", "near", "table"] (spTreeFaults 10)) : Dn P w K mg base "faults" 18 ["program"] spFaults := by
  refine A.dn fun f fd F => F.ok scFaults (fun vs H Q E h => ?_) (fun cdv A outer s H vs Q E hr h => ?_)
  · obtain ⟨v, fs, rfl, _⟩ := h
    rfl
  obtain ⟨v, fs, rfl, hpr, hok, hnd, hpd, hle, q⟩ := h
  obtain ⟨ys, ⟨a, rfl, ha⟩, hfs⟩ := id hpr
  have hl := paired_len hfs
  obtain ⟨ok1, ok2⟩ := id hok
  refine ⟨_, (pss_cons (ps_expr (pe_dn DNeedProgram hr (by omega) (by rfl) (pa_cons (pv 0) pa_nil)))
   (pss_cons (ps_setDc (i := 1) (own := [("one", 9)]) (g := gName 9) (tt := tYes) rfl scFaults.nd rfl rfl (sw_trueD rfl rfl rfl (by decide +kernel)) (RT.pi_revA (by rfl) B.rev (pv 0)) (blkOk_by (N := nFaults) (sc := defScope sFaults) (by decide +kernel)) (fun _ _ _ _ _ => (pg_name (i := 9) scFaults.nd rfl (.inl rfl))) (fun _ _ _ _ _ => pts_nil) (fun _ _ _ _ _ => (pe_ix (show IxR _ (rIxT K) from ix_tup) (pv 9) pe_int (fun _ _ => rfl))) (fun _ _ _ _ _ => (pe_callB (call_lenK (K := K) rfl) (by rfl) B.len PySem.boot_len (pa_cons (pe_ix (show IxR _ (rIxT K) from ix_tup) (pv 9) pe_int (fun _ _ => rfl)) pa_nil))))
   (pss_cons (ps_set (i := 2) scFaults.nd rfl (.inl rfl) (pe_lst pa_nil))
   (pss_cons (ps_for PassesOwn.never rfl (pi_enumT (by rfl) B.enum (pv 0)) (pg_tup rfl (pgs_cons (pg_name (i := 3) scFaults.nd rfl (.inl rfl)) (pgs_cons (pg_tup rfl (pgs_cons (pg_name (i := 4) scFaults.nd rfl (.inl rfl)) (pgs_cons (pg_name (i := 5) scFaults.nd rfl (.inr rfl)) (pgs_cons (pg_name (i := 6) scFaults.nd rfl (.inl rfl)) (pgs_cons (pg_name (i := 7) scFaults.nd rfl (.inr rfl)) (pgs_cons (pg_name (i := 8) scFaults.nd rfl (.inl rfl)) pgs_nil)))))) pgs_nil)))
   (pss_cons (ps_if (pt_cmpR op_in_seq (pv 6) (pe_lc (own := [("one", 9)]) (g := gName 9) (tt := tYes) rfl scFaults.nd (pi_tup (pe_slice sl_tupA (pv 0) po_none (po_some (pv 3)))) (blkOk_by (N := nFaults) (sc := defScope sFaults) (by decide +kernel)) (fun _ _ _ _ _ => (pg_name (i := 9) scFaults.nd rfl (.inl rfl))) (fun _ _ _ _ _ => pts_nil) (fun _ _ _ _ _ => (pe_ix (show IxR _ (rIxT K) from ix_tup) (pv 9) pe_int (fun _ _ => rfl)))) (by rfl))
   (pss_one (ps_expr (pe_bm PySem.F.plainAttrs_list PySem.F.slot_list_append PySem.F.type_list_append mt_append (pv 2) (pa_cons (pe_tup (pa_cons (pv 5) (pa_cons pe_str (pa_cons (pv 6) pa_nil)))) pa_nil))))
   pss_nil)
   (pss_cons (ps_set (i := 2) scFaults.nd rfl (.inl rfl) (pe_op op_cat (pv 2) (pe_lc (own := [("k", 11), ("param", 12)]) (g := gTup K 2 (gCons (gName 11) (gCons (gName 12) gNil))) rfl scFaults.nd (pi_enumT (by rfl) B.enum (pv 7)) (blkOk_by (N := nFaults) (sc := defScope sFaults) (by decide +kernel)) (fun _ _ _ _ _ => (pg_tup rfl (pgs_cons (pg_name (i := 11) scFaults.nd rfl (.inl rfl)) (pgs_cons (pg_name (i := 12) scFaults.nd rfl (.inl rfl)) pgs_nil)))) (fun _ _ _ _ _ => (pts_one (pt_cmpR (show OpR _ _ (rIn K false) from op_in_seq) (pv 12) (pe_slice (show SlR _ (rSlA K) from sl_tupA) (pv 7) po_none (po_some (pv 11))) (by rfl)))) (fun _ _ _ _ _ => (pe_tup (pa_cons (pv 5) (pa_cons pe_str (pa_cons (pv 12) pa_nil))))))))
   (pss_one (ps_set (i := 2) scFaults.nd rfl (.inl rfl) (pe_op op_cat (pv 2) (pe_dn DTreeFaults hr (by omega) (by rfl) (pa_cons (pv 8) (pa_cons (pv 7) (pa_cons (pv 1) pa_nil))))))))))
   (pss_one (ps_ret (pe_callB (cr_sortN rfl) (by rfl) B.sorted bi_sorted (pa_cons (pe_scN (own := [("row", 10)]) (g := gName 10) (tt := tYes) rfl (hu9 hr) scFaults.nd (pi_list (pv 2)) (blkOk_by (N := nFaults) (sc := defScope sFaults) (by decide +kernel)) (fun _ _ _ _ _ => (pg_name (i := 10) scFaults.nd rfl (.inl rfl))) (fun _ _ _ _ _ => pts_nil) (fun _ _ _ _ _ => (pv 10))) pa_nil)))))))), ?_⟩
  refine ⟨_, rfl, .ref a, fs, rfl, hpr, hok, fun H1 s1 => ?_⟩
  have hpr1 := hpr.mono (KT.of s1)
  have ha1 := s1 _ _ ha
  have hfs1 : Paired (DfAt H1) ys fs := Paired.mapP hfs fun _ _ z => z.mono (KT.of s1)
  refine ⟨_, rfl, a, ys, rfl, .inr ⟨SqT.of ha1, fun Dt nDt => ?_⟩⟩
  refine dc_it walk_revT (fun i H2 => Same H1 H2 ∧ ∃ kvs, H2 Dt = some (.dK kvs) ∧ kvs.length ≤ i ∧ ∀ z, valV kvs (.inr z) = (tabOf (fs.drop (ys.length - i)) z).map fun (n : Nat) => V.int (n : Int)) ?_ (fun i H2 _ p => SqT.of (p.1 _ _ ha1)) (fun i x H2 H3 hi p y => ?_) fun H2 p => ?_
  · refine ⟨same_new nDt, [], upd_same, Nat.zero_le _, fun z => ?_⟩
    rw [Nat.sub_zero, hl, List.drop_length]
    rfl
  · obtain ⟨rfl, hx⟩ := y
    obtain ⟨s2, kvs, hk, hkl, hkv⟩ := p
    obtain ⟨f, hf, y1, g, bv, hp1, ⟨g, rfl, hg⟩, hb, b, rfl, hb2⟩ := Paired.get hfs1 hx
    have hb3 := s2 _ _ hb2
    have hg3 := s2 _ _ hg
    refine ⟨rfl, _, rfl, b, _, _, _, rfl, rfl, SqT.of hb3, atI_nat (j := 2) rfl, _, rfl, b, _, _, _, rfl, rfl, SqT.of hb3, atI_nat (j := 3) rfl, g, _, rfl, .inr (SqT.of hg3), kvs, .inr f.nm, rfl, hk, line9' (by omega), ?_⟩
    refine ⟨same_over (o := .dK []) nDt s2, _, upd_same, Nat.le_trans (length_putK _ _ _) (by omega), fun z => ?_⟩
    rw [valV_put]
    have e1 : fs.drop (ys.length - (i + 1)) = f :: fs.drop (ys.length - i) := by
      have hlt : ys.length - 1 - i < fs.length := by omega
      rw [show ys.length - (i + 1) = ys.length - 1 - i by omega, List.drop_eq_getElem_cons hlt, show ys.length - 1 - i + 1 = ys.length - i by omega]
      rw [List.getElem?_eq_getElem hlt] at hf
      rw [Option.some.inj hf]
    rw [e1]
    show _ = Option.map _ (if z = f.nm then some f.ps.length else tabOf (fs.drop (ys.length - i)) z)
    by_cases hz : z = f.nm
    · rw [if_pos (by rw [hz]), if_pos hz, List.length_map]
      rfl
    · rw [if_neg (fun e => hz (Sum.inr.inj e)), if_neg hz]
      exact hkv z
  obtain ⟨s2, kvs, hk, _, hkv⟩ := p
  rw [Nat.sub_self, List.drop_zero] at hkv
  refine ⟨line9 (by decide), fun l0 nl0 => ?_⟩
  have s3 : Same H1 (upd H2 l0 (.lst [])) := s2.trans (same_new nl0)
  have hT : TbAt (upd H2 l0 (.lst [])) Dt (tabOf fs) := ⟨kvs, same_new nl0 _ _ hk, hkv⟩
  have hl0 : upd H2 l0 (.lst []) l0 = some (.lst []) := upd_same
  generalize upd H2 l0 (.lst []) = H3 at s3 hT hl0
  have ha3 := s3 _ _ ha1
  have hfs3 : Paired (DfAt H3) ys fs := Paired.mapP hfs1 fun _ _ z => z.mono (KT.of s3)
  refine ⟨_, rfl, a, ys, rfl, SqT.of ha3, ?_⟩
  refine for_it (walk_enumT (xs := ys)) (fun i σ H4 => Same H3 H4 ∧ ∃ l us x3 x4 x5 x6 x7 x8 x9 x10 x11 x12, σ = [some (.ref a), some (.ref Dt), some (.ref l), x3, x4, x5, x6, x7, x8, x9, x10, x11, x12] ∧ H4 l = some (.lst us) ∧ FlsAt H4 us (pflTo (tabOf fs) (fs.take i))) ?_ (fun i σ H4 hi p => SqT.of (p.1 _ _ ha3)) (fun i x σ H4 H5 hi p y => ?_) fun σ H4 p => ?_
  · exact ⟨fun _ _ h => h, l0, [], _, _, _, _, _, _, _, _, _, _, rfl, hl0, .nil⟩
  · obtain ⟨s4, l, us, x3, x4, x5, x6, x7, x8, x9, x10, x11, x12, rfl, hlu, hfl⟩ := p
    obtain ⟨T, xi, xv, rfl, nT, rfl, ei, hx⟩ := y
    obtain rfl := Option.some.inj ei
    obtain ⟨f, hf, y1, g, bv, hp1, ⟨g, rfl, hg⟩, hbt, b, rfl, hb⟩ := Paired.get hfs3 hx
    have s5 := s4.trans (same_new (o := .tup [.int (i : Nat), .ref b]) nT)
    have hlu := same_new (o := .tup [.int (i : Nat), .ref b]) nT _ _ hlu
    have hfl := hfl.mono (KT.of (same_new (o := .tup [.int (i : Nat), .ref b]) nT))
    have hT5 : upd H4 T (.tup [.int (i : Nat), .ref b]) T = some (.tup [.int (i : Nat), .ref b]) := upd_same
    generalize upd H4 T (.tup [.int (i : Nat), .ref b]) = H5 at s5 hlu hfl hT5
    have hlt : i < fs.length := by omega
    obtain ⟨o1, o2, o3, o4, o5⟩ := ok2 f (List.mem_of_getElem? hf)
    refine ⟨T, _, rfl, SqT.of hT5, rfl, _, _, rfl, _, _, rfl, ?_⟩
    refine ⟨b, _, rfl, SqT.of (s5 _ _ hb), rfl, _, _, rfl, _, _, rfl, _, _, rfl, _, _, rfl, _, _, rfl, rfl, rfl, ?_⟩
    -- the names ahead
    have ha5 := s5 _ _ ha3
    refine ⟨_, rfl, _, rfl, _, rfl, (i : Int), rfl, a, ys, rfl, SqT.of ha5, fun h => (not_whole (by omega) h).elim, fun _ b2 nb2 => ?_⟩
    rw [cut_to ys (by omega)]
    have s6 := same_new (o := .tup (ys.take i)) nb2
    have hb6 : upd H5 b2 (.tup (ys.take i)) b2 = some (.tup (ys.take i)) := upd_same
    generalize upd H5 b2 (.tup (ys.take i)) = H6 at s6 hb6
    refine ⟨b2, rfl, ⟨_, SqT.of hb6⟩, fun D nD => lc_it (walk_tup (xs := ys.take i)) (fun j H7 => Same H6 H7 ∧ H7 D = some (.lst (((fs.take j).map Df.nm).map V.str))) ⟨same_new nD, upd_same⟩ (fun j H7 _ p => SqT.of (p.1 _ _ hb6)) (fun j x H7 H8 hj p y => ?_) fun H7 p => ?_⟩
    · obtain ⟨rfl, hx2⟩ := y
      obtain ⟨s7, hD7⟩ := p
      rw [List.length_take] at hj
      rw [List.getElem?_take_of_lt (by omega)] at hx2
      obtain ⟨f2, hf2, y2, g2, bv2, _, _, _, b3, rfl, hb3⟩ := Paired.get hfs3 hx2
      refine ⟨rfl, _, rfl, b3, _, _, _, rfl, rfl, SqT.of (s7 _ _ (s6 _ _ (s5 _ _ hb3))), atI_nat (j := 2) rfl, _, hD7, ?_, same_over (o := .lst []) nD s7, ?_⟩
      · rw [List.length_map, List.length_map, List.length_take]
        exact line9' (by omega)
      · rw [upd_same, List.take_add_one, hf2, List.map_append, List.map_append]
        rfl
    · obtain ⟨s7, hD7⟩ := p
      have s8 := s6.trans s7
      refine ⟨D, _, rfl, .inl (SqL.of hD7), rfl, flat_str _, _, rfl, iteBF ?_ ?_⟩
      · show inV (.str f.nm) _ = false
        rw [inV_str]
        refine decide_eq_false fun hm => ?_
        rw [List.length_take, Nat.min_eq_left (by omega)] at hm
        obtain ⟨f2, hm2, e2⟩ := List.mem_map.mp hm
        obtain ⟨j, hj⟩ := List.getElem?_of_mem hm2
        have hji : j < i := by
          by_cases h : j < i
          · exact h
          · rw [List.getElem?_take_eq_none (by omega)] at hj; cases hj
        rw [List.getElem?_take_of_lt hji] at hj
        exact nodup_ne hnd (show (fs.map Df.nm)[j]? = some f.nm by rw [List.getElem?_map, hj, ← e2]; rfl) (show (fs.map Df.nm)[i]? = some f.nm by rw [List.getElem?_map, hf]; rfl) (by omega)
      have hg7 := s8 _ _ (s5 _ _ hg)
      refine ⟨_, rfl, _, rfl, g, _, rfl, SqT.of hg7, fun D2 nD2 => lc_it (walk_enumT (xs := f.ps.map V.str)) (fun j H8 => Same H7 H8 ∧ H8 D2 = some (.lst [])) ⟨same_new nD2, upd_same⟩ (fun j H8 _ p => SqT.of (p.1 _ _ hg7)) (fun j x H8 H9 hj p y => ?_) fun H8 p => ?_⟩
      · obtain ⟨T2, xj, xp, rfl, nT2, rfl, ej, hxp⟩ := y
        obtain rfl := Option.some.inj ej
        obtain ⟨s9, hD9⟩ := p
        replace hxp : (f.ps.map V.str)[j]? = some xp := hxp
        rw [List.getElem?_map] at hxp
        cases hz : f.ps[j]? with
        | none => rw [hz] at hxp; cases hxp
        | some z =>
          rw [hz] at hxp
          obtain rfl := Option.some.inj hxp
          have s10 := same_new (o := .tup [.int (j : Nat), .str z]) nT2
          have hg9 := s10 _ _ (s9 _ _ hg7)
          have hD10 := s10 _ _ hD9
          have hT2 : upd H8 T2 (.tup [.int (j : Nat), .str z]) T2 = some (.tup [.int (j : Nat), .str z]) := upd_same
          have s11 := s9.trans s10
          generalize upd H8 T2 (.tup [.int (j : Nat), .str z]) = H9 at hg9 hD10 hT2 s11
          rw [List.length_map] at hj
          refine ⟨T2, _, rfl, SqT.of hT2, rfl, _, _, rfl, _, _, rfl, rfl, rfl, ?_⟩
          refine ⟨_, rfl, _, rfl, _, rfl, (j : Int), rfl, g, _, rfl, SqT.of hg9, fun h => (not_whole (by rw [List.length_map]; omega) h).elim, fun _ b4 nb4 => ?_⟩
          rw [cut_to _ (by rw [List.length_map]; omega), ← List.map_take]
          have s12 := same_new (o := .tup ((f.ps.take j).map V.str)) nb4
          refine ⟨b4, _, rfl, .inr (SqT.of upd_same), rfl, flat_str _, _, rfl, iteBF ?_ ⟨s11.trans s12, s12 _ _ hD10⟩⟩
          show inV (.str z) _ = false
          rw [inV_str]
          refine decide_eq_false fun hm => ?_
          obtain ⟨k, hk⟩ := List.getElem?_of_mem hm
          have hkj : k < j := by
            by_cases h : k < j
            · exact h
            · rw [List.getElem?_take_eq_none (by omega)] at hk; cases hk
          rw [List.getElem?_take_of_lt hkj] at hk
          exact nodup_ne (hpd f (List.mem_of_getElem? hf)) hk hz (by omega)
      · obtain ⟨s9, hD9⟩ := p
        have s10 := s8.trans s9
        have hul : us.length ≤ 1 := by
          rw [paired_len hfl]
          exact Nat.le_trans (pflTo_take _ _ _) hle
        refine ⟨l, D2, us, [], rfl, rfl, s10 _ _ hlu, hD9, Nat.le_of_lt (line9' (by show us.length + 0 ≤ 1000; omega)), fun l2 nl2 => ?_⟩
        rw [List.append_nil]
        have s11 := s10.trans (same_new (o := .lst us) nl2)
        have hl2 : upd H8 l2 (.lst us) l2 = some (.lst us) := upd_same
        generalize upd H8 l2 (.lst us) = H9 at s11 hl2
        have s12 := s5.trans s11
        refine ⟨_, rfl, _, rfl, _, rfl, _, rfl, bv, .ref g, Dt, f.b, f.ps, tabOf fs, rfl, hbt.mono (KT.of s12), o5, Nat.le_refl _, ⟨g, rfl, s12 _ _ hg⟩, by omega, hT.mono s12, fun l4 us4 H10 s13 nl4 hl4 hf4 => ?_⟩
        have hsum : FlsAt H10 (us ++ us4) (pflTo (tabOf fs) (fs.take (i + 1))) := by
          rw [List.take_add_one, hf, pflTo_app]
          refine paired_app (hfl.mono (KT.of (s11.trans s13))) ?_
          show FlsAt _ _ (flt (tabOf fs) f.b f.ps ++ [])
          rw [List.append_nil]
          exact hf4
        have hsl : (us ++ us4).length ≤ 1 := by
          rw [paired_len hsum]
          exact Nat.le_trans (pflTo_take _ _ _) hle
        rw [List.length_append] at hsl
        refine ⟨l2, l4, us, us4, rfl, rfl, s13 _ _ hl2, hl4, Nat.le_of_lt (line9' (by omega)), fun l5 nl5 => ?_⟩
        have s14 := same_new (o := .lst (us ++ us4)) nl5
        exact ⟨(s12.trans s13).trans s14, l5, us ++ us4, _, _, _, _, _, _, _, _, _, _, rfl, upd_same, hsum.mono (KT.of s14)⟩
  · obtain ⟨s4, l, us, x3, x4, x5, x6, x7, x8, x9, x10, x11, x12, rfl, hlu, hfl⟩ := p
    rw [hl, List.take_length] at hfl
    have hul : us.length ≤ 1 := by
      rw [paired_len hfl]
      exact hle
    refine ⟨_, rfl, l, rfl, ⟨us, SqL.of hlu⟩, fun D nD => scN_it (walk_list (xs := us)) (fun j H5 => Same H4 H5 ∧ ∃ as, H5 D = some (SetNO w D as) ∧ as.map V.ref = us.take j) ⟨same_new nD, [], upd_same, rfl⟩ (fun j H5 _ p => SqL.of (p.1 _ _ hlu)) (fun j x H5 H6 hj p y => ?_) fun H5 p => ?_⟩
    · obtain ⟨rfl, hx⟩ := y
      obtain ⟨s5, as, hD, has⟩ := p
      have hj0 : j = 0 := by omega
      subst hj0
      have has0 : as = [] := List.map_eq_nil_iff.mp has
      subst has0
      obtain ⟨fl, _, y1, ⟨pa, rfl, hpa⟩, c, rfl, hc⟩ := Paired.get hfl hx
      refine ⟨rfl, _, rfl, c, rfl, hD, ⟨pa, fl.p, fl.q, fl.word, fl.name, SqT.of (s5 _ _ hc), SqT.of (s5 _ _ hpa)⟩, same_over (o := SetNO w D []) nD s5, [c], upd_same, ?_⟩
      rw [List.take_add_one, hx]
      rfl
    · obtain ⟨s5, as, hD, has⟩ := p
      rw [List.take_length] at has
      refine ⟨D, as, rfl, hD, fun p np => ?_⟩
      rw [has]
      have s6 := (((s1.trans s3).trans s4).trans s5).trans (same_new (o := .lst us) np)
      exact q p us _ s6 ((((s1.trans s3).trans s4).trans s5).none np) upd_same (hfl.mono (KT.of (s5.trans (same_new np))))
end
end Tp
set_option Elab.async false
set_option linter.all false
set_option maxRecDepth 100000
/-! The names that the law draws: the plain law. -/
namespace Tp
open PySem L2
def chL (z : Str) : List Nat := z.cps.toList
theorem chL_app (a b : Str) : chL (a ++ b) = chL a ++ chL b := Array.toList_append
theorem chL_len (a : Str) : (chL a).length = a.length := Array.length_toList
theorem chL_inj {a b : Str} (h : chL a = chL b) : a = b := by
  cases a with
  | mk x =>
    cases b with
    | mk y =>
      have e : x = y := Array.toList_inj.mp h
      rw [e]
def lettersL : List Nat := chL lettersS
theorem letters_at : ∀ a, a < 26 → lettersL[a]? = some (97 + a) := by decide +kernel
structure NamesOk (ns : List Str) : Prop where
  len : ns.length = 8
  nd : ns.Nodup
  ok : ∀ z ∈ ns, NameOk z
  wh : ∀ b, b ∈ ns → b ++ ("x" : Str) ∉ ns
/-- the name ahead of its q -/
def nmCore (stem more : Str) (c k : Nat) : Str := stem ++ ⟨#[c]⟩ ++ (if k % 2 = 1 then more else Str.empty)
def nmFull (stem more : Str) (c k : Nat) : Str := nmCore stem more c k ++ (if nmCore stem more c k ∈ keysL then ("q" : Str) else Str.empty)
structure StemOk (stem more : Str) : Prop where
  st : ∀ c ∈ chL stem, c ∈ lettersL
  sl : stem.length ≤ 6
  mo : ∀ c ∈ chL more, c ∈ lettersL
  ml : more.length ≤ 1
theorem keys_short : ∀ z ∈ keysL, z.length ≤ 4 := by decide +kernel
theorem keys_end : ∀ z ∈ keysL, (chL z).getLast? ≠ some 113 := by decide +kernel
theorem q_in : (113 : Nat) ∈ lettersL := by decide +kernel
theorem chL_q : chL ("q" : Str) = [113] := by decide +kernel
theorem chL_x : chL ("x" : Str) = [120] := by decide +kernel
theorem chL_e : chL Str.empty = [] := rfl
theorem nmFull_shape (stem more : Str) (c k : Nat) : ∃ r, chL (nmFull stem more c k) = chL stem ++ c :: r := by
  refine ⟨chL (if k % 2 = 1 then more else Str.empty) ++ chL (if nmCore stem more c k ∈ keysL then ("q" : Str) else Str.empty), ?_⟩
  have e : chL (nmCore stem more c k) = chL stem ++ [c] ++ chL (if k % 2 = 1 then more else Str.empty) := by
    unfold nmCore
    rw [chL_app, chL_app]
    rfl
  unfold nmFull
  rw [chL_app, e, List.append_assoc, List.append_assoc]
  rfl
theorem nm_ok {stem more : Str} (S : StemOk stem more) {c k : Nat} (hc : c ∈ lettersL) : NameOk (nmFull stem more c k) := by
  have hm : (if k % 2 = 1 then more else Str.empty).length ≤ 1 := by
    split
    · exact S.ml
    · exact Nat.zero_le _
  have hl : (nmCore stem more c k).length = stem.length + 1 + (if k % 2 = 1 then more else Str.empty).length := by
    unfold nmCore
    rw [Str.length_append, Str.length_append]
    rfl
  have sl := S.sl
  have hcs : ∀ x ∈ chL (nmCore stem more c k), x ∈ lettersL := by
    intro x hx
    unfold nmCore at hx
    rw [chL_app, chL_app, List.mem_append, List.mem_append] at hx
    rcases hx with (hx | hx) | hx
    · exact S.st x hx
    · have e : x = c := List.mem_singleton.mp hx
      rw [e]
      exact hc
    · split at hx
      · exact S.mo x hx
      · cases hx
  by_cases hk : nmCore stem more c k ∈ keysL
  · have e : nmFull stem more c k = nmCore stem more c k ++ ("q" : Str) := by
      unfold nmFull
      rw [if_pos hk]
    have h4 := keys_short _ hk
    rw [e]
    refine ⟨?_, ?_, fun h => ?_, fun x hx => ?_⟩
    · rw [Str.length_append]
      omega
    · rw [Str.length_append]
      have : ("q" : Str).length = 1 := by decide +kernel
      omega
    · refine keys_end _ h ?_
      rw [chL_app, chL_q]
      simp
    · have hx' : x ∈ chL (nmCore stem more c k ++ ("q" : Str)) := hx
      rw [chL_app, List.mem_append] at hx'
      rcases hx' with h | h
      · exact hcs x h
      · rw [chL_q] at h
        rw [List.mem_singleton.mp h]
        exact q_in
  · have e : nmFull stem more c k = nmCore stem more c k := by
      unfold nmFull
      rw [if_neg hk]
      exact Str.append_empty _
    rw [e]
    exact ⟨by omega, by omega, hk, hcs⟩
/-- the steps that are drawn -/
def StepOk (s : Nat) : Prop := s = 1 ∨ s = 3 ∨ s = 5 ∨ s = 7 ∨ s = 25 ∨ s = 23
theorem step_ne {s f i j : Nat} (h : StepOk s) (hi : i < 8) (hj : j < 8) (e : (f + s * i) % 26 = (f + s * j) % 26) : i = j := by
  rcases h with h | h | h | h | h | h <;> subst h <;> omega
def nmAt (stem more : Str) (f s k : Nat) : Str := nmFull stem more (97 + (f + s * k) % 26) k
theorem nmAt_prefix {stem more : Str} {f s i j : Nat} (hs : StepOk s) (hi : i < 8) (hj : j < 8) {t : List Nat} (e : chL (nmAt stem more f s i) ++ t = chL (nmAt stem more f s j)) : i = j := by
  obtain ⟨r1, e1⟩ := nmFull_shape stem more (97 + (f + s * i) % 26) i
  obtain ⟨r2, e2⟩ := nmFull_shape stem more (97 + (f + s * j) % 26) j
  unfold nmAt at e
  rw [e1, e2, List.append_assoc] at e
  have e3 := List.append_cancel_left e
  rw [List.cons_append] at e3
  injection e3 with e4 _
  exact step_ne (f := f) hs hi hj (by omega)
theorem names_ok {stem more : Str} {f s : Nat} (S : StemOk stem more) (hs : StepOk s) : NamesOk ((List.range 8).map (nmAt stem more f s)) where
  len := by rw [List.length_map, List.length_range]
  nd := by
    rw [List.Nodup, List.pairwise_map]
    refine List.Pairwise.imp_of_mem (fun {i j} hi hj hne e => ?_) (List.nodup_range (n := 8))
    exact hne (nmAt_prefix hs (List.mem_range.mp hi) (List.mem_range.mp hj) (t := []) (by rw [List.append_nil, e]))
  ok := fun z hz => by
    obtain ⟨k, hk, rfl⟩ := List.mem_map.mp hz
    refine nm_ok S ?_
    exact List.mem_of_getElem? (letters_at _ (Nat.mod_lt _ (by decide)))
  wh := fun b hb hx => by
    obtain ⟨i, hi, rfl⟩ := List.mem_map.mp hb
    obtain ⟨j, hj, e⟩ := List.mem_map.mp hx
    have e1 := congrArg chL e
    rw [chL_app] at e1
    have ij := nmAt_prefix hs (List.mem_range.mp hi) (List.mem_range.mp hj) e1.symm
    subst ij
    have e2 := congrArg List.length e1
    rw [List.length_append, chL_x] at e2
    simp at e2
theorem join_letters : ∀ (ys : List Str), (∀ y ∈ ys, ∃ c, c ∈ lettersL ∧ y = ⟨#[c]⟩) → (∀ c ∈ chL (Txt.join Str.empty ys), c ∈ lettersL) ∧ (Txt.join Str.empty ys).length = ys.length := by
  intro ys h
  have key : ∀ (l : List Str) (acc : Array Nat), (∀ y ∈ l, ∃ c, c ∈ lettersL ∧ y = ⟨#[c]⟩) → (∀ c ∈ acc.toList, c ∈ lettersL) →
      (∀ c ∈ (l.foldl (fun acc p => acc ++ (#[] : Array Nat) ++ p.cps) acc).toList, c ∈ lettersL) ∧ (l.foldl (fun acc p => acc ++ (#[] : Array Nat) ++ p.cps) acc).size = acc.size + l.length := by
    intro l
    induction l with
    | nil => intro acc _ ha; exact ⟨ha, rfl⟩
    | cons y l ih =>
      intro acc hl ha
      obtain ⟨c, hc, e⟩ := hl y List.mem_cons_self
      subst e
      obtain ⟨h1, h2⟩ := ih (acc ++ #[] ++ #[c]) (fun z hz => hl z (List.mem_cons_of_mem _ hz)) (fun x hx => by
        simp at hx
        rcases hx with hx | hx
        · exact ha x (by simpa using hx)
        · rw [hx]; exact hc)
      refine ⟨h1, ?_⟩
      rw [List.foldl_cons, h2, List.length_cons]
      simp
      omega
  cases ys with
  | nil => exact ⟨fun c hc => (nomatch hc), rfl⟩
  | cons y ys =>
    obtain ⟨c, hc, e⟩ := h y List.mem_cons_self
    subst e
    obtain ⟨h1, h2⟩ := key ys #[c] (fun z hz => h z (List.mem_cons_of_mem _ hz)) (fun x hx => by
      have e : x = c := by simpa using hx
      rw [e]; exact hc)
    refine ⟨h1, ?_⟩
    refine Eq.trans h2 ?_
    rw [List.length_cons]
    show 1 + ys.length = ys.length + 1
    omega
/-- the new name -/
def basesL : List Str := ["nosuch", "nosucha", "nosu"]
instance (z : Str) : Decidable (NameOk z) := decidable_of_iff ((1 ≤ z.length ∧ z.length ≤ 8) ∧ z ∉ keysL ∧ ∀ c ∈ z.cps.toList, c ∈ lettersS.cps.toList) ⟨fun h => ⟨h.1.1, h.1.2, h.2.1, h.2.2⟩, fun h => ⟨⟨h.lo, h.hi⟩, h.key, h.let_⟩⟩
theorem bases_ok : ∀ b ∈ basesL, NameOk b ∧ NameOk (b ++ ("x" : Str)) := by decide +kernel
end Tp
set_option Elab.async false
set_option linter.all false
set_option maxRecDepth 100000
/-! == with the empty list. -/
namespace Tp
open PySem PySem.Spec PyProof.Rows L2
/-- data that may be compared -/
def Shp (m : Nat) (d : PyData) : Prop := d.canLay0 = true ∧ d.depth ≤ m
theorem shp_all {m : Nat} : ∀ {ds : List PyData}, (∀ d ∈ ds, Shp m d) → PyData.canLayAll0 ds = true ∧ PyData.depthAll ds ≤ m
  | [], _ => ⟨by simp [PyData.canLayAll0], by simp [PyData.depthAll]⟩
  | d :: ds, h => by
    obtain ⟨h1, h2⟩ := shp_all fun e he => h e (List.mem_cons_of_mem _ he)
    obtain ⟨h3, h4⟩ := h d List.mem_cons_self
    refine ⟨by simp only [PyData.canLayAll0, h1, h3, Bool.and_self], ?_⟩
    simp only [PyData.depthAll]
    omega
theorem shp_list {m : Nat} {ds : List PyData} (h : ∀ d ∈ ds, Shp m d) : Shp (m + 1) (.list ds) := by
  obtain ⟨h1, h2⟩ := shp_all h
  exact ⟨by simp only [PyData.canLay0, h1], by simp only [PyData.depth]; omega⟩
theorem shp_tup {m : Nat} {ds : List PyData} (h : ∀ d ∈ ds, Shp m d) : Shp (m + 1) (.tuple ds) := by
  obtain ⟨h1, h2⟩ := shp_all h
  exact ⟨by simp only [PyData.canLay0, h1], by simp only [PyData.depth]; omega⟩
theorem shp_int {m : Nat} (i : Int) : Shp m (.int i) := ⟨by simp [PyData.canLay0], by simp [PyData.depth]⟩
theorem shp_str {m : Nat} {z : Str} (h : PyData.strOk z = true) : Shp m (.str z) := ⟨by simp [PyData.canLay0, h], by simp [PyData.depth]⟩
theorem shp_mono {m n : Nat} {d : PyData} (h : Shp m d) (hm : m ≤ n) : Shp n d := ⟨h.1, Nat.le_trans h.2 hm⟩
theorem shp_shaped {m : Nat} {d : PyData} (h : Shp m d) (hm : m ≤ 64) : SeqAt.shaped d = true := by
  unfold SeqAt.shaped
  rw [h.1, decide_eq_true (Nat.le_trans h.2 hm)]
  rfl
theorem let_small : ∀ c ∈ lettersL, c < 0x110000 := by decide +kernel
theorem strOk_of {z : Str} (h : ∀ c ∈ chL z, c ∈ lettersL) : PyData.strOk z = true := by
  unfold PyData.strOk
  rw [← Array.all_toList]
  exact List.all_eq_true.mpr fun c hc => decide_eq_true (let_small c (h c hc))
theorem NameOk.str {z : Str} (h : NameOk z) : PyData.strOk z = true := strOk_of h.let_
theorem eqv_nil (ds : List PyData) : PyData.eqv (.list ds) (.list []) = ds.isEmpty := by
  cases ds with
  | nil => simp [PyData.eqv, PyData.eqvAll]
  | cons d ds => simp [PyData.eqv, PyData.eqvAll]
section
variable {K : PySem.W.Frag} {H : Hp}
theorem dp_strs : ∀ zs : List Str, DpAll K H (zs.map V.str) (zs.map PyData.str)
  | [] => .nil
  | z :: zs => .cons (.str z) (dp_strs zs)
theorem dp_lstS {a : Addr} {zs : List Str} (h : SqL K H a (zs.map V.str)) : Dp K H (.ref a) (.list (zs.map PyData.str)) := .lst h (dp_strs zs)
theorem sh_lstS {zs : List Str} (h : ∀ z ∈ zs, PyData.strOk z = true) : Shp 1 (.list (zs.map PyData.str)) := shp_list fun d hd => by
  obtain ⟨z, hz, rfl⟩ := List.mem_map.mp hd
  exact shp_str (h z hz)
theorem shaped_nil : SeqAt.shaped (.list []) = true := by decide +kernel
/-- kinds are short words -/
def KindOk (k : Str) : Prop := k = "n" ∨ k = "l"
theorem KindOk.str {k : Str} (h : KindOk k) : PyData.strOk k = true := by
  rcases h with rfl | rfl <;> decide +kernel
def HdOk2 (h : Hd) : Prop := PyData.strOk h.nm = true ∧ KindOk h.kd ∧ ∀ k ∈ h.ks, KindOk k
theorem dp_hds {vs : List V} {hs : List Hd} (q : HdsAt H vs hs) (ok : ∀ h ∈ hs, HdOk2 h) : ∃ ds, DpAll K H vs ds ∧ ds.length = hs.length ∧ ∀ d ∈ ds, Shp 3 d := by
  induction q with
  | nil => exact ⟨[], .nil, rfl, fun d hd => nomatch hd⟩
  | @cons v h vs hs r1 _ ih =>
    obtain ⟨ds, h1, h2, h3⟩ := ih fun g hg => ok g (List.mem_cons_of_mem _ hg)
    obtain ⟨a, pa, rfl, ha, hpa⟩ := r1
    obtain ⟨o1, o2, o3⟩ := ok h List.mem_cons_self
    refine ⟨.tuple [.str h.nm, .list (h.ks.map PyData.str), .str h.kd] :: ds, .cons (.tup (SqT.of ha) (.cons (.str _) (.cons (dp_lstS (SqL.of hpa)) (.cons (.str _) .nil)))) h1, by rw [List.length_cons, List.length_cons, h2], fun d hd => ?_⟩
    rcases List.mem_cons.mp hd with rfl | hd
    · refine shp_tup fun d hd => ?_
      rcases List.mem_cons.mp hd with rfl | hd
      · exact shp_str o1
      rcases List.mem_cons.mp hd with rfl | hd
      · exact shp_mono (sh_lstS fun z hz => (o3 z hz).str) (by decide)
      · rw [List.mem_singleton.mp hd]
        exact shp_str o2.str
    · exact h3 d hd
end
end Tp
set_option Elab.async false
set_option linter.all false
set_option maxRecDepth 100000
set_option maxHeartbeats 4000000
/-! What the law draws: numbers, names, places. -/
namespace Tp
open PySem PySem.Spec PyProof.Rows L2
abbrev sLawDraws : Stmt := topS 27
abbrev nLawDraws : List Str := ["script", "k", "cell"]
theorem scLawDraws : FnScope nLawDraws ["script", "k"] (defScope sLawDraws) := ⟨rfl, rfl, rfl, by decide +kernel, rfl, by decide +kernel, by decide +kernel⟩
abbrev sLawDraw : Stmt := topS 28
abbrev nLawDraw : List Str := ["draws", "many", "found", "wide"]
theorem scLawDraw : FnScope nLawDraw ["draws", "many"] (defScope sLawDraw) := ⟨rfl, rfl, rfl, by decide +kernel, rfl, by decide +kernel, by decide +kernel⟩
abbrev sLawKeys : Stmt := topS 29
abbrev nLawKeys : List Str := []
theorem scLawKeys : FnScope nLawKeys [] (defScope sLawKeys) := ⟨rfl, rfl, rfl, by decide +kernel, rfl, by decide +kernel, by decide +kernel⟩
abbrev sLawNames : Stmt := topS 30
abbrev nLawNames : List Str := ["draws", "many", "letters", "k", "stem", "first", "step", "more", "names", "name"]
theorem scLawNames : FnScope nLawNames ["draws", "many"] (defScope sLawNames) := ⟨rfl, rfl, rfl, by decide +kernel, rfl, by decide +kernel, by decide +kernel⟩
abbrev sLawPlace : Stmt := topS 31
abbrev nLawPlace : List Str := ["way"]
theorem scLawPlace : FnScope nLawPlace ["way"] (defScope sLawPlace) := ⟨rfl, rfl, rfl, by decide +kernel, rfl, by decide +kernel, by decide +kernel⟩
/-- a text, once or not at all -/
theorem op_strBit {X : Cx} : OpR X (binaryOp .Mult) (fun x y H Q => ∃ (z : Str) (b : Int), x = .str z ∧ y = .int b ∧ (b = 0 ∨ b = 1) ∧ Q (.str (if b = 1 then z else Str.empty)) H) := by
  intro pins s σ H x y v u Q I rx ry h
  obtain ⟨z, b, rfl, rfl, hb, q⟩ := h
  obtain ⟨t, rfl⟩ := rx
  obtain ⟨t', rfl⟩ := ry
  rcases hb with rfl | rfl
  · refine PySem.P.mul_str_none (by decide) (by decide) ?_
    exact ⟨.str Str.empty, H, I.tok _, ⟨_, rfl⟩, q⟩
  · refine PySem.P.mul_str (by decide) (fun _ h => absurd h (by simp)) (fun _ h => absurd h (by simp)) ?_
    rw [if_neg (by decide), if_pos (by simp)]
    exact ⟨.str z, H, I, ⟨_, rfl⟩, q⟩
theorem bit_small (c : Bool) : -(2 ^ 64) < (if c = true then (1 : Int) else 0) ∧ (if c = true then (1 : Int) else 0) < 2 ^ 64 := by cases c <;> decide
theorem bit_01 (c : Bool) : (if c = true then (1 : Int) else 0) = 0 ∨ (if c = true then (1 : Int) else 0) = 1 := by cases c <;> decide
/-- an index in a list -/
theorem at_some {α : Type} {xs : List α} {r : Int} (h0 : 0 ≤ r) (h1 : r < xs.length) : ∃ (j : Nat) (v : α), r = (j : Int) ∧ xs[j]? = some v := by
  obtain ⟨j, rfl⟩ := Int.eq_ofNat_of_zero_le h0
  have hj : j < xs.length := by omega
  exact ⟨j, xs[j], rfl, List.getElem?_eq_getElem hj⟩
section
variable {P : Program} {w : World} {K : PySem.W.Frag} {mg : Str → Option Value} {base : Heap} {ka oa : Addr} {tl tn tp td te : Tok}
def spLawDraw : Sp := fun vs H Q _ => ∃ (d : Addr) (m : Int), vs = [.ref d, .int m] ∧ DrAt H d ∧ 1 ≤ m ∧ m < 1073741824 ∧ ∀ r H', 0 ≤ r → r < m → Kp d d H H' → DrAt H' d → Q (.int r) H'
theorem dn_law_draw (A : At K mg "_law_draw" sLawDraw ["draws", "many"]) (B : Bt mg) : Dn P w K mg base "_law_draw" 1 ["draws", "many"] spLawDraw := by
  refine A.dn fun f fd F => F.ok scLawDraw (fun vs H Q E h => ?_) (fun cdv A outer s H vs Q E hr h => ?_)
  · obtain ⟨d, m, rfl, _⟩ := h
    rfl
  obtain ⟨d, m, rfl, ⟨a, b, hd⟩, h1, h2, q⟩ := h
  refine ⟨_, (pss_cons (ps_if (pt_cmpR op_gt (pe_ix ix_list (pv 0) pe_int (fun _ _ => rfl)) pe_int (nomark _))
   (pss_cons (ps_set (i := 2) scLawDraw.nd rfl (.inl rfl) (pe_op op_mod (pe_ix ix_list (pv 0) pe_int (fun _ _ => rfl)) (pv 1)))
   (pss_cons (ps_asg (pe_op op_fdiv (pe_ix ix_list (pv 0) pe_int (fun _ _ => rfl)) (pv 1)) (pg_sub (pv 0) pe_int set_list))
   (pss_one (ps_ret (pv 2)))))
   pss_nil)
   (pss_cons (ps_set (i := 2) scLawDraw.nd rfl (.inl rfl) pe_int)
   (pss_cons (ps_set (i := 3) scLawDraw.nd rfl (.inl rfl) pe_int)
   (pss_cons (ps_while PassesOwn.never (pt_cmpR op_lt (pv 3) (pv 1) (nomark _))
   (pss_cons (ps_asg (pe_op op_mod (pe_op op_mul (pe_ix ix_list (pv 0) pe_int (fun _ _ => rfl)) pe_int) pe_int) (pg_sub (pv 0) pe_int set_list))
   (pss_cons (ps_set (i := 2) scLawDraw.nd rfl (.inl rfl) (pe_op op_add (pe_op op_mul (pv 2) pe_int) (pe_op op_fdiv (pe_op op_mod (pe_op op_mul (pe_ix ix_list (pv 0) pe_int (fun _ _ => rfl)) (pe_op op_add (pe_op op_fdiv (pe_ix ix_list (pv 0) pe_int (fun _ _ => rfl)) pe_int) pe_int)) pe_int) pe_int)))
   (pss_one (ps_set (i := 3) scLawDraw.nd rfl (.inl rfl) (pe_op op_mul (pv 3) pe_int))))))
   (pss_one (ps_ret (pe_op op_mod (pv 2) (pv 1)))))))), ?_⟩
  refine ⟨_, rfl, d, _, _, _, rfl, rfl, SqL.of hd, atI_nat (j := 0) rfl, _, _, rfl, rfl, _, rfl, ?_⟩
  refine ite2D (fun h => ?_) (fun h => ?_)
  · refine ⟨_, rfl, d, _, _, _, rfl, rfl, SqL.of hd, atI_nat (j := 0) rfl, _, rfl, _, _, rfl, rfl, (by omega), ?_⟩
    refine ⟨_, rfl, d, _, _, _, rfl, rfl, SqL.of hd, atI_nat (j := 0) rfl, _, rfl, _, _, rfl, rfl, ⟨by omega, h2⟩, ?_⟩
    refine ⟨_, rfl, d, _, 0, 0, rfl, rfl, hd, rfl, _, rfl, ?_⟩
    exact q _ _ (Int.emod_nonneg _ (by omega)) (Int.emod_lt_of_pos _ (by omega)) Kp.upd1 ⟨_, _, upd_same⟩
  · refine while_by (fun σ H1 => Kp d d H H1 ∧ DrAt H1 d ∧ ∃ fo wi : Int, σ = [some (.ref d), some (.int m), some (.int fo), some (.int wi)] ∧ 1 ≤ wi) (fun σ _ => match σ with | [_, _, _, some (.int wi)] => (m - wi).toNat | _ => 0) ⟨Kp.refl _ _ _, ⟨a, b, hd⟩, 0, 1, rfl, Int.le_refl _⟩ (fun σ H1 p => ?_) (fun σ H1 Q Q' hq h => ?_)
    · obtain ⟨k1, ⟨a1, b1, hd1⟩, fo, wi, rfl, hw⟩ := p
      refine ⟨_, rfl, _, rfl, _, _, rfl, rfl, _, rfl, ?_⟩
      refine ite2D (fun hlt => ?_) (fun hge => ?_)
      · refine ⟨_, rfl, d, _, _, _, rfl, rfl, SqL.of hd1, atI_nat (j := 1) rfl, _, _, rfl, rfl, .inr ⟨by decide, by decide⟩, _, _, rfl, rfl, (by show (0 : Int) < 2147483647; decide), ?_⟩
        refine ⟨_, rfl, d, _, 1, 1, rfl, rfl, hd1, rfl, ?_⟩
        have hd2 : upd H1 d (.lst [.int a1, .int (b1 * 69621 % 2147483647)]) d = some (.lst [.int a1, .int (b1 * 69621 % 2147483647)]) := upd_same
        have k2 : Kp d d H (upd H1 d (.lst [.int a1, .int (b1 * 69621 % 2147483647)])) := k1.trans Kp.upd1
        have hb0 := Int.emod_nonneg (b1 * 69621) (show (2147483647 : Int) ≠ 0 by decide)
        have hb1 := Int.emod_lt_of_pos (b1 * 69621) (show (0 : Int) < 2147483647 by decide)
        refine ⟨_, rfl, _, _, rfl, rfl, .inr ⟨by decide, by decide⟩, ?_⟩
        refine ⟨_, rfl, d, _, _, _, rfl, rfl, SqL.of hd2, atI_nat (j := 1) rfl, _, rfl, d, _, _, _, rfl, rfl, SqL.of hd2, atI_nat (j := 1) rfl, _, _, rfl, rfl, ⟨by decide, by decide⟩, _, _, rfl, rfl, ?_⟩
        refine ⟨_, _, rfl, rfl, .inl ⟨by omega, by omega⟩, _, _, rfl, rfl, (by show (0 : Int) < 2147483629; decide), _, _, rfl, rfl, ⟨by decide, by decide⟩, _, _, rfl, rfl, ?_⟩
        refine ⟨_, rfl, _, _, rfl, rfl, .inr ⟨by decide, by decide⟩, ?_⟩
        refine ⟨⟨k2, ⟨_, _, hd2⟩, _, _, rfl, by omega⟩, ?_⟩
        show (m - wi * 268435456).toNat < (m - wi).toNat
        omega
      · refine ⟨_, rfl, _, rfl, _, _, rfl, rfl, (by omega), ?_⟩
        exact q _ _ (Int.emod_nonneg _ (by omega)) (Int.emod_lt_of_pos _ (by omega)) k1 ⟨a1, b1, hd1⟩
    · obtain ⟨x, e1, y, e2, i, j, e3, e4, c, e5, h⟩ := h
      exact ⟨x, e1, y, e2, i, j, e3, e4, c, e5, hq _ _ h⟩
def spLawDraws : Sp := fun vs H Q _ => ∃ (a : Addr) (ns : List Int) (k : Nat), vs = [.ref a, .int (k : Int)] ∧ SqL K H a (ns.map V.int) ∧ ∀ d H', Same H H' → H d = none → DrAt H' d → Q (.ref d) H'
theorem dn_law_draws (A : At K mg "_law_draws" sLawDraws ["script", "k"]) (B : Bt mg) : Dn P w K mg base "_law_draws" 1 ["script", "k"] (spLawDraws (K := K)) := by
  refine A.dn fun f fd F => F.ok scLawDraws (fun vs H Q E h => ?_) (fun cdv A outer s H vs Q E hr h => ?_)
  · obtain ⟨a, ns, k, rfl, _⟩ := h
    rfl
  obtain ⟨a, ns, k, rfl, ha, q⟩ := h
  have at_int : ∀ j : Nat, j < (ns.map V.int).length → ∃ x : Int, (ns.map V.int)[j]? = some (V.int x) := fun j hj => by
    rw [List.length_map] at hj
    exact ⟨ns[j], by rw [List.getElem?_map, List.getElem?_eq_getElem hj]; rfl⟩
  refine ⟨_, (pss_cons (ps_set (i := 2) scLawDraws.nd rfl (.inl rfl) (pe_op op_mul pe_int (pv 1)))
   (pss_cons (ps_if (pt_cmpR op_lt (pv 1) (pe_callB call_len_seq (by rfl) B.len PySem.boot_len (pa_cons (pv 0) pa_nil)) (nomark _))
   (pss_one (ps_set (i := 2) scLawDraws.nd rfl (.inl rfl) (pe_op op_mod (pe_ix ix_list (pv 0) (pv 1) (fun _ _ => rfl)) (pe_op op_mulW (pe_op op_mulW (pe_op op_mulW (pe_op op_mulW (pe_op op_pow pe_int pe_int) (pe_op op_pow pe_int pe_int)) (pe_op op_pow pe_int pe_int)) (pe_op op_pow pe_int pe_int)) (pe_op op_pow pe_int pe_int)))))
   (pss_one (ps_if (pt_cmpR op_gt (pe_callB call_len_seq (by rfl) B.len PySem.boot_len (pa_cons (pv 0) pa_nil)) pe_int (nomark _))
   (pss_one (ps_set (i := 2) scLawDraws.nd rfl (.inl rfl) (pe_op op_add (pe_op op_mod (pe_ix ix_list (pv 0) (pe_op op_mod (pv 1) (pe_callB call_len_seq (by rfl) B.len PySem.boot_len (pa_cons (pv 0) pa_nil))) (fun _ _ => rfl)) (pe_op op_pow pe_int pe_int)) (pe_op op_mul pe_int (pv 1)))))
   pss_nil)))
   (pss_one (ps_ret (pe_lst (pa_cons (pe_op op_mul (pv 2) (pe_callTy call_int1 (by rfl) B.int bi_int (pa_cons (pe_cmpR op_ge (pv 2) (pe_op op_pow pe_int pe_int) (nomark _)) pa_nil))) (pa_cons (pe_op op_add pe_int (pe_op op_mod (pe_op op_add (pe_op op_mul (pv 2) pe_int) (pe_op op_mul pe_int (pe_op op_add (pv 1) pe_int))) pe_int)) pa_nil))))))), ?_⟩
  refine ⟨_, rfl, _, _, rfl, rfl, .inl ⟨by decide, by decide⟩, ?_⟩
  dsimp only [gName]
  refine seq_join (fun σ H1 => H1 = H ∧ ∃ c : Int, σ = [some (.ref a), some (.int (k : Int)), some (.int c)]) (fun C hC => ?_) ?_
  · refine ⟨_, rfl, _, rfl, a, _, rfl, .inl ha, _, _, rfl, rfl, _, rfl, ?_⟩
    refine ite2D (fun hlt => ?_) (fun hge => ?_)
    · obtain ⟨x, hx⟩ := at_int k (by omega)
      refine ⟨_, rfl, _, rfl, a, _, _, _, rfl, rfl, ha, atI_nat hx, ?_⟩
      refine ⟨_, _, rfl, rfl, ⟨by decide, by decide, by decide⟩, _, _, rfl, rfl, ⟨by decide, by decide, by decide⟩, _, _, rfl, rfl, (by unfold CMulW; decide +kernel), ?_⟩
      refine ⟨_, _, rfl, rfl, ⟨by decide, by decide, by decide⟩, _, _, rfl, rfl, (by unfold CMulW; decide +kernel), ?_⟩
      refine ⟨_, _, rfl, rfl, ⟨by decide, by decide, by decide⟩, _, _, rfl, rfl, (by unfold CMulW; decide +kernel), ?_⟩
      refine ⟨_, _, rfl, rfl, ⟨by decide, by decide, by decide⟩, _, _, rfl, rfl, (by unfold CMulW; decide +kernel), ?_⟩
      refine ⟨_, _, rfl, rfl, (by show (0 : Int) < 10 ^ 60 * 10 ^ 60 * 10 ^ 60 * 10 ^ 60 * 10 ^ 60; decide +kernel), ?_⟩
      exact hC _ _ ⟨rfl, _, rfl⟩
    · refine ⟨_, rfl, a, _, rfl, .inl ha, _, _, rfl, rfl, _, rfl, ?_⟩
      refine ite2D (fun hgt => ?_) (fun _ => ?_)
      · have hpos : (0 : Int) < ((ns.map V.int).length : Int) := hgt
        have hm0 := Int.emod_nonneg (k : Int) (show ((ns.map V.int).length : Int) ≠ 0 by omega)
        have hm1 := Int.emod_lt_of_pos (k : Int) hpos
        obtain ⟨j, hj⟩ := Int.eq_ofNat_of_zero_le hm0
        obtain ⟨x, hx⟩ := at_int j (by omega)
        refine ⟨_, rfl, _, rfl, _, rfl, a, _, rfl, .inl ha, _, _, rfl, rfl, hpos, a, _, _, _, rfl, rfl, ha, (by rw [hj]; exact atI_nat hx), ?_⟩
        refine ⟨_, _, rfl, rfl, ⟨by decide, by decide, by decide⟩, _, _, rfl, rfl, (by show (0 : Int) < 10 ^ 15; decide +kernel), ?_⟩
        refine ⟨_, rfl, _, _, rfl, rfl, .inl ⟨by decide, by decide⟩, _, _, rfl, rfl, ?_⟩
        exact hC _ _ ⟨rfl, _, rfl⟩
      · exact hC _ _ ⟨rfl, _, rfl⟩
  · rintro σ H1 ⟨rfl, c, rfl⟩
    refine ⟨_, rfl, _, rfl, _, _, rfl, rfl, ⟨by decide, by decide, by decide⟩, _, _, rfl, rfl, .inr ⟨_, rfl, ?_⟩⟩
    refine ⟨_, _, rfl, rfl, .inr ?_, ?_⟩
    · exact bit_small _
    · refine ⟨_, rfl, _, _, rfl, rfl, .inr ⟨by decide, by decide⟩, _, rfl, _, _, rfl, rfl, ?_⟩
      refine ⟨_, _, rfl, rfl, .inl ⟨by decide, by decide⟩, _, _, rfl, rfl, _, _, rfl, rfl, (by show (0 : Int) < 2147483646; decide), _, _, rfl, rfl, line9 (by show 2 ≤ 1000; decide), fun d nd => ?_⟩
      exact q d _ (same_new nd) nd ⟨_, _, upd_same⟩
def spLawKeys : Sp := fun vs H Q _ => vs = [] ∧ ∀ l H', Same H H' → H l = none → H' l = some (.lst (keysL.map V.str)) → Q (.ref l) H'
theorem dn_law_keys (A : At K mg "_law_keys" sLawKeys []) : Dn P w K mg base "_law_keys" 1 [] spLawKeys := by
  refine A.dn fun f fd F => F.ok scLawKeys (fun vs H Q E h => ?_) (fun cdv A outer s H vs Q E hr h => ?_)
  · obtain ⟨rfl, _⟩ := h
    rfl
  obtain ⟨rfl, q⟩ := h
  refine ⟨_, (pss_one (ps_ret (pe_lst (pa_cons pe_str (pa_cons pe_str (pa_cons pe_str (pa_cons pe_str (pa_cons pe_str (pa_cons pe_str (pa_cons pe_str (pa_cons pe_str (pa_cons pe_str (pa_cons pe_str pa_nil))))))))))))), ?_⟩
  exact ⟨line9 (by show 10 ≤ 1000; decide), fun l nl => q l _ (same_new nl) nl upd_same⟩
def spLawPlace : Sp := fun vs H Q _ => ∃ (a : Addr) (C : Cfg), vs = [.ref a] ∧ WyAt H a C ∧ ∀ v p q H', Kp a a H H' → WyAt H' a C → PlAt H' v p q → PlOk p q → Q v H'
theorem dn_law_place (A : At K mg "_law_place" sLawPlace ["way"]) : Dn P w K mg base "_law_place" 1 ["way"] spLawPlace := by
  refine A.dn fun f fd F => F.ok scLawPlace (fun vs H Q E h => ?_) (fun cdv A outer s H vs Q E hr h => ?_)
  · obtain ⟨a, C, rfl, _⟩ := h
    rfl
  obtain ⟨a, C, rfl, ⟨x, y, z, ha⟩, q⟩ := h
  refine ⟨_, (pss_cons (ps_asg (pe_op op_add (pe_ix ix_list (pv 0) pe_int (fun _ _ => rfl)) (pe_ix ix_list (pv 0) pe_int (fun _ _ => rfl))) (pg_sub (pv 0) pe_int set_list))
   (pss_one (ps_ret (pe_tup (pa_cons (pe_op op_mod (pe_op op_fdiv (pe_ix ix_list (pv 0) pe_int (fun _ _ => rfl)) pe_int) pe_int) (pa_cons (pe_op op_mod (pe_ix ix_list (pv 0) pe_int (fun _ _ => rfl)) pe_int) pa_nil)))))), ?_⟩
  refine ⟨_, rfl, a, _, _, _, rfl, rfl, SqL.of ha, atI_nat (j := 0) rfl, _, rfl, a, _, _, _, rfl, rfl, SqL.of ha, atI_nat (j := 1) rfl, _, _, rfl, rfl, ?_⟩
  refine ⟨_, rfl, a, _, 0, 0, rfl, rfl, ha, rfl, ?_⟩
  have ha2 : upd H a (.lst [.int (x + y), .int y, .int z, .ref C.na, .ref C.ha, .int C.e]) a = some (.lst [.int (x + y), .int y, .int z, .ref C.na, .ref C.ha, .int C.e]) := upd_same
  refine ⟨_, rfl, a, _, _, _, rfl, rfl, SqL.of ha2, atI_nat (j := 0) rfl, _, _, rfl, rfl, ⟨by decide, by decide⟩, _, _, rfl, rfl, (by show (0 : Int) < 10000; decide), ?_⟩
  refine ⟨_, rfl, a, _, _, _, rfl, rfl, SqL.of ha2, atI_nat (j := 0) rfl, _, _, rfl, rfl, (by show (0 : Int) < 60; decide), line9 (by show 2 ≤ 1000; decide), fun p np => ?_⟩
  have s1 := same_new (o := .tup [.int ((x + y) / 60 % 10000), .int ((x + y) % 60)]) np
  refine q _ _ _ _ (Kp.upd1.trans (.of s1)) ⟨_, _, _, s1 _ _ ha2⟩ ⟨p, rfl, upd_same⟩ ⟨?_, ?_, ?_, ?_⟩
  · exact Int.emod_nonneg _ (by decide)
  · have := Int.emod_lt_of_pos ((x + y) / 60) (show (0 : Int) < 10000 by decide)
    omega
  · exact Int.emod_nonneg _ (by decide)
  · have := Int.emod_lt_of_pos (x + y) (show (0 : Int) < 60 by decide)
    omega
theorem pick_n : ∀ (j : Nat) (v : V), [V.int 0, V.int 1, V.int 2, V.int 6][j]? = some v → ∃ n : Nat, v = V.int (n : Int) ∧ n ≤ 6
  | 0, v, h => ⟨0, (Option.some.inj h).symm, by decide⟩
  | 1, v, h => ⟨1, (Option.some.inj h).symm, by decide⟩
  | 2, v, h => ⟨2, (Option.some.inj h).symm, by decide⟩
  | 3, v, h => ⟨6, (Option.some.inj h).symm, by decide⟩
theorem pick_s : ∀ (j : Nat) (v : V), [V.int 1, V.int 3, V.int 5, V.int 7, V.int 25, V.int 23][j]? = some v → ∃ n : Nat, v = V.int (n : Int) ∧ StepOk n
  | 0, v, h => ⟨1, (Option.some.inj h).symm, by unfold StepOk; decide⟩
  | 1, v, h => ⟨3, (Option.some.inj h).symm, by unfold StepOk; decide⟩
  | 2, v, h => ⟨5, (Option.some.inj h).symm, by unfold StepOk; decide⟩
  | 3, v, h => ⟨7, (Option.some.inj h).symm, by unfold StepOk; decide⟩
  | 4, v, h => ⟨25, (Option.some.inj h).symm, by unfold StepOk; decide⟩
  | 5, v, h => ⟨23, (Option.some.inj h).symm, by unfold StepOk; decide⟩
theorem pick_m {c : Nat} (hc : c ∈ lettersL) : ∀ (j : Nat) (v : V), [V.str "", V.str "z", V.str ⟨#[c]⟩][j]? = some v → ∃ z : Str, v = V.str z ∧ (∀ x ∈ chL z, x ∈ lettersL) ∧ z.length ≤ 1
  | 0, v, h => ⟨"", (Option.some.inj h).symm, by decide +kernel, by decide +kernel⟩
  | 1, v, h => ⟨"z", (Option.some.inj h).symm, by decide +kernel, by decide +kernel⟩
  | 2, v, h => ⟨⟨#[c]⟩, (Option.some.inj h).symm, fun x hx => by rw [show x = c from List.mem_singleton.mp hx]; exact hc, Nat.le_refl _⟩
theorem lets_at {r : Int} (h0 : 0 ≤ r) (h1 : r < 26) : ∃ c, c ∈ lettersL ∧ atI lettersS.cps.toList r = some c := by
  obtain ⟨j, rfl⟩ := Int.eq_ofNat_of_zero_le h0
  exact ⟨_, List.mem_of_getElem? (letters_at j (by omega)), atI_nat (letters_at j (by omega))⟩
theorem q_len (p : Prop) [Decidable p] : (if p then ("q" : Str) else Str.empty).length ≤ 1 := by
  by_cases h : p
  · rw [if_pos h]; decide +kernel
  · rw [if_neg h]; exact Nat.zero_le _
theorem sum_one : ∀ (ys : List Str), (∀ y ∈ ys, y.length = 1) → (ys.map (·.length)).sum = ys.length
  | [], _ => rfl
  | y :: ys, h => by
    rw [List.map_cons, List.sum_cons, sum_one ys fun z hz => h z (List.mem_cons_of_mem _ hz), h y List.mem_cons_self, List.length_cons]
    omega
def spLawNames : Sp := fun vs H Q _ => ∃ d : Addr, vs = [.ref d, .int 8] ∧ DrAt H d ∧ ∀ l ns H', Kp d d H H' → DrAt H' d → H l = none → H' l = some (.lst (ns.map V.str)) → NamesOk ns → Q (.ref l) H'
theorem dn_law_names (A : At K mg "_law_names" sLawNames ["draws", "many"]) (B : Bt mg) (DLawDraw : Dn P w K mg base "_law_draw" 1 ["draws", "many"] spLawDraw) (DLawKeys : Dn P w K mg base "_law_keys" 1 [] spLawKeys) : Dn P w K mg base "_law_names" 2 ["draws", "many"] spLawNames := by
  refine A.dn fun f fd F => F.ok scLawNames (fun vs H Q E h => ?_) (fun cdv A outer s H vs Q E hr h => ?_)
  · obtain ⟨d, rfl, _⟩ := h
    rfl
  obtain ⟨d, rfl, hd, q⟩ := h
  refine ⟨_, (pss_cons (ps_set (i := 2) scLawNames.nd rfl (.inr rfl) pe_str)
   (pss_cons (ps_set (i := 4) scLawNames.nd rfl (.inl rfl) (pe_join pe_str (pe_lc (own := [("k", 3)]) (g := gName 3) (tt := tYes) rfl scLawNames.nd (pi_range1 (by rfl) B.range (pa_cons (pe_ix ix_list (pe_lst (pa_cons pe_int (pa_cons pe_int (pa_cons pe_int (pa_cons pe_int pa_nil))))) (pe_dn DLawDraw hr (by omega) (by rfl) (pa_cons (pv 0) (pa_cons pe_int pa_nil))) (fun _ _ => rfl)) pa_nil)) (blkOk_by (N := nLawNames) (sc := defScope sLawNames) (by decide +kernel)) (fun _ _ _ _ _ => (pg_name (i := 3) scLawNames.nd rfl (.inl rfl))) (fun _ _ _ _ _ => pts_nil) (fun _ _ _ _ _ => (pe_ix ix_str (pv 2) (pe_dn DLawDraw hr (by omega) (by rfl) (pa_cons (pv 0) (pa_cons pe_int pa_nil))) (fun _ _ => rfl))))))
   (pss_cons (ps_set (i := 5) scLawNames.nd rfl (.inl rfl) (pe_dn DLawDraw hr (by omega) (by rfl) (pa_cons (pv 0) (pa_cons pe_int pa_nil))))
   (pss_cons (ps_set (i := 6) scLawNames.nd rfl (.inl rfl) (pe_ix ix_list (pe_lst (pa_cons pe_int (pa_cons pe_int (pa_cons pe_int (pa_cons pe_int (pa_cons pe_int (pa_cons pe_int pa_nil))))))) (pe_dn DLawDraw hr (by omega) (by rfl) (pa_cons (pv 0) (pa_cons pe_int pa_nil))) (fun _ _ => rfl)))
   (pss_cons (ps_set (i := 7) scLawNames.nd rfl (.inl rfl) (pe_ix ix_list (pe_lst (pa_cons pe_str (pa_cons pe_str (pa_cons (pe_ix ix_str (pv 2) (pv 5) (fun _ _ => rfl)) pa_nil)))) (pe_dn DLawDraw hr (by omega) (by rfl) (pa_cons (pv 0) (pa_cons pe_int pa_nil))) (fun _ _ => rfl)))
   (pss_cons (ps_set (i := 8) scLawNames.nd rfl (.inl rfl) (pe_lst pa_nil))
   (pss_cons (ps_for PassesOwn.never rfl (pi_range1 (by rfl) B.range (pa_cons (pv 1) pa_nil)) (pg_name (i := 3) scLawNames.nd rfl (.inl rfl))
   (pss_cons (ps_set (i := 9) scLawNames.nd rfl (.inl rfl) (pe_op op_add_str (pe_op op_add_str (pv 4) (pe_ix ix_str (pv 2) (pe_op op_mod (pe_op op_add (pv 5) (pe_op op_mul (pv 6) (pv 3))) pe_int) (fun _ _ => rfl))) (pe_op op_strBit (pv 7) (pe_op op_mod (pv 3) pe_int))))
   (pss_one (ps_expr (pe_bm PySem.F.plainAttrs_list PySem.F.slot_list_append PySem.F.type_list_append mt_append (pv 8) (pa_cons (pe_op op_add_str (pv 9) (pe_op op_strBit pe_str (pe_callTy call_int1 (by rfl) B.int bi_int (pa_cons (pe_cmpR op_in_seq (pv 9) (pe_dn0 DLawKeys hr (by omega) (by rfl)) (by rfl)) pa_nil)))) pa_nil))))))
   (pss_one (ps_ret (pv 8)))))))))), ?_⟩
  refine ⟨⟨_, rfl⟩, line9 (by show 4 ≤ 1000; decide), fun p1 n1 => ⟨_, rfl, d, 4, rfl, hd.new n1, by decide, by decide, fun r H1 r0 r1 k1 hd1 => ?_⟩⟩
  have hp1 := k1 p1 _ upd_same (hd.fresh n1) (hd.fresh n1)
  have kk1 := (Kp.of (same_new n1)).trans k1
  clear k1
  obtain ⟨j, v, rfl, hj⟩ := at_some (xs := [V.int 0, V.int 1, V.int 2, V.int 6]) r0 r1
  obtain ⟨n, rfl, hn⟩ := pick_n j v hj
  refine ⟨p1, _, _, _, rfl, rfl, SqL.of hp1, atI_nat hj, (n : Int), rfl, by omega, by omega, fun D nD => ?_⟩
  refine lc_it (walk_range (n := (n : Int).toNat)) (fun i Hc => Kp d d H1 Hc ∧ DrAt Hc d ∧ ∃ ys : List Str, Hc D = some (.lst (ys.map V.str)) ∧ ys.length = i ∧ ∀ y ∈ ys, ∃ c, c ∈ lettersL ∧ y = ⟨#[c]⟩) ?_ (fun _ _ _ _ => trivial) (fun i x Hc Hx hi p y => ?_) fun Hc p => ?_
  · exact ⟨.of (same_new nD), hd1.new nD, [], upd_same, rfl, fun y hy => nomatch hy⟩
  · obtain ⟨rfl, rfl⟩ := y
    obtain ⟨k2, hd2, ys, hD, hlen, hall⟩ := p
    refine ⟨rfl, _, rfl, _, rfl, d, 26, rfl, hd2, by decide, by decide, fun r H2 r0 r1 k3 hd3 => ?_⟩
    obtain ⟨c, hc, hat⟩ := lets_at r0 r1
    have hDd := hd1.fresh nD
    refine ⟨lettersS, r, c, rfl, rfl, line9 (by decide), hat, _, k3 D _ hD hDd hDd, ?_, Kp.over nD (k2.trans k3), hd3.over hDd, ys ++ [⟨#[c]⟩], ?_, ?_, ?_⟩
    · rw [List.length_map, hlen]
      exact line9' (by omega)
    · rw [upd_same, List.map_append]
      rfl
    · rw [List.length_append, hlen]
      rfl
    · intro y hy
      rcases List.mem_append.mp hy with h | h
      · exact hall y h
      · exact ⟨c, hc, List.mem_singleton.mp h⟩
  obtain ⟨k2, hd2, ys, hD, hlen, hall⟩ := p
  obtain ⟨hst, hsl⟩ := join_letters ys hall
  have hsum := sum_one ys fun y hy => by
    obtain ⟨c, _, rfl⟩ := hall y hy
    rfl
  have k12 := kk1.trans k2
  refine ⟨_, D, ys, rfl, rfl, .inl (SqL.of hD), ?_, ?_⟩
  · rw [hsum, hlen]
    show (n : Int).toNat + (n : Int).toNat * 0 ≤ 16777216
    omega
  have hse : Txt.join ("" : Str) ys = Txt.join Str.empty ys := rfl
  rw [hse]
  generalize Txt.join Str.empty ys = stem at hst hsl
  refine ⟨_, rfl, d, 26, rfl, hd2, by decide, by decide, fun f0 H2 f00 f01 k3 hd3 => ?_⟩
  have k13 := k12.trans k3
  refine ⟨line9 (by show 6 ≤ 1000; decide), fun p2 n2 => ⟨_, rfl, d, 6, rfl, hd3.new n2, by decide, by decide, fun r H3 r0 r1 k4 hd4 => ?_⟩⟩
  have hp2 := k4 p2 _ upd_same (hd3.fresh n2) (hd3.fresh n2)
  have k14 := (k13.trans (.of (same_new n2))).trans k4
  obtain ⟨j2, v2, rfl, hj2⟩ := at_some (xs := [V.int 1, V.int 3, V.int 5, V.int 7, V.int 25, V.int 23]) r0 r1
  obtain ⟨st, rfl, hstep⟩ := pick_s j2 v2 hj2
  refine ⟨p2, _, _, _, rfl, rfl, SqL.of hp2, atI_nat hj2, ?_⟩
  obtain ⟨c0, hc0, hat0⟩ := lets_at f00 f01
  refine ⟨_, rfl, _, rfl, lettersS, f0, c0, rfl, rfl, line9 (by decide), hat0, line9 (by show 3 ≤ 1000; decide), fun p3 n3 => ⟨_, rfl, d, 3, rfl, hd4.new n3, by decide, by decide, fun r H4 r0 r1 k5 hd5 => ?_⟩⟩
  have hp3 := k5 p3 _ upd_same (hd4.fresh n3) (hd4.fresh n3)
  have k15 := (k14.trans (.of (same_new n3))).trans k5
  obtain ⟨j3, v3, rfl, hj3⟩ := at_some (xs := [V.str "", V.str "z", V.str ⟨#[c0]⟩]) r0 r1
  obtain ⟨more, rfl, hmo, hml⟩ := pick_m hc0 j3 v3 hj3
  refine ⟨p3, _, _, _, rfl, rfl, SqL.of hp3, atI_nat hj3, ?_⟩
  refine ⟨line9 (by decide), fun L nL => ?_⟩
  obtain ⟨f1, rfl⟩ := Int.eq_ofNat_of_zero_le f00
  have S : StemOk stem more := ⟨hst, by rw [hsl, hlen]; show (n : Int).toNat ≤ 6; omega, hmo, hml⟩
  have hs6 := S.sl
  have hst30 : (st : Int) ≤ 25 ∧ 0 ≤ (st : Int) := by
    unfold StepOk at hstep
    omega
  refine ⟨_, rfl, 8, rfl, by decide, by decide, ?_⟩
  refine for_it (walk_range (n := (8 : Int).toNat)) (fun i σ Hc => Same H4 Hc ∧ Hc L = some (.lst (((List.range i).map (nmAt stem more f1 st)).map V.str)) ∧ ∃ x3 x9, σ = [some (.ref d), some (.int 8), some (.str lettersS), x3, some (.str stem), some (.int (f1 : Int)), some (.int (st : Int)), some (.str more), some (.ref L), x9]) ?_ (fun _ _ _ _ _ => trivial) (fun i x σ Hc Hx hi p y => ?_) fun σ Hc p => ?_
  · exact ⟨same_new nL, upd_same, _, _, rfl⟩
  · obtain ⟨rfl, rfl⟩ := y
    obtain ⟨s1, hL, x3, x9, rfl⟩ := p
    have hi8 : i < 8 := hi
    have eidx : ((f1 : Int) + (st : Int) * (0 + (i : Nat))) % 26 = (((f1 + st * i) % 26 : Nat) : Int) := by
      rw [Int.zero_add]
      push_cast
      rfl
    have hlt : (f1 + st * i) % 26 < 26 := Nat.mod_lt _ (by decide)
    refine ⟨_, rfl, _, rfl, _, rfl, _, rfl, _, rfl, _, _, rfl, rfl, .inl ⟨by omega, by omega⟩, _, _, rfl, rfl, _, _, rfl, rfl, (by show (0 : Int) < 26; decide), lettersS, _, _, rfl, rfl, line9 (by decide), (by rw [eidx]; exact atI_nat (letters_at _ hlt)), ?_⟩
    refine ⟨_, _, rfl, rfl, line9 (by show stem.length + 1 ≤ 1000; omega), _, rfl, _, rfl, _, _, rfl, rfl, (by show (0 : Int) < 2; decide), more, _, rfl, rfl, (by show (0 + (i : Int)) % 2 = 0 ∨ (0 + (i : Int)) % 2 = 1; omega), ?_⟩
    have hml2 : (if (0 + (i : Int)) % 2 = 1 then more else Str.empty).length ≤ 1 := by
      split
      · exact hml
      · exact Nat.zero_le _
    refine ⟨_, _, rfl, rfl, line9 (by rw [Str.length_append]; show stem.length + 1 + (if (0 + (i : Int)) % 2 = 1 then more else Str.empty).length ≤ 1000; omega), ?_⟩
    have ecore : stem ++ ⟨#[97 + (f1 + st * i) % 26]⟩ ++ (if (0 + (i : Int)) % 2 = 1 then more else Str.empty) = nmCore stem more (97 + (f1 + st * i) % 26) i := by
      unfold nmCore
      by_cases h : i % 2 = 1
      · rw [if_pos (by omega), if_pos h]
      · rw [if_neg (by omega), if_neg h]
    rw [ecore]
    have hcl : (nmCore stem more (97 + (f1 + st * i) % 26) i).length ≤ 10 := by
      rw [← ecore, Str.length_append, Str.length_append]
      show stem.length + 1 + (if (0 + (i : Int)) % 2 = 1 then more else Str.empty).length ≤ 10
      omega
    refine ⟨_, rfl, .inl ⟨rfl, _, SqL.of hL⟩, _, rfl, _, rfl, rfl, fun lk Hk sk nk hk => ⟨lk, _, rfl, .inl (SqL.of hk), rfl, flat_str _, .inr ⟨_, rfl, _, _, rfl, rfl, bit_01 _, _, _, rfl, rfl, ?_, ?_⟩⟩⟩
    · exact line9 (Nat.le_trans (Nat.add_le_add hcl (q_len _)) (by decide))
    have hLk := sk _ _ hL
    refine ⟨L, _, _, rfl, rfl, hLk, ?_, ?_⟩
    · rw [List.length_map, List.length_map, List.length_range]
      exact line9' (by omega)
    refine ⟨same_over (o := .lst []) nL (s1.trans sk), ?_, _, _, rfl⟩
    rw [upd_same, List.range_succ, List.map_append, List.map_append]
    have efull : nmCore stem more (97 + (f1 + st * i) % 26) i ++ (if (if inV (V.str (nmCore stem more (97 + (f1 + st * i) % 26) i)) (keysL.map V.str) = true then (1 : Int) else 0) = 1 then ("q" : Str) else Str.empty) = nmAt stem more f1 st i := by
      unfold nmAt nmFull
      rw [inV_str]
      by_cases h : nmCore stem more (97 + (f1 + st * i) % 26) i ∈ keysL
      · rw [decide_eq_true h, if_pos h]
        rfl
      · rw [decide_eq_false h, if_neg h]
        rfl
    exact congrArg (fun z => some (HO.lst (_ ++ [V.str z]))) efull
  · obtain ⟨s1, hL, x3, x9, rfl⟩ := p
    refine ⟨_, rfl, q L _ Hc (k15.trans (.of s1)) (hd5.same s1) (k15.none (hd5.fresh nL) (hd5.fresh nL) nL) hL (names_ok S hstep)⟩
end
end Tp
set_option Elab.async false
set_option linter.all false
set_option maxRecDepth 100000
set_option maxHeartbeats 4000000
/-! What the law draws: leaves, loops. -/
namespace Tp
open PySem PySem.Spec PyProof.Rows L2
abbrev sLawLeaf : Stmt := topS 32
abbrev nLawLeaf : List Str := ["draws", "way", "want", "near", "seen_d", "name", "kind", "some", "place"]
theorem scLawLeaf : FnScope nLawLeaf ["draws", "way", "want", "near"] (defScope sLawLeaf) := ⟨rfl, rfl, rfl, by decide +kernel, rfl, by decide +kernel, by decide +kernel⟩
structure WdOk (ns : List Str) (hs al : List Hd) : Prop where
  nm : NamesOk ns
  hd : ∀ h ∈ hs, h.nm ∈ ns ∧ HdOk2 h ∧ h.ks.length ≤ 4
  len : hs.length ≤ 100
  al : ∀ h ∈ hs, h ∈ al
def Dh (hs : List Hd) : Str → Nat → Prop := fun z n => ∃ h ∈ hs, h.nm = z ∧ h.ks.length = n
theorem mem_putK {kvs : List (Key × V)} {k : Key} {v : V} {p : Key × V} (h : p ∈ putK kvs k v) : p ∈ kvs ∨ p = (k, v) := by
  unfold putK at h
  split at h
  · obtain ⟨q, hq, e⟩ := List.mem_map.mp h
    split at e
    · next hk => right; rw [← e, hk]
    · left; rw [← e]; exact hq
  · rcases List.mem_append.mp h with h | h
    · exact .inl h
    · exact .inr (List.mem_singleton.mp h)
theorem valV_mem {k : Key} {v : V} : ∀ {kvs : List (Key × V)}, (k, v) ∈ kvs → ∃ v', valV kvs k = some v' ∧ (k, v') ∈ kvs
  | [], h => nomatch h
  | p :: kvs, h => by
    by_cases e : p.1 = k
    · refine ⟨p.2, valV_pos e, ?_⟩
      rw [← e]
      exact List.mem_cons_self
    · rw [valV_neg e]
      rcases List.mem_cons.mp h with h | h
      · exact absurd (by rw [← h]) e
      · obtain ⟨v', h1, h2⟩ := valV_mem h
        exact ⟨v', h1, List.mem_cons_of_mem _ h2⟩
theorem pick_8 : ∀ (j : Nat) (v : V), [V.int 0, V.int 1, V.int 2, V.int 3, V.int 7, V.int 999999999, V.int 12, V.int 1][j]? = some v → ∃ n : Int, v = V.int n ∧ 0 ≤ n ∧ n ≤ 999999999
  | 0, v, h => ⟨0, (Option.some.inj h).symm, by decide⟩
  | 1, v, h => ⟨1, (Option.some.inj h).symm, by decide⟩
  | 2, v, h => ⟨2, (Option.some.inj h).symm, by decide⟩
  | 3, v, h => ⟨3, (Option.some.inj h).symm, by decide⟩
  | 4, v, h => ⟨7, (Option.some.inj h).symm, by decide⟩
  | 5, v, h => ⟨999999999, (Option.some.inj h).symm, by decide⟩
  | 6, v, h => ⟨12, (Option.some.inj h).symm, by decide⟩
  | 7, v, h => ⟨1, (Option.some.inj h).symm, by decide⟩
theorem good_leaf {ns : List Str} {D : Str → Nat → Prop} {near : List Str} {d : Nd} {p q : Int} (h1 : PlOk p q) (h2 : NdOk d 0) (h3 : NmIn ns d) (h4 : HdOk D d near 0) : Good ns D 1 near (.mk d p q []) :=
  ⟨h1, h2, h3, h4, fun i t h => by simp at h⟩
section
variable {P : Program} {w : World} {K : PySem.W.Frag} {mg : Str → Option Value} {base : Heap} {ka oa : Addr} {tl tn tp td te : Tok}
def spLawLeaf : Sp := fun vs H Q _ => ∃ (d wa : Addr) (C : Cfg) (ns : List Str) (hs al : List Hd) (want : Str) (nv : V) (nr : List (Str × Str)), vs = [.ref d, .ref wa, .str want, nv] ∧ Wd H d wa C ns hs ∧ WdOk ns hs al ∧ NrAt H nv nr ∧ (∀ z ∈ nr.map Prod.fst, z ∈ ns) ∧ nr.length ≤ 100 ∧
  ∀ t v H', Kp d wa H H' → Wd H' d wa C ns hs → TAt H' t v → (∀ near : List Str, (∀ z ∈ nr.map Prod.fst, z ∈ near) → Good ns (Dh al) 1 near t) → Q v H'
theorem dn_law_leaf (A : At K mg "_law_leaf" sLawLeaf ["draws", "way", "want", "near"]) (B : Bt mg) (DLawDraw : Dn P w K mg base "_law_draw" 1 ["draws", "many"] spLawDraw) (DLawPlace : Dn P w K mg base "_law_place" 1 ["way"] spLawPlace) : Dn P w K mg base "_law_leaf" 2 ["draws", "way", "want", "near"] spLawLeaf := by
  refine A.dn fun f fd F => F.ok scLawLeaf (fun vs H Q E h => ?_) (fun cdv A outer s H vs Q E hr h => ?_)
  · obtain ⟨d, wa, C, ns, hs, al, want, nv, nr, rfl, _⟩ := h
    rfl
  obtain ⟨d, wa, C, ns, hs, al, want, nv, nr, rfl, W, ok, ⟨na, vs, rfl, hna, hnr⟩, hin, hlen, q⟩ := h
  have hvl := paired_len hnr
  refine ⟨_, (pss_cons (ps_set (i := 4) scLawLeaf.nd rfl (.inr rfl) pe_dnewK)
   (pss_cons (ps_for PassesOwn.never rfl (pi_list (pv 3)) (pg_tup rfl (pgs_cons (pg_name (i := 5) scLawLeaf.nd rfl (.inl rfl)) (pgs_cons (pg_name (i := 6) scLawLeaf.nd rfl (.inl rfl)) pgs_nil)))
   (pss_one (ps_dput (hu1 hr) (pv 4) (pv 5) (pv 6) (by rfl))))
   (pss_cons (ps_lock (ps_setLc (i := 7) (own := [("name", 5)]) (g := gName 5) rfl scLawLeaf.nd rfl rfl (sw_true rfl rfl rfl (by decide +kernel)) (pi_keys (pv 4)) (blkOk_by (N := nLawLeaf) (sc := defScope sLawLeaf) (by decide +kernel)) (fun _ _ _ _ _ => (pg_name (i := 5) scLawLeaf.nd rfl (.inl rfl))) (fun _ _ _ _ _ => (pts_one (pt_cmpR op_eq (pe_dget (hu1 hr) (pv 4) (pv 5) (fun _ _ => rfl)) (pv 2) (nomark _)))) (fun _ _ _ _ _ => (pv 5))))
   (pss_cons (ps_set (i := 8) scLawLeaf.nd rfl (.inl rfl) (pe_dn DLawPlace hr (by omega) (by rfl) (pa_cons (pv 1) pa_nil)))
   (pss_cons (ps_if (PW.pt (pw_and (pt_cmpR (op_neD hr.units) (pv 7) (pe_lst pa_nil) (nomark _)) (pw_and1 (pt_cmpR op_gt (pe_dn DLawDraw hr (by omega) (by rfl) (pa_cons (pv 0) (pa_cons pe_int pa_nil))) pe_int (nomark _)))))
   (pss_one (ps_ret (pe_tup (pa_cons pe_str (pa_cons (pv 8) (pa_cons (pe_ix ix_list (pv 7) (pe_dn DLawDraw hr (by omega) (by rfl) (pa_cons (pv 0) (pa_cons (pe_callB call_len_seq (by rfl) B.len PySem.boot_len (pa_cons (pv 7) pa_nil)) pa_nil))) (fun _ _ => rfl)) (pa_cons (pe_tup pa_nil) pa_nil)))))))
   pss_nil)
   (pss_cons (ps_if (pt_cmpR op_eq (pv 2) pe_str (nomark _))
   (pss_one (ps_ret (pe_tup (pa_cons pe_str (pa_cons (pv 8) pa_nil)))))
   pss_nil)
   (pss_one (ps_ret (pe_tup (pa_cons pe_str (pa_cons (pv 8) (pa_cons (pe_ix ix_list (pe_lst (pa_cons pe_int (pa_cons pe_int (pa_cons pe_int (pa_cons pe_int (pa_cons pe_int (pa_cons (pe_op op_sub (pe_op op_pow pe_int pe_int) pe_int) (pa_cons pe_int (pa_cons pe_int pa_nil))))))))) (pe_dn DLawDraw hr (by omega) (by rfl) (pa_cons (pv 0) (pa_cons pe_int pa_nil))) (fun _ _ => rfl)) pa_nil)))))))))))), ?_⟩
  have newNum : ∀ (Hk : Hp) (y : V) (p q2 : Int) (n : Int) (u : Addr), Kp d wa H Hk → Wd Hk d wa C ns hs → PlAt Hk y p q2 → PlOk p q2 → 0 ≤ n → n ≤ 999999999 → Hk u = none → Q (.ref u) (upd Hk u (.tup [.str "num", y, .int n])) := fun Hk y p q2 n u k W1 pl plo h0 h1 nu =>
    q (.mk (.num n) p q2 []) (.ref u) _ (k.trans (.of (same_new nu))) (W1.new nu) (TAt.mk (d := .num n) (pv := y) (vs := []) (pl.mono (KT.of (same_new nu))) ⟨rfl, u, rfl, upd_same⟩ TsAt.nil) (fun _ _ => good_leaf plo ⟨h0, h1, rfl⟩ trivial trivial)
  have newNil : ∀ (Hk : Hp) (y : V) (p q2 : Int) (u : Addr), Kp d wa H Hk → Wd Hk d wa C ns hs → PlAt Hk y p q2 → PlOk p q2 → Hk u = none → Q (.ref u) (upd Hk u (.tup [.str "nil", y])) := fun Hk y p q2 u k W1 pl plo nu =>
    q (.mk .nil p q2 []) (.ref u) _ (k.trans (.of (same_new nu))) (W1.new nu) (TAt.mk (d := .nil) (pv := y) (vs := []) (pl.mono (KT.of (same_new nu))) ⟨rfl, u, rfl, upd_same⟩ TsAt.nil) (fun _ _ => good_leaf plo rfl trivial trivial)
  have newUse : ∀ (Hk : Hp) (y : V) (p q2 : Int) (z : Str) (g u : Addr), Kp d wa H Hk → Wd Hk d wa C ns hs → PlAt Hk y p q2 → PlOk p q2 → z ∈ nr.map Prod.fst → Hk g = none → upd Hk g (.tup []) u = none → Q (.ref u) (upd (upd Hk g (.tup [])) u (.tup [.str "use", y, .str z, .ref g])) := fun Hk y p q2 z g u k W1 pl plo hz ng nu => by
    have s1 := (same_new (o := .tup []) ng).trans (same_new (o := .tup [.str "use", y, .str z, .ref g]) nu)
    refine q (.mk (.use z) p q2 []) (.ref u) _ (k.trans (.of s1)) (W1.same s1) (TAt.mk (d := .use z) (pv := y) (vs := []) (pl.mono (KT.of s1)) ⟨.ref g, ⟨g, rfl, same_new nu _ _ upd_same⟩, u, rfl, upd_same⟩ TsAt.nil) ?_
    exact fun near hn => good_leaf plo ⟨ok.nm.ok z (hin z hz), Nat.zero_le _⟩ (hin z hz) (.inl ⟨hn z hz, rfl⟩)
  refine fun Dd nd => ?_
  have s0 := same_new (o := .dK []) nd
  have hna0 := s0 _ _ hna
  refine ⟨_, rfl, na, rfl, ⟨vs, SqL.of hna0⟩, ?_⟩
  refine for_list (xs := vs) (fun i σ Hc => Same H Hc ∧ (∃ x5 x6, σ = [some (.ref d), some (.ref wa), some (.str want), some (.ref na), some (.ref Dd), x5, x6, none, none]) ∧ ∃ kvs, Hc Dd = some (.dK kvs) ∧ kvs.length ≤ i ∧ ∀ p ∈ kvs, ∃ z kd : Str, p = (.inr z, .str kd) ∧ z ∈ nr.map Prod.fst) ?_ (fun i σ Hc _ p => SqL.of (p.1 _ _ hna)) (fun i x σ Hc hx p => ?_) fun σ Hc p => ?_
  · exact ⟨s0, ⟨_, _, rfl⟩, [], upd_same, Nat.zero_le _, fun p hp => nomatch hp⟩
  · obtain ⟨s1, ⟨x5, x6, rfl⟩, kvs, hk, hkl, hall⟩ := p
    obtain ⟨⟨z, kd⟩, hz, u, rfl, hu⟩ := Paired.get hnr hx
    have hil : i < vs.length := by
      by_cases h : i < vs.length
      · exact h
      · rw [List.getElem?_eq_none (by omega)] at hx; cases hx
    refine ⟨u, _, rfl, SqT.of (s1 _ _ hu), rfl, _, _, rfl, _, _, rfl, rfl, ?_⟩
    refine ⟨_, rfl, _, rfl, _, rfl, Dd, _, rfl, .inl ⟨kvs, .inr z, hk, rfl, line9' (by omega), rfl⟩, ?_⟩
    refine ⟨fun b o e => ?_, ⟨_, _, rfl⟩, _, upd_same, Nat.le_trans (length_putK _ _ _) (by omega), fun p hp => ?_⟩
    · rw [upd_ne (ne_of_none e nd)]
      exact s1 b o e
    · rcases mem_putK hp with h | h
      · exact hall p h
      · exact ⟨z, kd, h, List.mem_map.mpr ⟨_, List.mem_of_getElem? hz, rfl⟩⟩
  obtain ⟨s1, ⟨x5, x6, rfl⟩, kvs, hk, hkl, hall⟩ := p
  refine ⟨Dd, _, hk, trivial, fun od => ⟨_, rfl, Dd, od, rfl, .inl ⟨kvs, upd_same, fun D2 n2 => ?_⟩⟩⟩
  have hD2d : D2 ≠ Dd := fun e => by rw [e, upd_same] at n2; cases n2
  refine lc_it walk_keys (fun i Hx => Same (upd Hc Dd (.frz od (.dK kvs))) Hx ∧ ∃ zs : List Str, Hx D2 = some (.lst (zs.map V.str)) ∧ zs.length ≤ i ∧ ∀ z ∈ zs, z ∈ nr.map Prod.fst) ?_ (fun i Hx _ p => p.1 _ _ upd_same) (fun i x Hx Hy hi p y => ?_) fun Hx p => ?_
  · exact ⟨same_new n2, [], upd_same, Nat.zero_le _, fun z hz => nomatch hz⟩
  · obtain ⟨rfl, k, v, hkv, rfl⟩ := y
    obtain ⟨s2, zs, hD2, hzl, hzs⟩ := p
    obtain ⟨z, kd, e, hz⟩ := hall _ (List.mem_of_getElem? hkv)
    obtain ⟨rfl, rfl⟩ := Prod.mk.inj e
    obtain ⟨v', hv', hm'⟩ := valV_mem (List.mem_of_getElem? hkv)
    obtain ⟨z', kd', e', _⟩ := hall _ hm'
    obtain ⟨_, rfl⟩ := Prod.mk.inj e'
    refine ⟨rfl, _, rfl, _, rfl, Dd, _, rfl, .inl ⟨kvs, .inr z, .inr ⟨od, s2 _ _ upd_same⟩, rfl, hv'.symm⟩, _, rfl, rfl, _, rfl, ?_⟩
    refine ite2D (fun _ => ?_) (fun _ => ?_)
    · refine ⟨_, rfl, _, hD2, ?_, same_over (o := .lst []) n2 s2, zs ++ [z], ?_, ?_, ?_⟩
      · rw [List.length_map]
        exact line9' (by omega)
      · rw [upd_same, List.map_append]
        rfl
      · rw [List.length_append]
        show zs.length + 1 ≤ i + 1
        omega
      · intro y hy
        rcases List.mem_append.mp hy with h | h
        · exact hzs y h
        · rw [List.mem_singleton.mp h]; exact hz
    · exact ⟨s2, zs, hD2, Nat.le_succ_of_le hzl, hzs⟩
  obtain ⟨s2, zs, hD2, hzl, hzs⟩ := p
  refine ⟨s2 _ _ upd_same, ?_⟩
  have s3 : Same H (upd Hx Dd (.dK kvs)) := fun b o e => by
    have ne := ne_of_none e nd
    rw [upd_ne ne]
    exact s2 b o (by rw [upd_ne ne]; exact s1 b o e)
  have hD3 : upd Hx Dd (.dK kvs) D2 = some (.lst (zs.map V.str)) := by rw [upd_ne hD2d]; exact hD2
  generalize upd Hx Dd (.dK kvs) = H3 at s3 hD3
  have W3 := W.same s3
  refine ⟨_, rfl, wa, C, rfl, W3.wy, fun y p0 q0 H4 k4 wy4 pl4 plo4 => ?_⟩
  have W4 := W3.place k4 wy4
  have k04 : Kp d wa H H4 := (Kp.of s3).trans k4.wide2
  have hD4 := W3.lst k4.wide2 (ni_str _) hD3
  dsimp only [gName]
  refine seq_join (fun σ H6 => σ = [some (.ref d), some (.ref wa), some (.str want), some (.ref na), some (.ref Dd), x5, x6, some (.ref D2), some y] ∧ Kp d wa H H6 ∧ Wd H6 d wa C ns hs ∧ PlAt H6 y p0 q0) (fun Cc hC => ?_) ?_
  · refine ⟨_, rfl, line9 (by decide), fun p5 n5 => ⟨.list (zs.map PyData.str), .list [], dp_lstS (SqL.of (same_new n5 _ _ hD4)), .lst (SqL.of upd_same) .nil, shp_shaped (sh_lstS fun z hz => (ok.nm.ok z (hin z (hzs z hz))).str) (by decide), shaped_nil, _, rfl, ?_⟩⟩
    rw [eqv_nil]
    have W5 := W4.new (o := .lst []) n5
    have k05 := k04.trans (.of (same_new (o := .lst []) n5))
    have hD5 := same_new (o := .lst []) n5 _ _ hD4
    have pl5 := Row.mono (KT.of (same_new (o := .lst []) n5)) pl4
    generalize upd H4 p5 (.lst []) = H5 at W5 k05 hD5 pl5
    by_cases hz : zs = []
    · subst hz
      exact iteBF rfl (iteF (hC _ _ ⟨rfl, k05, W5, pl5⟩))
    have hzl2 : 0 < zs.length := List.length_pos_iff.mpr hz
    have hne : (!(zs.map PyData.str).isEmpty) = true := by
      cases zs with
      | nil => exact absurd rfl hz
      | cons a b => rfl
    refine iteBT hne ?_
    refine ⟨_, rfl, d, 4, rfl, W5.dr, by decide, by decide, fun r H6 r0 r1 k6 dr6 => ⟨_, _, rfl, rfl, _, rfl, ?_⟩⟩
    have W6 := W5.draw k6 dr6
    have k06 := k05.trans k6.wide
    have pl6 := Row.mono (W5.kt k6.wide) pl5
    have hD6 := W5.lst k6.wide (ni_str _) hD5
    refine ite2D (fun _ => ?_) (fun _ => hC _ _ ⟨rfl, k06, W6, pl6⟩)
    refine ⟨_, rfl, _, rfl, _, rfl, _, rfl, D2, _, rfl, .inl (SqL.of hD6), d, _, rfl, W6.dr, ?_, ?_, fun r H7 r0 r1 k7 dr7 => ?_⟩
    · rw [List.length_map]
      omega
    · rw [List.length_map]
      omega
    have W7 := W6.draw k7 dr7
    have k07 := k06.trans k7.wide
    have pl7 := Row.mono (W6.kt k7.wide) pl6
    have hD7 := W6.lst k7.wide (ni_str _) hD6
    rw [List.length_map] at r1
    obtain ⟨j, z, rfl, hj⟩ := at_some r0 r1
    refine ⟨D2, _, _, _, rfl, rfl, SqL.of hD7, atI_nat (v := V.str z) (by rw [List.getElem?_map, hj]; rfl), line9 (by decide), fun g ng => ⟨line9 (by show 4 ≤ 1000; decide), fun u nu => ?_⟩⟩
    exact newUse H7 y p0 q0 z g u k07 W7 pl7 plo4 (hzs z (List.mem_of_getElem? hj)) ng nu
  · rintro σ H6 ⟨rfl, k06, W6, pl6⟩
    refine ⟨_, rfl, rfl, _, rfl, ?_⟩
    refine ite2D (fun _ => ?_) (fun _ => ?_)
    · refine ⟨_, rfl, line9 (by show 2 ≤ 1000; decide), fun u nu => newNil H6 y p0 q0 u k06 W6 pl6 plo4 nu⟩
    · refine ⟨_, rfl, _, _, rfl, rfl, ⟨by decide, by decide, by decide⟩, _, _, rfl, rfl, line9 (by show 8 ≤ 1000; decide), fun p7 n7 => ⟨_, rfl, d, 8, rfl, (W6.new n7).dr, by decide, by decide, fun r H8 r0 r1 k8 dr8 => ?_⟩⟩
      have W7 := W6.new (o := .lst [V.int 0, V.int 1, V.int 2, V.int 3, V.int 7, V.int 999999999, V.int 12, V.int 1]) n7
      have k07 := k06.trans (.of (same_new (o := .lst [V.int 0, V.int 1, V.int 2, V.int 3, V.int 7, V.int 999999999, V.int 12, V.int 1]) n7))
      have pl7 := Row.mono (KT.of (same_new (o := .lst [V.int 0, V.int 1, V.int 2, V.int 3, V.int 7, V.int 999999999, V.int 12, V.int 1]) n7)) pl6
      have W8 := W7.draw k8 dr8
      have k08 := k07.trans k8.wide
      have pl8 := Row.mono (W7.kt k8.wide) pl7
      have hp8 := k8 p7 _ upd_same (W6.dr.fresh n7) (W6.dr.fresh n7)
      obtain ⟨j, v, rfl, hj⟩ := at_some (xs := [V.int 0, V.int 1, V.int 2, V.int 3, V.int 7, V.int 999999999, V.int 12, V.int 1]) r0 r1
      obtain ⟨n, rfl, hn0, hn1⟩ := pick_8 j v hj
      refine ⟨p7, _, _, _, rfl, rfl, SqL.of hp8, atI_nat hj, line9 (by show 3 ≤ 1000; decide), fun u nu => ?_⟩
      exact newNum H8 y p0 q0 n u k08 W8 pl8 plo4 hn0 hn1 nu
theorem len_sub {α : Type} [DecidableEq α] : ∀ {l D : List α}, l.Nodup → (∀ x ∈ l, x ∈ D) → l.length ≤ D.length
  | [], _, _, _ => Nat.zero_le _
  | x :: l, D, hn, hs => by
    obtain ⟨h1, h2⟩ := List.nodup_cons.mp hn
    have ih := len_sub (D := D.erase x) h2 fun y hy => (List.mem_erase_of_ne (fun e => h1 (by rw [← e]; exact hy))).2 (hs y (List.mem_cons_of_mem _ hy))
    have e := List.length_erase_of_mem (hs x List.mem_cons_self)
    have hp : 0 < D.length := List.length_pos_of_mem (hs x List.mem_cons_self)
    rw [List.length_cons]
    omega
theorem len_split {α : Type} (f : α → Bool) : ∀ l : List α, (l.filter f).length + (l.filter fun x => !f x).length = l.length
  | [] => rfl
  | x :: l => by
    have ih := len_split f l
    cases h : f x with
    | true =>
      rw [List.filter_cons_of_pos h, List.filter_cons_of_neg (by rw [h]; decide), List.length_cons, List.length_cons]
      omega
    | false =>
      rw [List.filter_cons_of_neg (by rw [h]; decide), List.filter_cons_of_pos (by rw [h]; decide), List.length_cons, List.length_cons]
      omega
def freshB (ps : List Str) (nm : Str) (z : Str) : Bool := decide (z ∉ ps) && decide (z ≠ nm)
/-- two names that are free -/
theorem fresh_two {ns ps : List Str} {nm : Str} (hl : ns.length = 8) (hn : ns.Nodup) (hp : ps.length ≤ 4) : ∃ a b r, ns.filter (freshB ps nm) = a :: b :: r ∧ a ≠ b ∧ a ∈ ns ∧ b ∈ ns ∧ a ∉ ps ∧ b ∉ ps ∧ a ≠ nm ∧ b ≠ nm := by
  have h1 := len_split (freshB ps nm) ns
  have h2 : (ns.filter fun x => !freshB ps nm x).length ≤ (nm :: ps).length := by
    refine len_sub (hn.filter _) fun x hx => ?_
    obtain ⟨_, hx⟩ := List.mem_filter.mp hx
    unfold freshB at hx
    by_cases hm : x ∈ ps
    · exact List.mem_cons_of_mem _ hm
    · by_cases he : x = nm
      · rw [he]; exact List.mem_cons_self
      · rw [decide_eq_true hm, decide_eq_true he] at hx; cases hx
  rw [List.length_cons] at h2
  have h3 := hn.filter (freshB ps nm)
  have hm : ∀ x ∈ ns.filter (freshB ps nm), x ∈ ns ∧ x ∉ ps ∧ x ≠ nm := fun x hx => by
    obtain ⟨hx, hf⟩ := List.mem_filter.mp hx
    unfold freshB at hf
    rw [Bool.and_eq_true] at hf
    exact ⟨hx, of_decide_eq_true hf.1, of_decide_eq_true hf.2⟩
  match hf : ns.filter (freshB ps nm), h1, h3, hm with
  | [], h1, _, _ => exfalso; simp only [List.length_nil] at h1; omega
  | [a], h1, _, _ => exfalso; simp only [List.length_cons, List.length_nil] at h1; omega
  | a :: b :: r, _, h3, hm =>
    obtain ⟨a1, a2, a3⟩ := hm a List.mem_cons_self
    obtain ⟨b1, b2, b3⟩ := hm b (List.mem_cons_of_mem _ List.mem_cons_self)
    exact ⟨a, b, r, rfl, fun e => (List.nodup_cons.mp h3).1 (by rw [e]; exact List.mem_cons_self), a1, b1, a2, b2, a3, b3⟩
/-- leaves that use names -/
def UsesOf (zs : List Str) (ts : List T) : Prop := Paired (fun z t => ∃ p q, PlOk p q ∧ t = T.mk (.use z) p q []) zs ts
theorem cut_m1 (xs : List V) (x : V) : cutV (xs ++ [x]) none (some (-1)) = xs := by
  unfold cutV
  have e : HT.sIx (xs ++ [x]).length (xs ++ [x]).length (some (-1)) = xs.length := by
    rw [List.length_append]
    show (if (-1 : Int) < 0 then ((-1 : Int) + ((xs.length + 1 : Nat) : Int)).toNat else min (-1 : Int).toNat (xs.length + 1)) = xs.length
    rw [if_pos (by decide)]
    omega
  rw [e, HT.sIx_none, List.drop_zero, Nat.sub_zero, List.take_left]
theorem at_m1 {α : Type} (xs : List α) (x : α) : atI (xs ++ [x]) (-1) = some x := by
  have e : ixN (xs ++ [x]).length (-1) = some xs.length := by
    rw [List.length_append]
    show (if (0 : Int) ≤ -1 then (if (-1 : Int) < ((xs.length + 1 : Nat) : Int) then some (-1 : Int).toNat else none) else if -((xs.length + 1 : Nat) : Int) ≤ -1 then some ((-1 : Int) + ((xs.length + 1 : Nat) : Int)).toNat else none) = some xs.length
    rw [if_neg (by decide), if_pos (by omega)]
    congr 1
    omega
  unfold atI
  rw [e]
  show (xs ++ [x])[xs.length]? = some x
  rw [List.getElem?_append_right (Nat.le_refl _), Nat.sub_self]
  rfl
theorem paired_snoc {α β : Type} {F : α → β → Prop} : ∀ {xs : List α} {x : α} {ys : List β}, Paired F (xs ++ [x]) ys → ∃ zs z, ys = zs ++ [z] ∧ Paired F xs zs ∧ F x z
  | [], _, _, .cons r .nil => ⟨[], _, rfl, .nil, r⟩
  | _ :: xs, _, _, .cons r t => by
    obtain ⟨zs, z, e, h1, h2⟩ := paired_snoc (xs := xs) t
    exact ⟨_ :: zs, z, by rw [e]; rfl, .cons r h1, h2⟩
theorem TsAt.snoc {H : Hp} : ∀ {ts : List T} {t : T} {us : List V}, TsAt H (ts ++ [t]) us → ∃ ws v, us = ws ++ [v] ∧ TsAt H ts ws ∧ TAt H t v
  | [], t, us, h => by
    obtain ⟨v, e, h1⟩ := TsAt.one h
    exact ⟨[], v, e, TsAt.nil, h1⟩
  | u :: ts, t, us, h => by
    rw [List.cons_append, tsat_cons] at h
    obtain ⟨v, r, e, h1, h2⟩ := h
    obtain ⟨ws, x, e2, h3, h4⟩ := TsAt.snoc h2
    exact ⟨v :: ws, x, by rw [e, e2]; rfl, TsAt.cons h1 h3, h4⟩
theorem TsAt.ni {H : Hp} {ts : List T} {us : List V} (h : TsAt H ts us) : NI us := fun i r e => by
  cases ts with
  | nil => rw [tsat_nil] at h; rw [h] at e; cases e
  | cons t ts =>
    rw [tsat_cons] at h
    obtain ⟨v, r', e', h1, _⟩ := h
    obtain ⟨xs, b, eb, _⟩ := h1.row
    rw [e', eb] at e
    cases e
end
end Tp
set_option Elab.async false
set_option linter.all false
set_option maxRecDepth 100000
set_option maxHeartbeats 4000000
/-! What the law draws: loops. -/
namespace Tp
open PySem PySem.Spec PyProof.Rows L2
abbrev sLawLoop : Stmt := topS 33
abbrev nLawLoop : List Str := ["draws", "way", "head", "names", "fresh", "seen_d", "place", "one", "rest", "sign", "body", "again", "empty", "name"]
theorem scLawLoop : FnScope nLawLoop ["draws", "way", "head", "names"] (defScope sLawLoop) := ⟨rfl, rfl, rfl, by decide +kernel, rfl, by decide +kernel, by decide +kernel⟩
theorem sg3 (c : Bool) {r : Int} (h0 : 0 ≤ r) (h1 : r < 2) : ∃ s, s ∈ opsL ∧ atI [V.str ":", V.str "+", V.str "-"] ((if c = true then (1 : Int) else 0) * (1 + r)) = some (V.str s) := by
  have hr : r = 0 ∨ r = 1 := by omega
  rcases hr with rfl | rfl <;> cases c
  · exact ⟨":", by decide +kernel, rfl⟩
  · exact ⟨"+", by decide +kernel, rfl⟩
  · exact ⟨":", by decide +kernel, rfl⟩
  · exact ⟨"-", by decide +kernel, rfl⟩
theorem sg4 (c : Bool) {r : Int} (h0 : 0 ≤ r) (h1 : r < 3) : ∃ s, s ∈ opsL ∧ atI [V.str ":", V.str "+", V.str "-", V.str "*"] ((if c = true then (1 : Int) else 0) * (1 + r)) = some (V.str s) := by
  have hr : r = 0 ∨ r = 1 ∨ r = 2 := by omega
  rcases hr with rfl | rfl | rfl <;> cases c
  · exact ⟨":", by decide +kernel, rfl⟩
  · exact ⟨"+", by decide +kernel, rfl⟩
  · exact ⟨":", by decide +kernel, rfl⟩
  · exact ⟨"-", by decide +kernel, rfl⟩
  · exact ⟨":", by decide +kernel, rfl⟩
  · exact ⟨"*", by decide +kernel, rfl⟩
theorem freshB_in {ps : List Str} {nm z : Str} (h : z ∈ ps) : freshB ps nm z = false := by
  unfold freshB
  rw [decide_eq_false (fun e => e h)]
  rfl
theorem freshB_eq {ps : List Str} {nm z : Str} (h : z = nm) : freshB ps nm z = false := by
  subst h
  unfold freshB
  simp
theorem freshB_yes {ps : List Str} {nm z : Str} (h : z ∉ ps) (h2 : z ≠ nm) : freshB ps nm z = true := by
  unfold freshB
  rw [decide_eq_true h, decide_eq_true h2]
  rfl
theorem ix0 {α : Type} (x : α) (xs : List α) : ixN (x :: xs).length 0 = some 0 := by
  unfold ixN
  rw [List.length_cons, if_pos (by decide), if_pos (by omega)]
  rfl
/-- what a loop's drawing reads -/
structure LpF (H : Hp) (D na ha pa : Addr) (fl ps : List Str) (h : Hd) : Prop where
  fD : H D = some (.lst (fl.map V.str))
  fna : H na = some (.lst (ps.map V.str))
  fha : H ha = some (.tup [.str h.nm, .ref pa, .str h.kd])
  fpa : H pa = some (.lst (h.ks.map V.str))
theorem LpF.mv {H H' : Hp} {d w D na ha pa : Addr} {C : Cfg} {ns fl ps : List Str} {hs : List Hd} {h : Hd} (F : LpF H D na ha pa fl ps h) (W : Wd H d w C ns hs) (k : Kp d w H H') : LpF H' D na ha pa fl ps h :=
  ⟨W.lst k (ni_str _) F.fD, W.lst k (ni_str _) F.fna, W.kt k _ _ F.fha, W.lst k (ni_str _) F.fpa⟩
structure LpG (H : Hp) (D2 R : Addr) (us0 : List V) (uz : V) (ts0 : List T) (tz : T) (yc : V) (pc qc : Int) (u1 u2 : Addr) (t1 t2 : T) : Prop where
  hD : H D2 = some (.lst (us0 ++ [uz]))
  ht : TsAt H ts0 us0
  hz : TAt H tz uz
  pl : PlAt H yc pc qc
  on : TAt H t1 (.ref u1)
  tw : TAt H t2 (.ref u2)
theorem LpG.mv {H H' : Hp} {d w D2 R u1 u2 : Addr} {C : Cfg} {ns : List Str} {hs : List Hd} {us0 : List V} {uz yc : V} {ts0 : List T} {tz t1 t2 : T} {pc qc : Int} (G : LpG H D2 R us0 uz ts0 tz yc pc qc u1 u2 t1 t2) (W : Wd H d w C ns hs) (k : Kp d w H H') : LpG H' D2 R us0 uz ts0 tz yc pc qc u1 u2 t1 t2 :=
  ⟨W.lst k (TsAt.ni (TsAt.app G.ht (TsAt.cons G.hz TsAt.nil))) G.hD, TsAt.mono (W.kt k) G.ht, TAt.mono (W.kt k) G.hz, Row.mono (W.kt k) G.pl, TAt.mono (W.kt k) G.on, TAt.mono (W.kt k) G.tw⟩
theorem ni_app {H : Hp} {ts : List T} {us : List V} {u : Addr} (h : TsAt H ts us) : NI (us ++ [.ref u]) := fun i r e => by
  cases us with
  | nil => cases e
  | cons v vs =>
    have e2 : v = .int i := (List.cons.inj e).1
    exact h.ni i vs (by rw [e2])
theorem goods_of {ns : List Str} {D : Str → Nat → Prop} {near : List Str} (hns : ∀ z ∈ ns, NameOk z) : ∀ {zs : List Str} {ts : List T}, UsesOf zs ts → (∀ z ∈ zs, z ∈ ns ∧ z ∈ near) → ∀ t ∈ ts, Good ns D 1 near t
  | _, _, .nil, _, t, h => nomatch h
  | _, _, .cons r rs, hz, t, h => by
    rcases List.mem_cons.mp h with rfl | h
    · obtain ⟨p, q, po, rfl⟩ := r
      have hm := hz _ List.mem_cons_self
      exact good_leaf po ⟨hns _ hm.1, Nat.zero_le _⟩ hm.1 (.inl ⟨hm.2, rfl⟩)
    · exact goods_of hns rs (fun z h => hz z (List.mem_cons_of_mem _ h)) t h
theorem Good.use {ns : List Str} {D : Str → Nat → Prop} {near : List Str} {n : Nat} {z : Str} {p q : Int} {ts : List T} (h1 : PlOk p q) (h2 : NameOk z) (h3 : z ∈ ns) (h4 : z ∉ near) (h5 : D z ts.length) (h6 : ts.length ≤ 4) (h7 : ∀ t ∈ ts, Good ns D n near t) : Good ns D (n + 1) near (.mk (.use z) p q ts) :=
  ⟨h1, ⟨h2, h6⟩, h3, .inr ⟨h4, h5⟩, fun i t hi => h7 t (List.mem_of_getElem? hi)⟩
theorem Good.op2 {ns : List Str} {D : Str → Nat → Prop} {near : List Str} {n : Nat} {s : Str} {p q : Int} {a b : T} (h1 : PlOk p q) (h2 : s ∈ opsL) (ha : Good ns D n near a) (hb : Good ns D n near b) : Good ns D (n + 1) near (.mk (.op s) p q [a, b]) :=
  ⟨h1, ⟨h2, rfl⟩, trivial, trivial, fun i t hi => by
    match i, hi with
    | 0, hi => obtain rfl := Option.some.inj hi; exact ha
    | 1, hi => obtain rfl := Option.some.inj hi; exact hb⟩
theorem Good.ite3 {ns : List Str} {D : Str → Nat → Prop} {near : List Str} {n : Nat} {p q : Int} {a b c : T} (h1 : PlOk p q) (ha : Good ns D n near a) (hb : Good ns D n near b) (hc : Good ns D n near c) : Good ns D (n + 1) near (.mk .ite p q [a, b, c]) :=
  ⟨h1, rfl, trivial, trivial, fun i t hi => by
    match i, hi with
    | 0, hi => obtain rfl := Option.some.inj hi; exact ha
    | 1, hi => obtain rfl := Option.some.inj hi; exact hb
    | 2, hi => obtain rfl := Option.some.inj hi; exact hc⟩
theorem Good.lt2 {ns : List Str} {D : Str → Nat → Prop} {near : List Str} {n : Nat} {z : Str} {p q : Int} {a b : T} (h1 : PlOk p q) (h2 : NameOk z) (h3 : z ∈ ns) (ha : Good ns D n near a) (hb : Good ns D n (near ++ [z]) b) : Good ns D (n + 1) near (.mk (.lt z) p q [a, b]) :=
  ⟨h1, ⟨h2, rfl⟩, h3, trivial, fun i t hi => by
    match i, hi with
    | 0, hi => obtain rfl := Option.some.inj hi; exact ha
    | 1, hi => obtain rfl := Option.some.inj hi; exact hb⟩
theorem Good.cs3 {ns : List Str} {D : Str → Nat → Prop} {near : List Str} {n : Nat} {x y : Str} {p q : Int} {a b c : T} (h1 : PlOk p q) (hx : NameOk x) (hy : NameOk y) (nx : x ∈ ns) (ny : y ∈ ns) (ne : x ≠ y) (ha : Good ns D n near a) (hb : Good ns D n near b) (hc : Good ns D n (near ++ [x, y]) c) : Good ns D (n + 1) near (.mk (.cs x y) p q [a, b, c]) :=
  ⟨h1, ⟨hx, hy, rfl⟩, ⟨nx, ny⟩, ne, fun i t hi => by
    match i, hi with
    | 0, hi => obtain rfl := Option.some.inj hi; exact ha
    | 1, hi => obtain rfl := Option.some.inj hi; exact hb
    | 2, hi => obtain rfl := Option.some.inj hi; exact hc⟩
/-- a new leaf that uses a name -/
theorem tat_use {H : Hp} {y : V} {p q : Int} {z : Str} {g u : Addr} (pl : PlAt H y p q) (ng : H g = none) (nu : upd H g (.tup []) u = none) : TAt (upd (upd H g (.tup [])) u (.tup [.str "use", y, .str z, .ref g])) (.mk (.use z) p q []) (.ref u) :=
  TAt.mk (d := .use z) (pv := y) (vs := []) (Row.mono (KT.of ((same_new (o := .tup []) ng).trans (same_new (o := .tup [.str "use", y, .str z, .ref g]) nu))) pl) ⟨.ref g, ⟨g, rfl, same_new nu _ _ upd_same⟩, u, rfl, upd_same⟩ TsAt.nil
theorem same_two {H : Hp} {g u : Addr} {o o' : HO} (ng : H g = none) (nu : upd H g o u = none) : Same H (upd (upd H g o) u o') := (same_new ng).trans (same_new nu)
theorem good_use {ns : List Str} {D : Str → Nat → Prop} {near : List Str} {z : Str} {p q : Int} (h1 : PlOk p q) (h2 : NameOk z) (h3 : z ∈ ns) (h4 : z ∈ near) : Good ns D 1 near (.mk (.use z) p q []) := good_leaf h1 ⟨h2, Nat.zero_le _⟩ h3 (.inl ⟨h4, rfl⟩)
section
variable {P : Program} {w : World} {K : PySem.W.Frag} {mg : Str → Option Value} {base : Heap} {ka oa : Addr} {tl tn tp td te : Tok}
def spLawLoop : Sp := fun vs H Q _ => ∃ (d wa na : Addr) (C : Cfg) (ns : List Str) (hs al : List Hd) (hv : V) (h : Hd) (ps : List Str), vs = [.ref d, .ref wa, hv, .ref na] ∧ Wd H d wa C ns hs ∧ WdOk ns hs al ∧ HdAt H hv h ∧ h ∈ al ∧ h.nm ∈ ns ∧ HdOk2 h ∧ H na = some (.lst (ps.map V.str)) ∧
  (∀ z ∈ ps, z ∈ ns) ∧ ps.length = h.ks.length ∧ 1 ≤ ps.length ∧ ps.length ≤ 4 ∧ h.nm ∉ ps ∧
  ∀ t v H', Kp d wa H H' → Wd H' d wa C ns hs → TAt H' t v → Good ns (Dh al) 4 ps t → Q v H'
theorem dn_law_loop (A : At K mg "_law_loop" sLawLoop ["draws", "way", "head", "names"]) (B : Bt mg) (DLawDraw : Dn P w K mg base "_law_draw" 1 ["draws", "many"] spLawDraw) (DLawPlace : Dn P w K mg base "_law_place" 1 ["way"] spLawPlace)
    (DLawLeaf : Dn P w K mg base "_law_leaf" 2 ["draws", "way", "want", "near"] spLawLeaf) : Dn P w K mg base "_law_loop" 3 ["draws", "way", "head", "names"] spLawLoop := by
  refine A.dn fun f fd F => F.ok scLawLoop (fun vs H Q E h => ?_) (fun cdv A outer s H vs Q E hr h => ?_)
  · obtain ⟨d, wa, na, C, ns, hs, al, hv, h, ps, rfl, _⟩ := h
    rfl
  obtain ⟨d, wa, na, C, ns, hs, al, hv, h, ps, rfl, W, ok, hh, hal, hnm, hok2, hna, hps, hpl, hp1, hp4, hnot, q⟩ := h
  obtain ⟨ha, pa, rfl, hha, hpa⟩ := hh
  obtain ⟨wx, wy, wz, hwy⟩ := W.wy
  obtain ⟨f0, f1, fr, hfr, f01, f0n, f1n, f0p, f1p, f0h, f1h⟩ := fresh_two (nm := h.nm) ok.nm.len ok.nm.nd hp4
  refine ⟨_, (pss_cons (ps_setLc (i := 4) (own := [("name", 13)]) (g := gName 13) rfl scLawLoop.nd rfl rfl (sw_true rfl rfl rfl (by decide +kernel)) (pi_list (pe_ix ix_list (pv 1) pe_int (fun _ _ => rfl))) (blkOk_by (N := nLawLoop) (sc := defScope sLawLoop) (by decide +kernel)) (fun _ _ _ _ _ => (pg_name (i := 13) scLawLoop.nd rfl (.inl rfl))) (fun _ _ _ _ _ => (pts_one (PW.pt (pw_and (pt_cmpR (show OpR _ _ (rIn K true) from op_notIn_seq) (pv 13) (pv 3) (by rfl)) (pw_and1 (pt_cmpR op_ne (pv 13) (pe_ix (show IxR _ (rIxT K) from ix_tup) (pv 2) pe_int (fun _ _ => rfl)) (nomark _))))))) (fun _ _ _ _ _ => (pv 13)))
   (pss_cons (ps_setLc (i := 5) (own := [("name", 13)]) (g := gName 13) (tt := tYes) rfl scLawLoop.nd rfl rfl (sw_true rfl rfl rfl (by decide +kernel)) (pi_list (pv 3)) (blkOk_by (N := nLawLoop) (sc := defScope sLawLoop) (by decide +kernel)) (fun _ _ _ _ _ => (pg_name (i := 13) scLawLoop.nd rfl (.inl rfl))) (fun _ _ _ _ _ => pts_nil) (fun _ _ _ _ _ => (pe_tup (pa_cons pe_str (pa_cons (pe_dn DLawPlace hr (by omega) (by rfl) (pa_cons (pv 1) pa_nil)) (pa_cons (pv 13) (pa_cons (pe_tup pa_nil) pa_nil)))))))
   (pss_cons (ps_set (i := 6) scLawLoop.nd rfl (.inl rfl) (pe_dn DLawPlace hr (by omega) (by rfl) (pa_cons (pv 1) pa_nil)))
   (pss_cons (ps_set (i := 7) scLawLoop.nd rfl (.inl rfl) (pe_tup (pa_cons pe_str (pa_cons (pe_dn DLawPlace hr (by omega) (by rfl) (pa_cons (pv 1) pa_nil)) (pa_cons (pe_ix ix_list (pv 4) pe_int (fun _ _ => rfl)) (pa_cons (pe_tup pa_nil) pa_nil))))))
   (pss_cons (ps_set (i := 8) scLawLoop.nd rfl (.inl rfl) (pe_op op_cat (pe_slice sl_list (pv 5) po_none (po_some (pe_un un_neg pe_int))) (pe_lst (pa_cons (pe_tup (pa_cons pe_str (pa_cons (pe_dn DLawPlace hr (by omega) (by rfl) (pa_cons (pv 1) pa_nil)) (pa_cons (pe_ix ix_list (pv 4) pe_int (fun _ _ => rfl)) (pa_cons (pe_tup pa_nil) pa_nil))))) pa_nil))))
   (pss_cons (ps_if (PW.pt (pw_and (pt_cmpR op_gt (pe_callB call_len_seq (by rfl) B.len PySem.boot_len (pa_cons (pv 3) pa_nil)) pe_int (nomark _)) (pw_and (pt_cmpR op_eq (pe_ix ix_list (pe_ix ix_tup (pv 2) pe_int (fun _ _ => rfl)) pe_int (fun _ _ => rfl)) (pe_ix ix_tup (pv 2) pe_int (fun _ _ => rfl)) (nomark _)) (pw_and1 (pt_cmpR op_eq (pe_dn DLawDraw hr (by omega) (by rfl) (pa_cons (pv 0) (pa_cons pe_int pa_nil))) pe_int (nomark _))))))
   (pss_cons (ps_set (i := 9) scLawLoop.nd rfl (.inl rfl) (pe_ix ix_list (pe_lst (pa_cons pe_str (pa_cons pe_str (pa_cons pe_str pa_nil)))) (pe_op op_mul (pe_callTy call_int1 (by rfl) B.int bi_int (pa_cons (pe_cmpR op_eq (pe_ix ix_tup (pv 2) pe_int (fun _ _ => rfl)) pe_str (nomark _)) pa_nil)) (pe_op op_add pe_int (pe_dn DLawDraw hr (by omega) (by rfl) (pa_cons (pv 0) (pa_cons pe_int pa_nil))))) (fun _ _ => rfl)))
   (pss_cons (ps_asg (pe_tup (pa_cons pe_str (pa_cons (pe_dn DLawPlace hr (by omega) (by rfl) (pa_cons (pv 1) pa_nil)) (pa_cons (pv 9) (pa_cons (pv 7) (pa_cons (pe_ix ix_list (pv 8) pe_int (fun _ _ => rfl)) pa_nil)))))) (pg_sub (pv 8) pe_int set_list))
   (pss_cons (ps_set (i := 10) scLawLoop.nd rfl (.inl rfl) (pe_tup (pa_cons pe_str (pa_cons (pe_dn DLawPlace hr (by omega) (by rfl) (pa_cons (pv 1) pa_nil)) (pa_cons (pe_ix ix_tup (pv 2) pe_int (fun _ _ => rfl)) (pa_cons (pe_callTy call_tuple_of (by rfl) B.tuple bi_tuple (pa_cons (pv 8) pa_nil)) pa_nil))))))
   (pss_one (ps_ret (pe_tup (pa_cons pe_str (pa_cons (pv 6) (pa_cons (pe_ix ix_list (pv 5) (pe_un un_neg pe_int) (fun _ _ => rfl)) (pa_cons (pe_ix ix_list (pv 5) pe_int (fun _ _ => rfl)) (pa_cons (pe_ix ix_list (pv 4) pe_int (fun _ _ => rfl)) (pa_cons (pe_ix ix_list (pv 4) pe_int (fun _ _ => rfl)) (pa_cons (pv 10) pa_nil)))))))))))))
   pss_nil)
   (pss_cons (ps_set (i := 11) scLawLoop.nd rfl (.inl rfl) (pe_tup (pa_cons pe_str (pa_cons (pe_dn DLawPlace hr (by omega) (by rfl) (pa_cons (pv 1) pa_nil)) (pa_cons (pe_ix ix_tup (pv 2) pe_int (fun _ _ => rfl)) (pa_cons (pe_callTy call_tuple_of (by rfl) B.tuple bi_tuple (pa_cons (pv 8) pa_nil)) pa_nil))))))
   (pss_cons (ps_set (i := 9) scLawLoop.nd rfl (.inl rfl) (pe_ix ix_list (pe_lst (pa_cons pe_str (pa_cons pe_str (pa_cons pe_str (pa_cons pe_str pa_nil))))) (pe_op op_mul (pe_callTy call_int1 (by rfl) B.int bi_int (pa_cons (pe_cmpR op_eq (pe_ix ix_tup (pv 2) pe_int (fun _ _ => rfl)) pe_str (nomark _)) pa_nil)) (pe_op op_add pe_int (pe_dn DLawDraw hr (by omega) (by rfl) (pa_cons (pv 0) (pa_cons pe_int pa_nil))))) (fun _ _ => rfl)))
   (pss_cons (ps_set (i := 12) scLawLoop.nd rfl (.inl rfl) (pe_dn DLawLeaf hr (by omega) (by rfl) (pa_cons (pv 0) (pa_cons (pv 1) (pa_cons (pe_ix ix_tup (pv 2) pe_int (fun _ _ => rfl)) (pa_cons (pe_lst pa_nil) pa_nil))))))
   (pss_one (ps_ret (pe_tup (pa_cons pe_str (pa_cons (pv 6) (pa_cons (pe_ix ix_list (pv 5) (pe_un un_neg pe_int) (fun _ _ => rfl)) (pa_cons (pv 12) (pa_cons (pe_ix ix_list (pv 4) pe_int (fun _ _ => rfl)) (pa_cons (pe_ix ix_list (pv 4) pe_int (fun _ _ => rfl)) (pa_cons (pe_tup (pa_cons pe_str (pa_cons (pe_dn DLawPlace hr (by omega) (by rfl) (pa_cons (pv 1) pa_nil)) (pa_cons (pv 9) (pa_cons (pv 7) (pa_cons (pv 11) pa_nil)))))) pa_nil))))))))))))))))))), ?_⟩
  refine ⟨_, rfl, wa, _, _, _, rfl, rfl, SqL.of hwy, atI_nat (j := 3) rfl, C.na, rfl, ⟨_, SqL.of W.nm⟩, fun D nD => lc_it (walk_list (xs := ns.map V.str)) (fun i Hc => Same H Hc ∧ Hc D = some (.lst (((ns.take i).filter (freshB ps h.nm)).map V.str))) ⟨same_new nD, upd_same⟩ (fun i Hc _ p => SqL.of (p.1 _ _ W.nm)) (fun i x Hc Hd hi p y => ?_) fun Hc p => ?_⟩
  · obtain ⟨rfl, hx⟩ := y
    obtain ⟨s1, hD⟩ := p
    rw [List.getElem?_map] at hx
    cases hz : ns[i]? with
    | none => rw [hz] at hx; cases hx
    | some z =>
      rw [hz] at hx
      obtain rfl := Option.some.inj hx
      have hlen : ((ns.take i).filter (freshB ps h.nm)).length ≤ 8 := by
        have h1 := List.length_filter_le (freshB ps h.nm) (ns.take i)
        rw [List.length_take, ok.nm.len] at h1
        omega
      have step : (ns.take (i + 1)).filter (freshB ps h.nm) = (ns.take i).filter (freshB ps h.nm) ++ [z].filter (freshB ps h.nm) := by
        rw [List.take_add_one, hz, List.filter_append]
        rfl
      refine ⟨rfl, _, rfl, _, rfl, na, _, rfl, .inl (SqL.of (s1 _ _ hna)), rfl, flat_str _, _, rfl, ?_⟩
      by_cases hzp : z ∈ ps
      · refine iteBF (by show (!inV (.str z) (ps.map V.str)) = false; rw [inV_str, decide_eq_true hzp]; rfl) (iteF ⟨s1, ?_⟩)
        rw [step, List.filter_cons_of_neg (by rw [freshB_in hzp]; decide), List.filter_nil, List.append_nil]
        exact hD
      · refine iteBT (by show (!inV (.str z) (ps.map V.str)) = true; rw [inV_str, decide_eq_false hzp]; rfl) ?_
        refine ⟨_, rfl, _, rfl, ha, _, _, _, rfl, rfl, SqT.of (s1 _ _ hha), atI_nat (j := 0) rfl, rfl, _, rfl, ?_⟩
        by_cases hzn : z = h.nm
        · refine iteBF (by subst hzn; simp) ⟨s1, ?_⟩
          rw [step, List.filter_cons_of_neg (by rw [freshB_eq hzn]; decide), List.filter_nil, List.append_nil]
          exact hD
        · refine iteBT (by simp [hzn]) ⟨_, rfl, _, hD, ?_, same_over (o := .lst []) nD s1, ?_⟩
          · rw [List.length_map]
            exact line9' (by omega)
          · rw [upd_same, step, List.filter_cons_of_pos (freshB_yes hzp hzn), List.filter_nil, List.map_append]
            rfl
  obtain ⟨s1, hD⟩ := p
  rw [List.length_map, List.take_length, hfr] at hD
  have W1 := W.same s1
  have k1 : Kp d wa H Hc := .of s1
  have F1 : LpF Hc D na ha pa (f0 :: f1 :: fr) ps h := ⟨hD, s1 _ _ hna, s1 _ _ hha, s1 _ _ hpa⟩
  clear s1
  -- the params' uses
  refine ⟨_, rfl, na, rfl, ⟨_, SqL.of F1.fna⟩, fun D2 nD2 => ?_⟩
  have nd2 := W1.dr.fresh nD2
  have nw2 := W1.wy.fresh nD2
  refine lc_it (walk_list (xs := ps.map V.str)) (fun i Hx => Kp d wa Hc Hx ∧ DrAt Hx d ∧ WyAt Hx wa C ∧ ∃ us ts, Hx D2 = some (.lst us) ∧ us.length = i ∧ TsAt Hx ts us ∧ UsesOf (ps.take i) ts) ?_ (fun i Hx _ p => SqL.of (F1.mv W1 p.1).fna) (fun i x Hx Hy hi p y => ?_) fun Hx p => ?_
  · exact ⟨.of (same_new nD2), W1.dr.new nD2, W1.wy.over nw2, [], [], upd_same, rfl, TsAt.nil, .nil⟩
  · obtain ⟨rfl, hx⟩ := y
    obtain ⟨k2, dr2, wy2, us, ts, hD2, hul, hts, huse⟩ := p
    rw [List.getElem?_map] at hx
    cases hz : ps[i]? with
    | none => rw [hz] at hx; cases hx
    | some z =>
      rw [hz] at hx
      obtain rfl := Option.some.inj hx
      refine ⟨rfl, _, rfl, wa, C, rfl, wy2, fun y p0 q0 H4 k4 wy4 pl4 plo4 => ⟨_, rfl, line9 (by decide), fun g ng => ⟨line9 (by show 4 ≤ 1000; decide), fun u nu => ?_⟩⟩⟩
      have W2 := W1.next k2 dr2 wy2
      have W4 := W2.place k4 wy4
      have s5 := same_two (o' := .tup [.str "use", y, .str z, .ref g]) ng nu
      have k5 := (k2.trans k4.wide2).trans (.of s5)
      have hD5 := s5 _ _ (W2.lst k4.wide2 hts.ni hD2)
      have hts5 := TsAt.mono (KT.of s5) (TsAt.mono (W2.kt k4.wide2) hts)
      have hnew := tat_use (z := z) pl4 ng nu
      have dr5 := W4.dr.same s5
      have wy5 := wy4.same s5
      generalize upd (upd H4 g (.tup [])) u (.tup [.str "use", y, .str z, .ref g]) = H5 at k5 hD5 hts5 hnew dr5 wy5
      refine ⟨us, hD5, line9' (by rw [hul]; rw [List.length_map] at hi; omega), Kp.over nD2 k5, dr5.over nd2, wy5.over nw2, _, ts ++ [T.mk (.use z) p0 q0 []], upd_same, by rw [List.length_append, hul]; rfl, ?_, ?_⟩
      · exact TsAt.mono (kt_updL hD5) (TsAt.app hts5 (TsAt.cons hnew TsAt.nil))
      · rw [List.take_add_one, hz]
        exact paired_app huse (.cons ⟨p0, q0, plo4, rfl⟩ .nil)
  obtain ⟨k2, dr2, wy2, us, ts, hD2, hul, hts, huse⟩ := p
  rw [List.length_map, List.take_length] at huse
  have W2 := W1.next k2 dr2 wy2
  have F2 := F1.mv W1 k2
  have k02 := k1.trans k2
  -- the last param
  obtain ⟨ps0, pz, eps⟩ : ∃ ps0 pz, ps = ps0 ++ [pz] := ⟨ps.dropLast, ps.getLast (fun e => by rw [e] at hp1; simp at hp1), (List.dropLast_concat_getLast _).symm⟩
  rw [eps] at huse
  obtain ⟨ts0, tz, rfl, hu0, pzp, pzq, pzo, rfl⟩ := paired_snoc huse
  obtain ⟨us0, uz, rfl, ht0, htz⟩ := hts.snoc
  have hpz : pz ∈ ps := by rw [eps]; simp
  -- place, one
  refine ⟨_, rfl, wa, C, rfl, W2.wy, fun yc pc qc H3 k3 wy3 plc ploc => ?_⟩
  have W3 := W2.place k3 wy3
  have F3 := F2.mv W2 k3.wide2
  have k03 := k02.trans k3.wide2
  have hD3 := W2.lst k3.wide2 hts.ni hD2
  have ht3 := TsAt.mono (W2.kt k3.wide2) ht0
  have htz3 := TAt.mono (W2.kt k3.wide2) htz
  clear hts hD2 ht0 htz
  refine ⟨_, rfl, wa, C, rfl, W3.wy, fun y1 p1 q1 H4 k4 wy4 pl1 plo1 => ⟨_, rfl, D, _, _, _, rfl, rfl, SqL.of (F3.mv W3 k4.wide2).fD, atI_nat (j := 0) rfl, line9 (by decide), fun g1 ng1 => ⟨line9 (by show 4 ≤ 1000; decide), fun u1 nu1 => ?_⟩⟩⟩
  have s5 := same_two (o' := .tup [.str "use", y1, .str f0, .ref g1]) ng1 nu1
  have k35 : Kp d wa H3 _ := k4.wide2.trans (Kp.of s5)
  have W5 := (W3.place k4 wy4).same s5
  have F5 := F3.mv W3 k35
  have k05 := k03.trans k35
  have hD5 := W3.lst k35 (TsAt.ni (TsAt.app ht3 (TsAt.cons htz3 TsAt.nil))) hD3
  have ht5 := TsAt.mono (W3.kt k35) ht3
  have htz5 := TAt.mono (W3.kt k35) htz3
  have plc5 := Row.mono (W3.kt k35) plc
  have hone := tat_use (z := f0) pl1 ng1 nu1
  generalize upd (upd H4 g1 (.tup [])) u1 (.tup [.str "use", y1, .str f0, .ref g1]) = H5 at s5 k35 W5 F5 k05 hD5 ht5 htz5 plc5 hone
  clear k3 wy3 k4 wy4 s5 k35 hD3 ht3 htz3 plc ng1 nu1 pl1
  -- the rest
  refine ⟨_, rfl, 1, rfl, (-1), rfl, D2, _, rfl, SqL.of hD5, fun R0 nR0 => ?_⟩
  rw [cut_m1]
  have s6 := same_new (o := .lst us0) nR0
  have W6 := W5.same s6
  have k06 := k05.trans (.of s6)
  have F6 := F5.mv W5 (.of s6)
  refine ⟨_, rfl, wa, C, rfl, W6.wy, fun y2 p2 q2 H7 k7 wy7 pl2 plo2 => ⟨_, rfl, D, _, _, _, rfl, rfl, SqL.of (F6.mv W6 k7.wide2).fD, atI_nat (j := 1) rfl, line9 (by decide), fun g2 ng2 => ⟨line9 (by show 4 ≤ 1000; decide), fun u2 nu2 => ⟨line9 (by show 1 ≤ 1000; decide), fun L1 nL1 => ?_⟩⟩⟩⟩
  have s8 := (same_two (o' := .tup [.str "use", y2, .str f1, .ref g2]) ng2 nu2).trans (same_new (o := .lst [.ref u2]) nL1)
  have k68 : Kp d wa _ _ := k7.wide2.trans (Kp.of s8)
  have W8 := (W6.place k7 wy7).same s8
  have F8 := F6.mv W6 k68
  have k08 := k06.trans k68
  have k58 : Kp d wa H5 _ := (Kp.of s6).trans k68
  have htw := (tat_use (z := f1) pl2 ng2 nu2).mono (KT.of (same_new (o := .lst [.ref u2]) nL1))
  have G8 : LpG _ D2 R0 us0 uz ts0 (.mk (.use pz) pzp pzq []) yc pc qc u1 u2 (.mk (.use f0) p1 q1 []) (.mk (.use f1) p2 q2 []) :=
    ⟨W5.lst k58 (TsAt.ni (TsAt.app ht5 (TsAt.cons htz5 TsAt.nil))) hD5, TsAt.mono (W5.kt k58) ht5, TAt.mono (W5.kt k58) htz5, Row.mono (W5.kt k58) plc5, TAt.mono (W5.kt k58) hone, htw⟩
  have hR08 := W6.lst k68 ht5.ni (show upd H5 R0 (.lst us0) R0 = some (.lst us0) from upd_same)
  have hL18 : upd (upd (upd H7 g2 (.tup [])) u2 (.tup [.str "use", y2, .str f1, .ref g2])) L1 (.lst [.ref u2]) L1 = some (.lst [.ref u2]) := upd_same
  generalize upd (upd (upd H7 g2 (.tup [])) u2 (.tup [.str "use", y2, .str f1, .ref g2])) L1 (.lst [.ref u2]) = H8 at s8 k68 W8 F8 k08 k58 htw G8 hR08 hL18
  have hul0 : us0.length + 1 ≤ 5 := by
    rw [List.length_append, List.length_map] at hul
    show us0.length + [uz].length ≤ 5
    omega
  refine ⟨R0, L1, us0, [.ref u2], rfl, rfl, hR08, hL18, line9 (by show us0.length + 1 ≤ 1000; omega), fun R nR => ?_⟩
  have s9 := same_new (o := .lst (us0 ++ [.ref u2])) nR
  have hR9 : upd H8 R (.lst (us0 ++ [.ref u2])) R = some (.lst (us0 ++ [.ref u2])) := upd_same
  have k89 : Kp d wa H8 _ := .of s9
  have W9 := W8.same s9
  generalize upd H8 R (.lst (us0 ++ [.ref u2])) = H9 at s9 hR9 k89 W9
  have hnR := ni_app (u := u2) G8.ht
  have hns : ∀ z ∈ ns, NameOk z := ok.nm.ok
  have hu0n : ∀ z ∈ ps0, z ∈ ns ∧ z ∈ ps := fun z hz => by
    have hz2 : z ∈ ps := by rw [eps]; exact List.mem_append_left _ hz
    exact ⟨hps z hz2, hz2⟩
  have hgt : Good ns (Dh al) 1 ps (.mk (.use pz) pzp pzq []) := good_use pzo (hns _ (hps _ hpz)) (hps _ hpz) hpz
  have hg2 : Good ns (Dh al) 1 (ps ++ [f0, f1]) (.mk (.use f1) p2 q2 []) := good_use plo2 (hns _ f1n) f1n (by simp)
  have hg1 : Good ns (Dh al) 1 (ps ++ [f0, f1]) (.mk (.use f0) p1 q1 []) := good_use plo1 (hns _ f0n) f0n (by simp)
  have hgs : ∀ t ∈ ts0, Good ns (Dh al) 1 (ps ++ [f0, f1]) t := goods_of hns hu0 fun z hz => ⟨(hu0n z hz).1, List.mem_append_left _ (hu0n z hz).2⟩
  have hgs0 : ∀ t ∈ ts0, Good ns (Dh al) 1 ps t := goods_of hns hu0 hu0n
  have hhn : h.nm ∉ ps ++ [f0, f1] := fun e => by
    rcases List.mem_append.mp e with e | e
    · exact hnot e
    · rcases List.mem_cons.mp e with e | e
      · exact f0h e.symm
      · exact f1h (List.mem_singleton.mp e).symm
  have htl : us0.length = ts0.length := G8.ht.len
  have hpsl : ps.length = ts0.length + 1 := by
    rw [List.length_append, List.length_map] at hul
    have e : us0.length + [uz].length = ps.length := hul
    rw [← e, htl]
    rfl
  dsimp only [gName]
  refine seq_join (fun σ Hk => σ = [some (.ref d), some (.ref wa), some (.ref ha), some (.ref na), some (.ref D), some (.ref D2), some yc, some (.ref u1), some (.ref R), none, none, none, none, none] ∧ Kp d wa H8 Hk ∧ Wd Hk d wa C ns hs ∧ Hk R = some (.lst (us0 ++ [.ref u2]))) (fun Cc hC => ?_) ?_
  · have F9 := F8.mv W8 k89
    refine ⟨_, rfl, na, _, rfl, .inl (SqL.of F9.fna), _, _, rfl, rfl, _, rfl, ?_⟩
    rw [List.length_map]
    refine ite2D (fun hgt1 => ?_) (fun _ => iteF (hC _ _ ⟨rfl, k89, W9, hR9⟩))
    obtain ⟨k0, kr, eks⟩ : ∃ k0 kr, h.ks = k0 :: kr := by
      cases hk : h.ks with
      | nil => rw [hk] at hpl; simp at hpl; rw [hpl] at hp1; simp at hp1
      | cons a b => exact ⟨a, b, rfl⟩
    refine ⟨_, rfl, ha, _, _, _, rfl, rfl, SqT.of F9.fha, atI_nat (j := 1) rfl, pa, _, _, _, rfl, rfl, SqL.of F9.fpa, atI_nat (j := 0) (v := V.str k0) (by rw [eks]; rfl), _, rfl, ha, _, _, _, rfl, rfl, SqT.of F9.fha, atI_nat (j := 2) rfl, rfl, _, rfl, ?_⟩
    refine ite2D (fun _ => ?_) (fun _ => iteF (hC _ _ ⟨rfl, k89, W9, hR9⟩))
    refine ⟨_, rfl, d, 2, rfl, W9.dr, by decide, by decide, fun r H10 r0 r1 k10 dr10 => ⟨rfl, _, rfl, ?_⟩⟩
    have k8a := k89.trans k10.wide
    have W10 := W9.draw k10 dr10
    have hR10 := W9.lst k10.wide hnR hR9
    refine ite2D (fun _ => ?_) (fun _ => hC _ _ ⟨rfl, k8a, W10, hR10⟩)
    obtain ⟨ta, ts1, ua, us1, rfl, rfl⟩ : ∃ ta ts1 ua us1, ts0 = ta :: ts1 ∧ us0 = ua :: us1 := by
      cases ts0 with
      | nil => rw [hpsl] at hgt1; exact absurd hgt1 (by decide)
      | cons a b =>
        cases us0 with
        | nil => simp at htl
        | cons c d => exact ⟨a, b, c, d, rfl, rfl⟩
    refine ⟨line9 (by show 3 ≤ 1000; decide), fun p11 n11 => ?_⟩
    have W11 := W10.new (o := .lst [V.str ":", V.str "+", V.str "-"]) n11
    have k8b := k8a.trans (.of (same_new (o := .lst [V.str ":", V.str "+", V.str "-"]) n11))
    have hR11 := same_new (o := .lst [V.str ":", V.str "+", V.str "-"]) n11 _ _ hR10
    refine ⟨_, rfl, ha, _, _, _, rfl, rfl, SqT.of (F8.mv W8 k8b).fha, atI_nat (j := 2) rfl, rfl, .inr ⟨_, rfl, _, rfl, d, 2, rfl, W11.dr, by decide, by decide, fun r2 H12 r20 r21 k12 dr12 => ⟨_, _, rfl, rfl, _, _, rfl, rfl, .inl (bit_small _), ?_⟩⟩⟩
    have hp12 := k12 p11 _ upd_same (W10.dr.fresh n11) (W10.dr.fresh n11)
    have k8c := k8b.trans k12.wide
    have W12 := W11.draw k12 dr12
    have hR12 := W11.lst k12.wide hnR hR11
    obtain ⟨sg, hsg, hat⟩ := sg3 (decide (V.str h.kd = V.str "n")) r20 r21
    refine ⟨p11, _, _, _, rfl, rfl, SqL.of hp12, hat, ?_⟩
    refine ⟨_, rfl, wa, C, rfl, W12.wy, fun y3 p3 q3 H13 k13 wy13 pl3 plo3 => ?_⟩
    have k8d := k8c.trans k13.wide2
    have W13 := W12.place k13 wy13
    have hR13 := W12.lst k13.wide2 hnR hR12
    refine ⟨_, rfl, _, rfl, _, rfl, R, _, _, _, rfl, rfl, SqL.of hR13, atI_nat (j := 0) rfl, line9 (by show 5 ≤ 1000; decide), fun u3 nu3 => ?_⟩
    have s14 := same_new (o := .tup [.str "op", y3, .str sg, .ref u1, ua]) nu3
    have k8e := k8d.trans (.of s14)
    have W14 := W13.same s14
    have G14 := G8.mv W8 k8e
    have hR14 := s14 _ _ hR13
    obtain ⟨vta, vts, evs, hta, hts1⟩ := (tsat_cons _ _ _ _).mp G14.ht
    obtain ⟨rfl, rfl⟩ := List.cons.inj evs
    have hop : TAt (upd H13 u3 (.tup [.str "op", y3, .str sg, .ref u1, ua])) (.mk (.op sg) p3 q3 [.mk (.use f0) p1 q1 [], ta]) (.ref u3) :=
      TAt.mk (d := .op sg) (pv := y3) (vs := [.ref u1, ua]) (Row.mono (KT.of s14) pl3) ⟨_, _, rfl, u3, rfl, upd_same⟩ (TsAt.cons G14.on (TsAt.cons hta TsAt.nil))
    have dr14 := W14.dr
    have wy14 := W14.wy
    generalize upd H13 u3 (.tup [.str "op", y3, .str sg, .ref u1, ua]) = H14 at s14 k8e W14 G14 hR14 hta hts1 hop dr14 wy14
    refine ⟨_, rfl, R, _, 0, 0, rfl, rfl, hR14, ix0 _ _, ?_⟩
    have nRd := W8.dr.fresh nR
    have nRw := W8.wy.fresh nR
    have k8f : Kp d wa H8 (upd H14 R (.lst (.ref u3 :: (us1 ++ [.ref u2])))) := Kp.over nR k8e
    have W15 := W8.next k8f (dr14.over nRd) (wy14.over nRw)
    have G15 := G8.mv W8 k8f
    have hop15 := hop.mono (kt_updL (o := .lst (.ref u3 :: (us1 ++ [.ref u2]))) hR14)
    have hR15 : upd H14 R (.lst (.ref u3 :: (us1 ++ [.ref u2]))) R = some (.lst (.ref u3 :: (us1 ++ [.ref u2]))) := upd_same
    have e15 : upd H14 R (.lst ((ua :: us1 ++ [V.ref u2]).set 0 (V.ref u3))) = upd H14 R (.lst (.ref u3 :: (us1 ++ [.ref u2]))) := rfl
    rw [e15]
    generalize upd H14 R (.lst (.ref u3 :: (us1 ++ [.ref u2]))) = H15 at k8f W15 G15 hop15 hR15
    -- the body
    refine ⟨_, rfl, wa, C, rfl, W15.wy, fun y4 p4 q4 H16 k16 wy16 pl4 plo4 => ?_⟩
    have k8g := k8f.trans k16.wide2
    have W16 := W15.place k16 wy16
    have F16 := F8.mv W8 k8g
    have hR16 := W15.lst k16.wide2 (ni_ref _ _) hR15
    refine ⟨_, rfl, ha, _, _, _, rfl, rfl, SqT.of F16.fha, atI_nat (j := 0) rfl, _, rfl, R, _, rfl, .inl ⟨SqL.of hR16, fun g4 ng4 => ⟨line9 (by show 4 ≤ 1000; decide), fun u4 nu4 => ?_⟩⟩⟩
    have s17 : Same H16 (upd (upd H16 g4 (.tup (.ref u3 :: (us1 ++ [.ref u2])))) u4 (.tup [.str "use", y4, .str h.nm, .ref g4])) := same_two ng4 nu4
    have k8h := k8g.trans (.of s17)
    have W17 := W16.same s17
    have G17 := G8.mv W8 k8h
    have F17 := F8.mv W8 k8h
    obtain ⟨vta, vts, evs, hta17, hts17⟩ := (tsat_cons _ _ _ _).mp G17.ht
    obtain ⟨rfl, rfl⟩ := List.cons.inj evs
    have hop17 : TAt _ _ _ := (hop15.mono (W15.kt k16.wide2)).mono (KT.of s17)
    have hbody : TAt (upd (upd H16 g4 (.tup (.ref u3 :: (us1 ++ [.ref u2])))) u4 (.tup [.str "use", y4, .str h.nm, .ref g4])) (.mk (.use h.nm) p4 q4 (.mk (.op sg) p3 q3 [.mk (.use f0) p1 q1 [], ta] :: (ts1 ++ [.mk (.use f1) p2 q2 []]))) (.ref u4) :=
      TAt.mk (d := .use h.nm) (pv := y4) (vs := .ref u3 :: (us1 ++ [.ref u2])) (Row.mono (KT.of s17) pl4) ⟨.ref g4, ⟨g4, rfl, same_new nu4 _ _ upd_same⟩, u4, rfl, upd_same⟩ (TsAt.cons hop17 (TsAt.app hts17 (TsAt.cons G17.tw TsAt.nil)))
    generalize upd (upd H16 g4 (.tup (.ref u3 :: (us1 ++ [.ref u2])))) u4 (.tup [.str "use", y4, .str h.nm, .ref g4]) = H17 at s17 k8h W17 G17 F17 hta17 hop17 hbody
    refine ⟨_, rfl, _, rfl, 1, rfl, D2, _, _, _, rfl, rfl, SqL.of G17.hD, at_m1 _ _, _, rfl, D2, _, _, _, rfl, rfl, SqL.of G17.hD, atI_nat (j := 0) rfl, _, rfl, D, _, _, _, rfl, rfl, SqL.of F17.fD, atI_nat (j := 0) rfl, _, rfl, D, _, _, _, rfl, rfl, SqL.of F17.fD, atI_nat (j := 1) rfl, _, rfl, line9 (by show 7 ≤ 1000; decide), fun u5 nu5 => ?_⟩
    have s18 := same_new (o := .tup [.str "case", yc, uz, ua, .str f0, .str f1, .ref u4]) nu5
    refine q (.mk (.cs f0 f1) pc qc [.mk (.use pz) pzp pzq [], ta, _]) (.ref u5) _ (k08.trans (k8h.trans (.of s18))) (W17.same s18) (TAt.mk (d := .cs f0 f1) (pv := yc) (vs := [uz, ua, .ref u4]) (Row.mono (KT.of s18) G17.pl) ⟨_, _, _, rfl, u5, rfl, upd_same⟩ (TsAt.cons (G17.hz.mono (KT.of s18)) (TsAt.cons (hta17.mono (KT.of s18)) (TsAt.cons (hbody.mono (KT.of s18)) TsAt.nil)))) ?_
    refine Good.cs3 ploc (hns _ f0n) (hns _ f1n) f0n f1n f01 (hgt.mono (by decide)) ((hgs0 ta List.mem_cons_self).mono (by decide)) ?_
    refine Good.use plo4 (hns _ hnm) hnm hhn ⟨h, hal, rfl, ?_⟩ ?_ fun t ht => ?_
    · rw [List.length_cons, List.length_append, ← hpl, hpsl, List.length_cons]
      rfl
    · rw [List.length_cons] at hpsl
      rw [List.length_cons, List.length_append]
      show ts1.length + 1 + 1 ≤ 4
      omega
    · rcases List.mem_cons.mp ht with rfl | ht
      · exact Good.op2 plo3 hsg hg1 (hgs ta List.mem_cons_self)
      · rcases List.mem_append.mp ht with ht | ht
        · exact (hgs t (List.mem_cons_of_mem _ ht)).succ
        · rw [List.mem_singleton.mp ht]
          exact hg2.succ
  · rintro σ Hk ⟨rfl, k8a, Wk, hRk⟩
    -- again
    refine ⟨_, rfl, wa, C, rfl, Wk.wy, fun y4 p4 q4 H16 k16 wy16 pl4 plo4 => ?_⟩
    have k8g := k8a.trans k16.wide2
    have W16 := Wk.place k16 wy16
    have F16 := F8.mv W8 k8g
    have hR16 := Wk.lst k16.wide2 hnR hRk
    refine ⟨_, rfl, ha, _, _, _, rfl, rfl, SqT.of F16.fha, atI_nat (j := 0) rfl, _, rfl, R, _, rfl, .inl ⟨SqL.of hR16, fun g4 ng4 => ⟨line9 (by show 4 ≤ 1000; decide), fun u4 nu4 => ?_⟩⟩⟩
    have s17 : Same H16 (upd (upd H16 g4 (.tup (us0 ++ [.ref u2]))) u4 (.tup [.str "use", y4, .str h.nm, .ref g4])) := same_two ng4 nu4
    have k8h := k8g.trans (.of s17)
    have W17 := W16.same s17
    have G17 := G8.mv W8 k8h
    have hag : TAt (upd (upd H16 g4 (.tup (us0 ++ [.ref u2]))) u4 (.tup [.str "use", y4, .str h.nm, .ref g4])) (.mk (.use h.nm) p4 q4 (ts0 ++ [.mk (.use f1) p2 q2 []])) (.ref u4) :=
      TAt.mk (d := .use h.nm) (pv := y4) (vs := us0 ++ [.ref u2]) (Row.mono (KT.of s17) pl4) ⟨.ref g4, ⟨g4, rfl, same_new nu4 _ _ upd_same⟩, u4, rfl, upd_same⟩ (TsAt.app G17.ht (TsAt.cons G17.tw TsAt.nil))
    generalize upd (upd H16 g4 (.tup (us0 ++ [.ref u2]))) u4 (.tup [.str "use", y4, .str h.nm, .ref g4]) = H17 at s17 k8h W17 G17 hag
    -- the sign
    refine ⟨line9 (by show 4 ≤ 1000; decide), fun p11 n11 => ?_⟩
    have s18 := same_new (o := .lst [V.str ":", V.str "+", V.str "-", V.str "*"]) n11
    have W18 := W17.same s18
    have k8i := k8h.trans (.of s18)
    refine ⟨_, rfl, ha, _, _, _, rfl, rfl, SqT.of (F8.mv W8 k8i).fha, atI_nat (j := 2) rfl, rfl, .inr ⟨_, rfl, _, rfl, d, 3, rfl, W18.dr, by decide, by decide, fun r2 H19 r20 r21 k19 dr19 => ⟨_, _, rfl, rfl, _, _, rfl, rfl, .inl (bit_small _), ?_⟩⟩⟩
    have hp19 := k19 p11 _ upd_same (W17.dr.fresh n11) (W17.dr.fresh n11)
    have k8j := k8i.trans k19.wide
    have W19 := W18.draw k19 dr19
    have hag19 : TAt _ _ _ := (hag.mono (KT.of s18)).mono (W18.kt k19.wide)
    obtain ⟨sg, hsg, hat⟩ := sg4 (decide (V.str h.kd = V.str "n")) r20 r21
    refine ⟨p11, _, _, _, rfl, rfl, SqL.of hp19, hat, ?_⟩
    -- the empty side
    refine ⟨_, rfl, _, rfl, _, rfl, ha, _, _, _, rfl, rfl, SqT.of (F8.mv W8 k8j).fha, atI_nat (j := 2) rfl, line9 (by decide), fun e1 ne1 => ?_⟩
    have s20 := same_new (o := .lst []) ne1
    have W20 := W19.same s20
    have k8k := k8j.trans (.of s20)
    refine ⟨d, wa, C, ns, hs, al, h.kd, .ref e1, [], rfl, W20, ok, ⟨e1, [], rfl, upd_same, .nil⟩, fun z hz => (nomatch hz), Nat.zero_le _, fun te ve H21 k21 W21 hte hge => ?_⟩
    have k8l := k8k.trans k21
    have hag21 : TAt _ _ _ := (hag19.mono (KT.of s20)).mono (W20.kt k21)
    -- the case
    have F21 := F8.mv W8 k8l
    have G21 := G8.mv W8 k8l
    refine ⟨_, rfl, _, rfl, 1, rfl, D2, _, _, _, rfl, rfl, SqL.of G21.hD, at_m1 _ _, _, rfl, _, rfl, D, _, _, _, rfl, rfl, SqL.of F21.fD, atI_nat (j := 0) rfl, _, rfl, D, _, _, _, rfl, rfl, SqL.of F21.fD, atI_nat (j := 1) rfl, _, rfl, wa, C, rfl, W21.wy, fun y3 p3 q3 H22 k22 wy22 pl3 plo3 => ?_⟩
    have k8m := k8l.trans k22.wide2
    have W22 := W21.place k22 wy22
    refine ⟨_, rfl, _, rfl, _, rfl, line9 (by show 5 ≤ 1000; decide), fun u3 nu3 => ⟨line9 (by show 7 ≤ 1000; decide), fun u5 nu5 => ?_⟩⟩
    have s23 := same_new (o := .tup [.str "op", y3, .str sg, .ref u1, .ref u4]) nu3
    have s24 := s23.trans (same_new (o := .tup [.str "case", yc, uz, ve, .str f0, .str f1, .ref u3]) nu5)
    have k8n := k8m.trans (.of s24)
    have G24 := G8.mv W8 k8n
    have hag24 : TAt _ _ _ := (hag21.mono (W21.kt k22.wide2)).mono (KT.of s24)
    have hte24 : TAt _ _ _ := (hte.mono (W21.kt k22.wide2)).mono (KT.of s24)
    have hop : TAt _ (.mk (.op sg) p3 q3 [.mk (.use f0) p1 q1 [], .mk (.use h.nm) p4 q4 (ts0 ++ [.mk (.use f1) p2 q2 []])]) (.ref u3) :=
      TAt.mk (d := .op sg) (pv := y3) (vs := [.ref u1, .ref u4]) (Row.mono (KT.of s24) pl3) ⟨_, _, rfl, u3, rfl, same_new nu5 _ _ upd_same⟩ (TsAt.cons G24.on (TsAt.cons hag24 TsAt.nil))
    refine q (.mk (.cs f0 f1) pc qc [.mk (.use pz) pzp pzq [], te, _]) (.ref u5) _ (k08.trans k8n) (W22.same s24) (TAt.mk (d := .cs f0 f1) (pv := yc) (vs := [uz, ve, .ref u3]) G24.pl ⟨_, _, _, rfl, u5, rfl, upd_same⟩ (TsAt.cons G24.hz (TsAt.cons hte24 (TsAt.cons hop TsAt.nil)))) ?_
    refine Good.cs3 ploc (hns _ f0n) (hns _ f1n) f0n f1n f01 (hgt.mono (by decide)) ((hge ps fun z hz => (nomatch hz)).mono (by decide)) ?_
    refine Good.op2 plo3 hsg (hg1.mono (by decide)) ?_
    refine Good.use plo4 (hns _ hnm) hnm hhn ⟨h, hal, rfl, ?_⟩ ?_ fun t ht => ?_
    · rw [List.length_append, ← hpl, hpsl]
      rfl
    · rw [List.length_append]
      show ts0.length + 1 ≤ 4
      omega
    · rcases List.mem_append.mp ht with ht | ht
      · exact hgs t ht
      · rw [List.mem_singleton.mp ht]
        exact hg2
end
end Tp
set_option Elab.async false
set_option linter.all false
set_option maxRecDepth 100000
set_option maxHeartbeats 4000000
/-! What the law draws: trees. -/
namespace Tp
open PySem PySem.Spec PyProof.Rows L2
abbrev sLawOp : Stmt := topS 34
abbrev nLawOp : List Str := ["draws", "way", "want", "near", "deep", "place", "sign", "sides", "left"]
theorem scLawOp : FnScope nLawOp ["draws", "way", "want", "near", "deep"] (defScope sLawOp) := ⟨rfl, rfl, rfl, by decide +kernel, rfl, by decide +kernel, by decide +kernel⟩
abbrev sLawCall : Stmt := topS 35
abbrev nLawCall : List Str := ["draws", "way", "want", "near", "deep", "hidden", "head", "some", "place", "name", "kind"]
theorem scLawCall : FnScope nLawCall ["draws", "way", "want", "near", "deep"] (defScope sLawCall) := ⟨rfl, rfl, rfl, by decide +kernel, rfl, by decide +kernel, by decide +kernel⟩
abbrev sLawTree : Stmt := topS 36
abbrev nLawTree : List Str := ["draws", "way", "want", "near", "deep", "form", "place", "test", "yes", "first", "name", "kind", "worth", "tail", "what", "empty", "body"]
theorem scLawTree : FnScope nLawTree ["draws", "way", "want", "near", "deep"] (defScope sLawTree) := ⟨rfl, rfl, rfl, by decide +kernel, rfl, by decide +kernel, by decide +kernel⟩
theorem pick_op : ∀ (j : Nat) (v : V), [V.str "+", V.str "-", V.str "*", V.str "div", V.str "mod", V.str "==", V.str "<", V.str "+"][j]? = some v → ∃ s, s ∈ opsL ∧ v = V.str s
  | 0, v, h => ⟨"+", by decide +kernel, (Option.some.inj h).symm⟩
  | 1, v, h => ⟨"-", by decide +kernel, (Option.some.inj h).symm⟩
  | 2, v, h => ⟨"*", by decide +kernel, (Option.some.inj h).symm⟩
  | 3, v, h => ⟨"div", by decide +kernel, (Option.some.inj h).symm⟩
  | 4, v, h => ⟨"mod", by decide +kernel, (Option.some.inj h).symm⟩
  | 5, v, h => ⟨"==", by decide +kernel, (Option.some.inj h).symm⟩
  | 6, v, h => ⟨"<", by decide +kernel, (Option.some.inj h).symm⟩
  | 7, v, h => ⟨"+", by decide +kernel, (Option.some.inj h).symm⟩
section
variable {P : Program} {w : World} {K : PySem.W.Frag} {mg : Str → Option Value} {base : Heap} {ka oa : Addr} {tl tn tp td te : Tok}
/-- draws, way, want, near, deep: a sound tree of depth n -/
def spLawTree (n : Nat) : Sp := fun vs H Q _ => ∃ (d wa : Addr) (C : Cfg) (ns : List Str) (hs al : List Hd) (want : Str) (nv : V) (nr : List (Str × Str)) (dp : Int), vs = [.ref d, .ref wa, .str want, nv, .int dp] ∧ Wd H d wa C ns hs ∧ WdOk ns hs al ∧ NrAt H nv nr ∧ (∀ z ∈ nr.map Prod.fst, z ∈ ns) ∧ nr.length + 2 * n ≤ 90 ∧ 1 ≤ n ∧ dp ≤ n ∧
  ∀ t v H', Kp d wa H H' → Wd H' d wa C ns hs → TAt H' t v → Good ns (Dh al) n (nr.map Prod.fst) t → Q v H'
/-- the same, deep one more than the trees within -/
def spLawOp (n : Nat) : Sp := fun vs H Q _ => ∃ (d wa : Addr) (C : Cfg) (ns : List Str) (hs al : List Hd) (want : Str) (nv : V) (nr : List (Str × Str)) (dp : Int), vs = [.ref d, .ref wa, .str want, nv, .int dp] ∧ Wd H d wa C ns hs ∧ WdOk ns hs al ∧ NrAt H nv nr ∧ (∀ z ∈ nr.map Prod.fst, z ∈ ns) ∧ nr.length + 2 * n ≤ 90 ∧ 1 ≤ n ∧ dp - 1 ≤ n ∧
  ∀ t v H', Kp d wa H H' → Wd H' d wa C ns hs → TAt H' t v → Good ns (Dh al) (n + 1) (nr.map Prod.fst) t → Q v H'
theorem dn_law_op {n : Nat} (A : At K mg "_law_op" sLawOp ["draws", "way", "want", "near", "deep"]) (B : Bt mg) (DLawDraw : Dn P w K mg base "_law_draw" 1 ["draws", "many"] spLawDraw) (DLawPlace : Dn P w K mg base "_law_place" 1 ["way"] spLawPlace)
    (DLawTree : Dn P w K mg base "_law_tree" (2 * n + 3) ["draws", "way", "want", "near", "deep"] (spLawTree n)) : Dn P w K mg base "_law_op" (2 * n + 4) ["draws", "way", "want", "near", "deep"] (spLawOp n) := by
  refine A.dn fun f fd F => F.ok scLawOp (fun vs H Q E h => ?_) (fun cdv A outer s H vs Q E hr h => ?_)
  · obtain ⟨d, wa, C, ns, hs, al, want, nv, nr, dp, rfl, _⟩ := h
    rfl
  obtain ⟨d, wa, C, ns, hs, al, want, nv, nr, dp, rfl, W, ok, hnr, hin, hlen, h1n, hdp, q⟩ := h
  refine ⟨_, (pss_cons (ps_set (i := 5) scLawOp.nd rfl (.inl rfl) (pe_dn DLawPlace hr (by omega) (by rfl) (pa_cons (pv 1) pa_nil)))
   (pss_cons (ps_set (i := 6) scLawOp.nd rfl (.inl rfl) pe_str)
   (pss_cons (ps_set (i := 7) scLawOp.nd rfl (.inl rfl) (pe_lst (pa_cons pe_str (pa_cons pe_str pa_nil))))
   (pss_cons (ps_if (pt_cmpR op_eq (pv 2) pe_str (nomark _))
   (pss_cons (ps_set (i := 6) scLawOp.nd rfl (.inl rfl) (pe_ix ix_list (pe_lst (pa_cons pe_str (pa_cons pe_str (pa_cons pe_str (pa_cons pe_str (pa_cons pe_str (pa_cons pe_str (pa_cons pe_str (pa_cons pe_str pa_nil))))))))) (pe_dn DLawDraw hr (by omega) (by rfl) (pa_cons (pv 0) (pa_cons pe_int pa_nil))) (fun _ _ => rfl)))
   (pss_cons (ps_set (i := 7) scLawOp.nd rfl (.inl rfl) (pe_lst (pa_cons pe_str (pa_cons pe_str pa_nil))))
   (pss_one (ps_if (PW.pt (pw_and (pt_cmpR op_eq (pv 6) pe_str (nomark _)) (pw_and1 (pt_cmpR op_eq (pe_dn DLawDraw hr (by omega) (by rfl) (pa_cons (pv 0) (pa_cons pe_int pa_nil))) pe_int (nomark _)))))
   (pss_one (ps_set (i := 7) scLawOp.nd rfl (.inl rfl) (pe_lst (pa_cons pe_str (pa_cons pe_str pa_nil)))))
   pss_nil))))
   pss_nil)
   (pss_cons (ps_set (i := 8) scLawOp.nd rfl (.inl rfl) (pe_dn DLawTree hr (by omega) (by rfl) (pa_cons (pv 0) (pa_cons (pv 1) (pa_cons (pe_ix ix_list (pv 7) pe_int (fun _ _ => rfl)) (pa_cons (pv 3) (pa_cons (pe_op op_sub (pv 4) pe_int) pa_nil)))))))
   (pss_one (ps_ret (pe_tup (pa_cons pe_str (pa_cons (pv 5) (pa_cons (pv 6) (pa_cons (pv 8) (pa_cons (pe_dn DLawTree hr (by omega) (by rfl) (pa_cons (pv 0) (pa_cons (pv 1) (pa_cons (pe_ix ix_list (pv 7) pe_int (fun _ _ => rfl)) (pa_cons (pv 3) (pa_cons (pe_op op_sub (pv 4) pe_int) pa_nil)))))) pa_nil))))))))))))), ?_⟩
  refine ⟨_, rfl, wa, C, rfl, W.wy, fun yc pc qc H1 k1 wy1 plc ploc => ?_⟩
  have W1 := W.place k1 wy1
  refine ⟨line9 (by show 2 ≤ 1000; decide), fun S0 nS0 => ?_⟩
  have s2 := same_new (o := .lst [V.str "n", V.str "l"]) nS0
  have W2 := W1.same s2
  have k02 : Kp d wa H _ := k1.wide2.trans (.of s2)
  have hS2 : upd H1 S0 (.lst [V.str "n", V.str "l"]) S0 = some (.lst [V.str "n", V.str "l"]) := upd_same
  have plc2 := Row.mono (KT.of s2) plc
  generalize upd H1 S0 (.lst [V.str "n", V.str "l"]) = H2 at s2 W2 k02 hS2 plc2
  dsimp only [gName]
  refine seq_join (fun σ Hk => ∃ sg S a b, σ = [some (.ref d), some (.ref wa), some (.str want), some nv, some (.int dp), some yc, some (.str sg), some (.ref S), none] ∧ Kp d wa H Hk ∧ Wd Hk d wa C ns hs ∧ PlAt Hk yc pc qc ∧ sg ∈ opsL ∧ Hk S = some (.lst [.str a, .str b])) (fun Cc hC => ?_) ?_
  · refine ⟨_, rfl, rfl, _, rfl, ?_⟩
    refine ite2D (fun _ => ?_) (fun _ => hC _ _ ⟨_, S0, _, _, rfl, k02, W2, plc2, by decide +kernel, hS2⟩)
    refine ⟨line9 (by show 8 ≤ 1000; decide), fun p3 n3 => ⟨_, rfl, d, 8, rfl, (W2.new n3).dr, by decide, by decide, fun r H4 r0 r1 k4 dr4 => ?_⟩⟩
    have s3 := same_new (o := .lst [V.str "+", V.str "-", V.str "*", V.str "div", V.str "mod", V.str "==", V.str "<", V.str "+"]) n3
    have hp4 := k4 p3 _ upd_same (W2.dr.fresh n3) (W2.dr.fresh n3)
    have k24 : Kp d wa H2 H4 := (Kp.of s3).trans k4.wide
    have W4 := (W2.same s3).draw k4 dr4
    obtain ⟨j, v, rfl, hj⟩ := at_some (xs := [V.str "+", V.str "-", V.str "*", V.str "div", V.str "mod", V.str "==", V.str "<", V.str "+"]) r0 r1
    obtain ⟨sg, hsg, rfl⟩ := pick_op j v hj
    refine ⟨p3, _, _, _, rfl, rfl, SqL.of hp4, atI_nat hj, line9 (by show 2 ≤ 1000; decide), fun S5 n5 => ?_⟩
    have s5 := same_new (o := .lst [V.str "n", V.str "n"]) n5
    have W5 := W4.same s5
    have k25 := k24.trans (.of s5)
    have hS5 : upd H4 S5 (.lst [V.str "n", V.str "n"]) S5 = some (.lst [V.str "n", V.str "n"]) := upd_same
    generalize upd H4 S5 (.lst [V.str "n", V.str "n"]) = H5 at s5 W5 k25 hS5
    refine ⟨_, rfl, rfl, _, rfl, ?_⟩
    refine ite2D (fun _ => ?_) (fun _ => iteF (hC _ _ ⟨_, S5, _, _, rfl, k02.trans k25, W5, Row.mono (W2.kt k25) plc2, hsg, hS5⟩))
    refine ⟨_, rfl, d, 2, rfl, W5.dr, by decide, by decide, fun r H6 r0 r1 k6 dr6 => ⟨rfl, _, rfl, ?_⟩⟩
    have W6 := W5.draw k6 dr6
    have k26 := k25.trans k6.wide
    have hS6 := W5.lst k6.wide (ni_s _ _) hS5
    refine ite2D (fun _ => ?_) (fun _ => hC _ _ ⟨_, S5, _, _, rfl, k02.trans k26, W6, Row.mono (W2.kt k26) plc2, hsg, hS6⟩)
    refine ⟨line9 (by show 2 ≤ 1000; decide), fun S7 n7 => ?_⟩
    have s7 := same_new (o := .lst [V.str "l", V.str "l"]) n7
    exact hC _ _ ⟨_, S7, _, _, rfl, k02.trans (k26.trans (.of s7)), W6.same s7, Row.mono (KT.of s7) (Row.mono (W2.kt k26) plc2), hsg, upd_same⟩
  · rintro σ Hk ⟨sg, S, a, b, rfl, kk, Wk, plk, hsg, hS⟩
    refine ⟨_, rfl, _, rfl, _, rfl, S, _, _, _, rfl, rfl, SqL.of hS, atI_nat (j := 0) rfl, _, rfl, _, rfl, _, _, rfl, rfl, ?_⟩
    refine ⟨d, wa, C, ns, hs, al, a, nv, nr, _, rfl, Wk, ok, W.near kk hnr, hin, by omega, h1n, hdp, fun t1 v1 H3 k3 W3 ht1 hg1 => ?_⟩
    have hS3 := Wk.lst k3 (ni_s _ _) hS
    refine ⟨_, rfl, _, rfl, _, rfl, _, rfl, _, rfl, _, rfl, S, _, _, _, rfl, rfl, SqL.of hS3, atI_nat (j := 1) rfl, _, rfl, _, rfl, _, _, rfl, rfl, ?_⟩
    refine ⟨d, wa, C, ns, hs, al, b, nv, nr, _, rfl, W3, ok, W.near (kk.trans k3) hnr, hin, by omega, h1n, hdp, fun t2 v2 H4 k4 W4 ht2 hg2 => ?_⟩
    refine ⟨line9 (by show 5 ≤ 1000; decide), fun u nu => ?_⟩
    have s5 := same_new (o := .tup [.str "op", yc, .str sg, v1, v2]) nu
    have k5 := k4.trans (.of s5)
    exact q (.mk (.op sg) pc qc [t1, t2]) (.ref u) _ ((kk.trans k3).trans k5) (W4.same s5) (TAt.mk (d := .op sg) (pv := yc) (vs := [v1, v2]) (Row.mono (Wk.kt (k3.trans k5)) plk) ⟨_, _, rfl, u, rfl, upd_same⟩ (TsAt.cons (ht1.mono (W3.kt k5)) (TsAt.cons (ht2.mono (KT.of s5)) TsAt.nil))) (Good.op2 ploc hsg hg1 hg2)
theorem near_names {H : Hp} : ∀ {vs : List V} {nr : List (Str × Str)} {i : Nat} {x : V}, Paired (fun u p => Row H u [.str p.1, .str p.2]) vs nr → vs[i]? = some x → ∃ p u, nr[i]? = some p ∧ x = .ref u ∧ H u = some (.tup [.str p.1, .str p.2]) := fun h e => by
  obtain ⟨p, hp, u, rfl, hu⟩ := Paired.get h e
  exact ⟨p, u, hp, rfl, hu⟩
theorem dn_law_call {n : Nat} (A : At K mg "_law_call" sLawCall ["draws", "way", "want", "near", "deep"]) (B : Bt mg) (DLawDraw : Dn P w K mg base "_law_draw" 1 ["draws", "many"] spLawDraw) (DLawPlace : Dn P w K mg base "_law_place" 1 ["way"] spLawPlace)
    (DLawLeaf : Dn P w K mg base "_law_leaf" 2 ["draws", "way", "want", "near"] spLawLeaf) (DLawTree : Dn P w K mg base "_law_tree" (2 * n + 3) ["draws", "way", "want", "near", "deep"] (spLawTree n)) : Dn P w K mg base "_law_call" (2 * n + 4) ["draws", "way", "want", "near", "deep"] (spLawOp n) := by
  refine A.dn fun f fd F => F.ok scLawCall (fun vs H Q E h => ?_) (fun cdv A outer s H vs Q E hr h => ?_)
  · obtain ⟨d, wa, C, ns, hs, al, want, nv, nr, dp, rfl, _⟩ := h
    rfl
  obtain ⟨d, wa, C, ns, hs, al, want, nv, nr, dp, rfl, W, ok, hnr, hin, hlen, h1n, hdp, q⟩ := h
  obtain ⟨na, vs, rfl, hna, hvs⟩ := id hnr
  have hvl := paired_len hvs
  refine ⟨_, (pss_cons (ps_set (i := 5) scLawCall.nd rfl (.inr rfl) (pe_lc (own := [("name", 9), ("kind", 10)]) (g := gTup K 2 (gCons (gName 9) (gCons (gName 10) gNil))) (tt := tYes) rfl scLawCall.nd (pi_list (pv 3)) (blkOk_by (N := nLawCall) (sc := defScope sLawCall) (by decide +kernel)) (fun _ _ _ _ _ => (pg_tup rfl (pgs_cons (pg_name (i := 9) scLawCall.nd rfl (.inl rfl)) (pgs_cons (pg_name (i := 10) scLawCall.nd rfl (.inl rfl)) pgs_nil)))) (fun _ _ _ _ _ => pts_nil) (fun _ _ _ _ _ => (pv 9))))
   (pss_cons (ps_setLc (i := 7) (own := [("head", 6)]) (g := gName 6) rfl scLawCall.nd rfl rfl (sw_true rfl rfl rfl (by decide +kernel)) (pi_list (pe_ix ix_list (pv 1) pe_int (fun _ _ => rfl))) (blkOk_by (N := nLawCall) (sc := defScope sLawCall) (by decide +kernel)) (fun _ _ _ _ _ => (pg_name (i := 6) scLawCall.nd rfl (.inl rfl))) (fun _ _ _ _ _ => (pts_one (PW.pt (pw_and (pt_cmpR op_eq (pe_ix (show IxR _ (rIxT K) from ix_tup) (pv 6) pe_int (fun _ _ => rfl)) (pv 2) (nomark _)) (pw_and1 (pt_cmpR (show OpR _ _ (rIn K true) from op_notIn_seq) (pe_ix (show IxR _ (rIxT K) from ix_tup) (pv 6) pe_int (fun _ _ => rfl)) (pv 5) (by rfl))))))) (fun _ _ _ _ _ => (pv 6)))
   (pss_cons (ps_if (pt_cmpR (op_eqD hr.units) (pv 7) (pe_lst pa_nil) (nomark _))
   (pss_one (ps_ret (pe_dn DLawLeaf hr (by omega) (by rfl) (pa_cons (pv 0) (pa_cons (pv 1) (pa_cons (pv 2) (pa_cons (pv 3) pa_nil)))))))
   pss_nil)
   (pss_cons (ps_set (i := 6) scLawCall.nd rfl (.inl rfl) (pe_ix ix_list (pv 7) (pe_dn DLawDraw hr (by omega) (by rfl) (pa_cons (pv 0) (pa_cons (pe_callB call_len_seq (by rfl) B.len PySem.boot_len (pa_cons (pv 7) pa_nil)) pa_nil))) (fun _ _ => rfl)))
   (pss_cons (ps_set (i := 8) scLawCall.nd rfl (.inl rfl) (pe_dn DLawPlace hr (by omega) (by rfl) (pa_cons (pv 1) pa_nil)))
   (pss_one (ps_ret (pe_tup (pa_cons pe_str (pa_cons (pv 8) (pa_cons (pe_ix ix_tup (pv 6) pe_int (fun _ _ => rfl)) (pa_cons (pe_callTy call_tuple_of (by rfl) B.tuple bi_tuple (pa_cons (pe_lc (own := [("kind", 10)]) (g := gName 10) (tt := tYes) rfl scLawCall.nd (pi_list (pe_ix ix_tup (pv 6) pe_int (fun _ _ => rfl))) (blkOk_by (N := nLawCall) (sc := defScope sLawCall) (by decide +kernel)) (fun _ _ _ _ _ => (pg_name (i := 10) scLawCall.nd rfl (.inl rfl))) (fun _ _ _ _ _ => pts_nil) (fun _ _ _ _ _ => (pe_dn DLawTree hr (by omega) (by rfl) (pa_cons (pv 0) (pa_cons (pv 1) (pa_cons (pv 10) (pa_cons (pv 3) (pa_cons (pe_op op_sub (pv 4) pe_int) pa_nil)))))))) pa_nil)) pa_nil)))))))))))), ?_⟩
  refine ⟨_, rfl, na, rfl, ⟨_, SqL.of hna⟩, fun D nD => lc_it (walk_list (xs := vs)) (fun i Hc => Same H Hc ∧ Hc D = some (.lst (((nr.take i).map Prod.fst).map V.str))) ⟨same_new nD, upd_same⟩ (fun i Hc _ p => SqL.of (p.1 _ _ hna)) (fun i x Hc Hd hi p y => ?_) fun Hc p => ?_⟩
  · obtain ⟨rfl, hx⟩ := y
    obtain ⟨s1, hD⟩ := p
    obtain ⟨z, u, hz, rfl, hu⟩ := near_names hvs hx
    refine ⟨u, _, rfl, SqT.of (s1 _ _ hu), rfl, _, _, rfl, _, _, rfl, rfl, rfl, _, rfl, _, hD, ?_, same_over (o := .lst []) nD s1, ?_⟩
    · rw [List.length_map, List.length_map, List.length_take]
      exact line9' (by omega)
    · rw [upd_same, List.take_add_one, hz, List.map_append, List.map_append]
      rfl
  obtain ⟨s1, hD⟩ := p
  rw [hvl, List.take_length] at hD
  have W1 := W.same s1
  have k01 : Kp d wa H Hc := .of s1
  obtain ⟨wx, wy, wz, hwy⟩ := W1.wy
  obtain ⟨hv, hha, hhs⟩ := W1.hd
  have hhl := paired_len hhs
  refine ⟨_, rfl, wa, _, _, _, rfl, rfl, SqL.of hwy, atI_nat (j := 4) rfl, C.ha, rfl, ⟨_, SqL.of hha⟩, fun D2 nD2 => ?_⟩
  refine lc_it (walk_list (xs := hv)) (fun i Hx => Same Hc Hx ∧ ∃ ss gs, Hx D2 = some (.lst ss) ∧ ss.length ≤ i ∧ Paired (HdAt Hc) ss gs ∧ ∀ g ∈ gs, g ∈ hs ∧ g.nm ∉ nr.map Prod.fst) ⟨same_new nD2, [], [], upd_same, Nat.zero_le _, .nil, fun g hg => nomatch hg⟩ (fun i Hx _ p => SqL.of (p.1 _ _ hha)) (fun i x Hx Hy hi p y => ?_) fun Hx p => ?_
  · obtain ⟨rfl, hx⟩ := y
    obtain ⟨s2, ss, gs, hD2, hsl, hss, hgs⟩ := p
    obtain ⟨g, hg, a, pa, rfl, hga, hgp⟩ := Paired.get hhs hx
    have hgm := List.mem_of_getElem? hg
    refine ⟨rfl, _, rfl, a, _, _, _, rfl, rfl, SqT.of (s2 _ _ hga), atI_nat (j := 2) rfl, _, rfl, rfl, _, rfl, ?_⟩
    refine ite2D (fun _ => ?_) (fun _ => iteF ⟨s2, ss, gs, hD2, Nat.le_succ_of_le hsl, hss, hgs⟩)
    refine ⟨_, rfl, a, _, _, _, rfl, rfl, SqT.of (s2 _ _ hga), atI_nat (j := 0) rfl, _, rfl, D, _, rfl, .inl (SqL.of (s2 _ _ hD)), rfl, flat_str _, _, rfl, ?_⟩
    by_cases hm : g.nm ∈ nr.map Prod.fst
    · exact iteBF (by show (!inV (.str g.nm) _) = false; rw [inV_str, decide_eq_true hm]; rfl) ⟨s2, ss, gs, hD2, Nat.le_succ_of_le hsl, hss, hgs⟩
    · refine iteBT (by show (!inV (.str g.nm) _) = true; rw [inV_str, decide_eq_false hm]; rfl) ⟨_, rfl, ss, hD2, line9' (by have := ok.len; omega), same_over (o := .lst []) nD2 s2, ss ++ [.ref a], gs ++ [g], upd_same, ?_, paired_app hss (.cons ⟨a, pa, rfl, hga, hgp⟩ .nil), ?_⟩
      · rw [List.length_append]
        show ss.length + 1 ≤ i + 1
        omega
      · intro g' hg'
        rcases List.mem_append.mp hg' with h | h
        · exact hgs g' h
        · rw [List.mem_singleton.mp h]
          exact ⟨hgm, hm⟩
  obtain ⟨s2, ss, gs, hD2, hsl, hss, hgs⟩ := p
  have W2 := W1.same s2
  have k02 := k01.trans (.of s2)
  have hss2 : HdsAt Hx ss gs := W1.hds (.of s2) hss
  have hsl2 : ss.length ≤ 100 := by have := ok.len; omega
  -- some == []
  refine ⟨_, rfl, line9 (by decide), fun p3 n3 => ?_⟩
  have s3 := same_new (o := .lst []) n3
  have W3 := W2.same s3
  have k03 := k02.trans (.of s3)
  have hss3 : HdsAt _ ss gs := W2.hds (.of s3) hss2
  have hD3 := s3 _ _ hD2
  obtain ⟨ds, hds, hdl, hsh⟩ := dp_hds (K := K) hss3 fun g hg => (ok.hd g (hgs g hg).1).2.1
  refine ⟨.list ds, .list [], .lst (SqL.of hD3) hds, .lst (SqL.of upd_same) .nil, shp_shaped (shp_list hsh) (by decide), shaped_nil, _, rfl, ?_⟩
  rw [eqv_nil]
  generalize upd Hx p3 (.lst []) = H3 at s3 W3 k03 hss3 hD3 hds
  by_cases hz : ds = []
  · subst hz
    refine iteBT rfl ?_
    exact ⟨_, rfl, _, rfl, _, rfl, _, rfl, d, wa, C, ns, hs, al, want, .ref na, nr, rfl, W3, ok, W.near k03 hnr, hin, by omega, fun t v H' k4 W4 ht hg => q t v H' (k03.trans k4) W4 ht ((hg _ fun _ h => h).mono (by omega))⟩
  have hne : ds.isEmpty = false := by
    cases ds with
    | nil => exact absurd rfl hz
    | cons a b => rfl
  have hgl : 0 < gs.length := by
    rw [← hdl]
    exact List.length_pos_iff.mpr hz
  have hsg := paired_len hss3
  refine iteBF hne ?_
  refine ⟨_, rfl, _, rfl, _, rfl, D2, _, rfl, .inl (SqL.of hD3), d, _, rfl, W3.dr, by omega, by omega, fun r H4 r0 r1 k4 dr4 => ?_⟩
  have W4 := W3.draw k4 dr4
  have k04 := k03.trans k4.wide
  have hD4 := W3.lst k4.wide hss3.ni hD3
  have hss4 : HdsAt H4 ss gs := W3.hds k4.wide hss3
  obtain ⟨j, v, rfl, hj⟩ := at_some r0 r1
  obtain ⟨g, hg, a, pa, rfl, hga, hgp⟩ := Paired.get hss4 hj
  obtain ⟨hgh, hgn⟩ := hgs g (List.mem_of_getElem? hg)
  obtain ⟨gn, gk, g4⟩ := ok.hd g hgh
  refine ⟨D2, _, _, _, rfl, rfl, SqL.of hD4, atI_nat hj, ?_⟩
  refine ⟨_, rfl, wa, C, rfl, W4.wy, fun yc pc qc H5 k5 wy5 plc ploc => ?_⟩
  have W5 := W4.place k5 wy5
  have k05 := k04.trans k5.wide2
  have hga5 := W4.kt k5.wide2 _ _ hga
  have hgp5 := W4.lst k5.wide2 (ni_str _) hgp
  refine ⟨_, rfl, _, rfl, a, _, _, _, rfl, rfl, SqT.of hga5, atI_nat (j := 0) rfl, _, rfl, a, _, _, _, rfl, rfl, SqT.of hga5, atI_nat (j := 1) rfl, pa, rfl, ⟨_, SqL.of hgp5⟩, fun D6 nD6 => ?_⟩
  have nd6 := W5.dr.fresh nD6
  have nw6 := W5.wy.fresh nD6
  refine lc_it (walk_list (xs := g.ks.map V.str)) (fun i Hz => Kp d wa H5 Hz ∧ DrAt Hz d ∧ WyAt Hz wa C ∧ ∃ us ts, Hz D6 = some (.lst us) ∧ us.length = i ∧ TsAt Hz ts us ∧ ∀ t ∈ ts, Good ns (Dh al) n (nr.map Prod.fst) t) ?_ (fun i Hz _ p => SqL.of (W5.lst p.1 (ni_str _) hgp5)) (fun i x Hz Hw hi p y => ?_) fun Hz p => ?_
  · exact ⟨.of (same_new nD6), W5.dr.new nD6, W5.wy.over nw6, [], [], upd_same, rfl, TsAt.nil, fun t ht => nomatch ht⟩
  · obtain ⟨rfl, hx⟩ := y
    obtain ⟨k6, dr6, wy6, us, ts, hD6, hul, hts, hgd⟩ := p
    rw [List.getElem?_map] at hx
    cases hk : g.ks[i]? with
    | none => rw [hk] at hx; cases hx
    | some kd =>
      rw [hk] at hx
      obtain rfl := Option.some.inj hx
      have W6 := W5.next k6 dr6 wy6
      refine ⟨rfl, _, rfl, _, rfl, _, rfl, _, rfl, _, rfl, _, _, rfl, rfl, d, wa, C, ns, hs, al, kd, .ref na, nr, _, rfl, W6, ok, W.near (k05.trans k6) hnr, hin, by omega, h1n, hdp, fun t v H7 k7 W7 ht hgt => ?_⟩
      have hD7 := W6.lst k7 hts.ni hD6
      refine ⟨us, hD7, line9' (by rw [hul]; rw [List.length_map] at hi; omega), Kp.over nD6 (k6.trans k7), W7.dr.over nd6, W7.wy.over nw6, _, ts ++ [t], upd_same, by rw [List.length_append, hul]; rfl, ?_, ?_⟩
      · exact TsAt.mono (kt_updL hD7) (TsAt.app (TsAt.mono (W6.kt k7) hts) (TsAt.cons ht TsAt.nil))
      · intro t' ht'
        rcases List.mem_append.mp ht' with h | h
        · exact hgd t' h
        · rw [List.mem_singleton.mp h]
          exact hgt
  obtain ⟨k6, dr6, wy6, us, ts, hD6, hul, hts, hgd⟩ := p
  have W6 := W5.next k6 dr6 wy6
  rw [List.length_map] at hul
  refine ⟨D6, us, rfl, .inl ⟨SqL.of hD6, fun gt ngt => ⟨line9 (by show 4 ≤ 1000; decide), fun u nu => ?_⟩⟩⟩
  have s7 : Same Hz (upd (upd Hz gt (.tup us)) u (.tup [.str "use", yc, .str g.nm, .ref gt])) := same_two ngt nu
  have htl := hts.len
  refine q (.mk (.use g.nm) pc qc ts) (.ref u) _ ((k05.trans k6).trans (.of s7)) (W6.same s7) (TAt.mk (d := .use g.nm) (pv := yc) (vs := us) (Row.mono (KT.of s7) (Row.mono (W5.kt k6) plc)) ⟨.ref gt, ⟨gt, rfl, same_new nu _ _ upd_same⟩, u, rfl, upd_same⟩ (TsAt.mono (KT.of s7) hts)) ?_
  exact Good.use ploc (ok.nm.ok _ gn) gn hgn ⟨g, ok.al g hgh, rfl, by omega⟩ (by omega) hgd
theorem nl_at (c : Bool) : ∃ z, atI [V.str "n", V.str "l"] (if c = true then (1 : Int) else 0) = some (V.str z) := by
  cases c
  · exact ⟨"n", rfl⟩
  · exact ⟨"l", rfl⟩
theorem nl_pick : ∀ (j : Nat) (v : V), [V.str "n", V.str "l"][j]? = some v → ∃ z, v = V.str z ∧ KindOk z
  | 0, v, h => ⟨"n", (Option.some.inj h).symm, .inl rfl⟩
  | 1, v, h => ⟨"l", (Option.some.inj h).symm, .inr rfl⟩
/-- the locals with new ones -/
theorem NrAt.snoc {H : Hp} {u l : Addr} {nv : V} {nr : List (Str × Str)} (h : NrAt H nv nr) : ∃ a vs, nv = .ref a ∧ H a = some (.lst vs) ∧ vs.length = nr.length ∧ Paired (fun u p => Row H u [.str p.1, .str p.2]) vs nr := by
  obtain ⟨a, vs, e, h1, h2⟩ := h
  exact ⟨a, vs, e, h1, paired_len h2, h2⟩
theorem dn_law_tree1 {n : Nat} (A : At K mg "_law_tree" sLawTree ["draws", "way", "want", "near", "deep"]) (B : Bt mg) (DLawDraw : Dn P w K mg base "_law_draw" 1 ["draws", "many"] spLawDraw) (DLawPlace : Dn P w K mg base "_law_place" 1 ["way"] spLawPlace)
    (DLawLeaf : Dn P w K mg base "_law_leaf" 2 ["draws", "way", "want", "near"] spLawLeaf) (DLawTree : Dn P w K mg base "_law_tree" (2 * n + 3) ["draws", "way", "want", "near", "deep"] (spLawTree n))
    (DLawOp : Dn P w K mg base "_law_op" (2 * n + 4) ["draws", "way", "want", "near", "deep"] (spLawOp n)) (DLawCall : Dn P w K mg base "_law_call" (2 * n + 4) ["draws", "way", "want", "near", "deep"] (spLawOp n)) :
    Dn P w K mg base "_law_tree" (2 * n + 5) ["draws", "way", "want", "near", "deep"] (spLawTree (n + 1)) := by
  refine A.dn fun f fd F => F.ok scLawTree (fun vs H Q E h => ?_) (fun cdv A outer s H vs Q E hr h => ?_)
  · obtain ⟨d, wa, C, ns, hs, al, want, nv, nr, dp, rfl, _⟩ := h
    rfl
  obtain ⟨d, wa, C, ns, hs, al, want, nv, nr, dp, rfl, W, ok, hnr, hin, hlen, _, hdp, q⟩ := h
  have leafQ : ∀ want' Hk, Kp d wa H Hk → Wd Hk d wa C ns hs → spLawLeaf [.ref d, .ref wa, .str want', nv] Hk Q E0 := fun want' Hk k Wk =>
    ⟨d, wa, C, ns, hs, al, want', nv, nr, rfl, Wk, ok, W.near k hnr, hin, by omega, fun t v H' k4 W4 ht hg => q t v H' (k.trans k4) W4 ht ((hg _ fun _ h => h).mono (by omega))⟩
  have opQ : ∀ want' Hk, 2 ≤ dp → Kp d wa H Hk → Wd Hk d wa C ns hs → spLawOp n [.ref d, .ref wa, .str want', nv, .int dp] Hk Q E0 := fun want' Hk h2 k Wk =>
    ⟨d, wa, C, ns, hs, al, want', nv, nr, dp, rfl, Wk, ok, W.near k hnr, hin, by omega, by omega, by omega, fun t v H' k4 W4 ht hg => q t v H' (k.trans k4) W4 ht hg⟩
  refine ⟨_, (pss_cons (ps_asg (pe_op op_sub (pe_ix ix_list (pv 1) pe_int (fun _ _ => rfl)) pe_int) (pg_sub (pv 1) pe_int set_list))
   (pss_cons (ps_if (PW.pt (pw_and (pt_cmpR op_gt (pe_ix ix_list (pv 1) pe_int (fun _ _ => rfl)) pe_int (nomark _)) (pw_and1 (pt_cmpR op_eq (pe_dn DLawDraw hr (by omega) (by rfl) (pa_cons (pv 0) (pa_cons (pe_ix ix_list (pv 1) pe_int (fun _ _ => rfl)) pa_nil))) pe_int (nomark _)))))
   (pss_one (ps_set (i := 2) scLawTree.nd rfl (.inl rfl) (pe_ix ix_list (pe_lst (pa_cons pe_str (pa_cons pe_str pa_nil))) (pe_callTy call_int1 (by rfl) B.int bi_int (pa_cons (pe_cmpR op_eq (pv 2) pe_str (nomark _)) pa_nil)) (fun _ _ => rfl))))
   pss_nil)
   (pss_cons (ps_set (i := 5) scLawTree.nd rfl (.inl rfl) (pe_dn DLawDraw hr (by omega) (by rfl) (pa_cons (pv 0) (pa_cons pe_int pa_nil))))
   (pss_cons (ps_if (PW.pt (pw_or (pt_cmpR op_lt (pv 4) pe_int (nomark _)) (pw_or (pt_cmpR op_lt (pe_ix ix_list (pv 1) pe_int (fun _ _ => rfl)) pe_int (nomark _)) (pw_or1 (pt_cmpR op_eq (pv 5) pe_int (nomark _))))))
   (pss_one (ps_ret (pe_dn DLawLeaf hr (by omega) (by rfl) (pa_cons (pv 0) (pa_cons (pv 1) (pa_cons (pv 2) (pa_cons (pv 3) pa_nil)))))))
   pss_nil)
   (pss_cons (ps_if (pt_cmpR op_lt (pv 5) pe_int (nomark _))
   (pss_one (ps_ret (pe_dn DLawOp hr (by omega) (by rfl) (pa_cons (pv 0) (pa_cons (pv 1) (pa_cons (pv 2) (pa_cons (pv 3) (pa_cons (pv 4) pa_nil))))))))
   pss_nil)
   (pss_cons (ps_if (pt_cmpR op_lt (pv 5) pe_int (nomark _))
   (pss_one (ps_ret (pe_dn DLawCall hr (by omega) (by rfl) (pa_cons (pv 0) (pa_cons (pv 1) (pa_cons (pv 2) (pa_cons (pv 3) (pa_cons (pv 4) pa_nil))))))))
   pss_nil)
   (pss_cons (ps_set (i := 6) scLawTree.nd rfl (.inl rfl) (pe_dn DLawPlace hr (by omega) (by rfl) (pa_cons (pv 1) pa_nil)))
   (pss_cons (ps_if (pt_cmpR op_eq (pv 5) pe_int (nomark _))
   (pss_cons (ps_set (i := 7) scLawTree.nd rfl (.inl rfl) (pe_dn DLawTree hr (by omega) (by rfl) (pa_cons (pv 0) (pa_cons (pv 1) (pa_cons pe_str (pa_cons (pv 3) (pa_cons (pe_op op_sub (pv 4) pe_int) pa_nil)))))))
   (pss_cons (ps_set (i := 8) scLawTree.nd rfl (.inl rfl) (pe_dn DLawTree hr (by omega) (by rfl) (pa_cons (pv 0) (pa_cons (pv 1) (pa_cons (pv 2) (pa_cons (pv 3) (pa_cons (pe_op op_sub (pv 4) pe_int) pa_nil)))))))
   (pss_one (ps_ret (pe_tup (pa_cons pe_str (pa_cons (pv 6) (pa_cons (pv 7) (pa_cons (pv 8) (pa_cons (pe_dn DLawTree hr (by omega) (by rfl) (pa_cons (pv 0) (pa_cons (pv 1) (pa_cons (pv 2) (pa_cons (pv 3) (pa_cons (pe_op op_sub (pv 4) pe_int) pa_nil)))))) pa_nil))))))))))
   pss_nil)
   (pss_cons (ps_set (i := 9) scLawTree.nd rfl (.inl rfl) (pe_dn DLawDraw hr (by omega) (by rfl) (pa_cons (pv 0) (pa_cons (pe_callB call_len_seq (by rfl) B.len PySem.boot_len (pa_cons (pe_ix ix_list (pv 1) pe_int (fun _ _ => rfl)) pa_nil)) pa_nil))))
   (pss_cons (ps_set (i := 10) scLawTree.nd rfl (.inl rfl) (pe_ix ix_list (pe_ix ix_list (pv 1) pe_int (fun _ _ => rfl)) (pv 9) (fun _ _ => rfl)))
   (pss_cons (ps_if (pt_cmpR op_eq (pv 5) pe_int (nomark _))
   (pss_cons (ps_set (i := 11) scLawTree.nd rfl (.inl rfl) (pe_ix ix_list (pe_lst (pa_cons pe_str (pa_cons pe_str pa_nil))) (pe_dn DLawDraw hr (by omega) (by rfl) (pa_cons (pv 0) (pa_cons pe_int pa_nil))) (fun _ _ => rfl)))
   (pss_cons (ps_set (i := 12) scLawTree.nd rfl (.inl rfl) (pe_dn DLawTree hr (by omega) (by rfl) (pa_cons (pv 0) (pa_cons (pv 1) (pa_cons (pv 11) (pa_cons (pv 3) (pa_cons (pe_op op_sub (pv 4) pe_int) pa_nil)))))))
   (pss_one (ps_ret (pe_tup (pa_cons pe_str (pa_cons (pv 6) (pa_cons (pv 10) (pa_cons (pv 12) (pa_cons (pe_dn DLawTree hr (by omega) (by rfl) (pa_cons (pv 0) (pa_cons (pv 1) (pa_cons (pv 2) (pa_cons (pe_op op_cat (pv 3) (pe_lst (pa_cons (pe_tup (pa_cons (pv 10) (pa_cons (pv 11) pa_nil))) pa_nil))) (pa_cons (pe_op op_sub (pv 4) pe_int) pa_nil)))))) pa_nil))))))))))
   pss_nil)
   (pss_cons (ps_set (i := 13) scLawTree.nd rfl (.inl rfl) (pe_ix ix_list (pe_ix ix_list (pv 1) pe_int (fun _ _ => rfl)) (pe_op op_mod (pe_op op_add (pe_op op_add (pv 9) pe_int) (pe_dn DLawDraw hr (by omega) (by rfl) (pa_cons (pv 0) (pa_cons (pe_op op_sub (pe_callB call_len_seq (by rfl) B.len PySem.boot_len (pa_cons (pe_ix ix_list (pv 1) pe_int (fun _ _ => rfl)) pa_nil)) pe_int) pa_nil)))) (pe_callB call_len_seq (by rfl) B.len PySem.boot_len (pa_cons (pe_ix ix_list (pv 1) pe_int (fun _ _ => rfl)) pa_nil))) (fun _ _ => rfl)))
   (pss_cons (ps_set (i := 14) scLawTree.nd rfl (.inl rfl) (pe_dn DLawTree hr (by omega) (by rfl) (pa_cons (pv 0) (pa_cons (pv 1) (pa_cons pe_str (pa_cons (pv 3) (pa_cons (pe_op op_sub (pv 4) pe_int) pa_nil)))))))
   (pss_cons (ps_set (i := 15) scLawTree.nd rfl (.inl rfl) (pe_dn DLawTree hr (by omega) (by rfl) (pa_cons (pv 0) (pa_cons (pv 1) (pa_cons (pv 2) (pa_cons (pv 3) (pa_cons (pe_op op_sub (pv 4) pe_int) pa_nil)))))))
   (pss_cons (ps_set (i := 16) scLawTree.nd rfl (.inl rfl) (pe_dn DLawTree hr (by omega) (by rfl) (pa_cons (pv 0) (pa_cons (pv 1) (pa_cons (pv 2) (pa_cons (pe_op op_cat (pv 3) (pe_lst (pa_cons (pe_tup (pa_cons (pv 10) (pa_cons pe_str pa_nil))) (pa_cons (pe_tup (pa_cons (pv 13) (pa_cons pe_str pa_nil))) pa_nil)))) (pa_cons (pe_op op_sub (pv 4) pe_int) pa_nil)))))))
   (pss_one (ps_ret (pe_tup (pa_cons pe_str (pa_cons (pv 6) (pa_cons (pv 14) (pa_cons (pv 15) (pa_cons (pv 10) (pa_cons (pv 13) (pa_cons (pv 16) pa_nil))))))))))))))))))))))))), ?_⟩
  obtain ⟨wx, wy, wz, hwy⟩ := W.wy
  refine ⟨_, rfl, wa, _, _, _, rfl, rfl, SqL.of hwy, atI_nat (j := 2) rfl, _, _, rfl, rfl, ?_⟩
  refine ⟨_, rfl, wa, _, 2, 2, rfl, rfl, hwy, rfl, ?_⟩
  have k1 : Kp wa wa H (upd H wa (.lst [.int wx, .int wy, .int (wz - 1), .ref C.na, .ref C.ha, .int C.e])) := Kp.upd1
  have W1 := W.place k1 ⟨_, _, _, upd_same⟩
  have k01 : Kp d wa H _ := k1.wide2
  have e1 : upd H wa (.lst ([V.int wx, V.int wy, V.int wz, V.ref C.na, V.ref C.ha, V.int C.e].set 2 (V.int (wz - 1)))) = upd H wa (.lst [.int wx, .int wy, .int (wz - 1), .ref C.na, .ref C.ha, .int C.e]) := rfl
  dsimp only
  rw [e1]
  generalize upd H wa (.lst [.int wx, .int wy, .int (wz - 1), .ref C.na, .ref C.ha, .int C.e]) = H1 at k1 W1 k01
  refine seq_join (fun σ Hk => (∃ want', σ = [some (.ref d), some (.ref wa), some (.str want'), some nv, some (.int dp), none, none, none, none, none, none, none, none, none, none, none, none]) ∧ Kp d wa H Hk ∧ Wd Hk d wa C ns hs) (fun Cc hC => ?_) ?_
  · obtain ⟨wx, wy, wz, hwy⟩ := W1.wy
    refine ⟨_, rfl, wa, _, _, _, rfl, rfl, SqL.of hwy, atI_nat (j := 5) rfl, _, _, rfl, rfl, _, rfl, ?_⟩
    refine ite2D (fun he => ?_) (fun _ => iteF (hC _ _ ⟨⟨_, rfl⟩, k01, W1⟩))
    have hce := W1.ce
    refine ⟨_, rfl, _, rfl, wa, _, _, _, rfl, rfl, SqL.of hwy, atI_nat (j := 5) rfl, d, C.e, rfl, W1.dr, by omega, by omega, fun r H2 r0 r1 k2 dr2 => ⟨rfl, _, rfl, ?_⟩⟩
    have W2 := W1.draw k2 dr2
    have k02 := k01.trans k2.wide
    refine ite2D (fun _ => ?_) (fun _ => hC _ _ ⟨⟨_, rfl⟩, k02, W2⟩)
    refine ⟨line9 (by show 2 ≤ 1000; decide), fun p3 n3 => ?_⟩
    have s3 := same_new (o := .lst [V.str "n", V.str "l"]) n3
    obtain ⟨z, hz⟩ := nl_at (decide (V.str want = V.str "n"))
    refine ⟨_, rfl, rfl, .inr ⟨_, rfl, p3, _, _, _, rfl, rfl, SqL.of upd_same, hz, ?_⟩⟩
    exact hC _ _ ⟨⟨_, rfl⟩, k02.trans (.of s3), W2.same s3⟩
  rintro σ H2 ⟨⟨want', rfl⟩, k02, W2⟩
  refine ⟨_, rfl, d, 10, rfl, W2.dr, by decide, by decide, fun form H3 r0 r1 k3 dr3 => ?_⟩
  have W3 := W2.draw k3 dr3
  have k03 := k02.trans k3.wide
  refine ⟨_, rfl, _, _, rfl, rfl, _, rfl, ?_⟩
  refine ite2D (fun _ => iteT ⟨_, rfl, _, rfl, _, rfl, _, rfl, leafQ _ _ k03 W3⟩) (fun h2 => ?_)
  obtain ⟨wx, wy, wz, hwy⟩ := W3.wy
  refine ⟨_, rfl, wa, _, _, _, rfl, rfl, SqL.of hwy, atI_nat (j := 2) rfl, _, _, rfl, rfl, _, rfl, ?_⟩
  refine ite2D (fun _ => iteT ⟨_, rfl, _, rfl, _, rfl, _, rfl, leafQ _ _ k03 W3⟩) (fun _ => ?_)
  refine ⟨_, rfl, rfl, _, rfl, ?_⟩
  refine ite2D (fun _ => ⟨_, rfl, _, rfl, _, rfl, _, rfl, leafQ _ _ k03 W3⟩) (fun _ => ?_)
  have h2' : 2 ≤ dp := by omega
  refine ⟨_, rfl, _, _, rfl, rfl, _, rfl, ?_⟩
  refine ite2D (fun _ => ⟨_, rfl, _, rfl, _, rfl, _, rfl, _, rfl, opQ _ _ h2' k03 W3⟩) (fun _ => ?_)
  refine ⟨_, rfl, _, _, rfl, rfl, _, rfl, ?_⟩
  refine ite2D (fun _ => ⟨_, rfl, _, rfl, _, rfl, _, rfl, _, rfl, opQ _ _ h2' k03 W3⟩) (fun _ => ?_)
  refine ⟨_, rfl, wa, C, rfl, W3.wy, fun yc pc qc H4 k4 wy4 plc ploc => ?_⟩
  have W4 := W3.place k4 wy4
  have k04 := k03.trans k4.wide2
  have hns : ∀ z ∈ ns, NameOk z := ok.nm.ok
  -- a tree within, of the same locals
  have treeQ : ∀ (want' : Str) (Hk : Hp) (Q' : VK), Kp d wa H Hk → Wd Hk d wa C ns hs → (∀ t v H', Kp d wa Hk H' → Wd H' d wa C ns hs → TAt H' t v → Good ns (Dh al) n (nr.map Prod.fst) t → Q' v H') → spLawTree n [.ref d, .ref wa, .str want', nv, .int (dp - 1)] Hk Q' E0 := fun want' Hk Q' k Wk c =>
    ⟨d, wa, C, ns, hs, al, want', nv, nr, dp - 1, rfl, Wk, ok, W.near k hnr, hin, by omega, by omega, by omega, c⟩
  refine ⟨_, rfl, rfl, _, rfl, ?_⟩
  refine ite2D (fun _ => ?_) (fun _ => ?_)
  · refine ⟨_, rfl, _, rfl, _, rfl, _, rfl, _, _, rfl, rfl, treeQ _ _ _ k04 W4 fun t1 v1 H5 k5 W5 ht1 hg1 => ?_⟩
    have k05 := k04.trans k5
    refine ⟨_, rfl, _, rfl, _, rfl, _, rfl, _, rfl, _, _, rfl, rfl, treeQ _ _ _ k05 W5 fun t2 v2 H6 k6 W6 ht2 hg2 => ?_⟩
    have k06 := k05.trans k6
    refine ⟨_, rfl, _, rfl, _, rfl, _, rfl, _, rfl, _, rfl, _, rfl, _, rfl, _, _, rfl, rfl, treeQ _ _ _ k06 W6 fun t3 v3 H7 k7 W7 ht3 hg3 => ⟨line9 (by show 5 ≤ 1000; decide), fun u nu => ?_⟩⟩
    have s8 := same_new (o := .tup [.str "if", yc, v1, v2, v3]) nu
    have k78 := k7.trans (.of s8)
    have k58 := k6.trans k78
    exact q (.mk .ite pc qc [t1, t2, t3]) (.ref u) _ (k05.trans k58) (W7.same s8) (TAt.mk (d := .ite) (pv := yc) (vs := [v1, v2, v3]) (Row.mono (W4.kt (k5.trans k58)) plc) ⟨_, _, _, rfl, u, rfl, upd_same⟩ (TsAt.cons (ht1.mono (W5.kt k58)) (TsAt.cons (ht2.mono (W6.kt k78)) (TsAt.cons (ht3.mono (KT.of s8)) TsAt.nil)))) (Good.ite3 ploc hg1 hg2 hg3)
  -- the names
  obtain ⟨na, vs, rfl, hna, hvs⟩ := id hnr
  have hvl := paired_len hvs
  have h8 : (ns.map V.str).length = 8 := by rw [List.length_map]; exact ok.nm.len
  obtain ⟨wx4, wy4', wz4, hwy4⟩ := W4.wy
  refine ⟨_, rfl, _, rfl, wa, _, _, _, rfl, rfl, SqL.of hwy4, atI_nat (j := 3) rfl, C.na, _, rfl, .inl (SqL.of W4.nm), d, _, rfl, W4.dr, by omega, by omega, fun r H5 r0' r1' k5 dr5 => ?_⟩
  have W5 := W4.draw k5 dr5
  have k05 := k04.trans k5.wide
  have plc5 := Row.mono (W4.kt k5.wide) plc
  rw [h8] at r1'
  obtain ⟨j, z, rfl, hj⟩ := at_some (xs := ns) r0' (by rw [ok.nm.len]; exact r1')
  have hzn := List.mem_of_getElem? hj
  have hj' : (ns.map V.str)[j]? = some (V.str z) := by rw [List.getElem?_map, hj]; rfl
  obtain ⟨wx5, wy5, wz5, hwy5⟩ := W5.wy
  refine ⟨_, rfl, wa, _, _, _, rfl, rfl, SqL.of hwy5, atI_nat (j := 3) rfl, _, rfl, C.na, _, _, _, rfl, rfl, SqL.of W5.nm, atI_nat hj', ?_⟩
  refine ⟨_, rfl, rfl, _, rfl, ?_⟩
  refine ite2D (fun _ => ?_) (fun _ => ?_)
  · -- let
    refine ⟨line9 (by show 2 ≤ 1000; decide), fun p6 n6 => ⟨_, rfl, d, 2, rfl, (W5.new n6).dr, by decide, by decide, fun r H6 r60 r61 k6 dr6 => ?_⟩⟩
    have s6 := same_new (o := .lst [V.str "n", V.str "l"]) n6
    have hp6 := k6 p6 _ upd_same (W5.dr.fresh n6) (W5.dr.fresh n6)
    have k56 : Kp d wa H5 H6 := (Kp.of s6).trans k6.wide
    have W6 := (W5.same s6).draw k6 dr6
    have k06 := k05.trans k56
    obtain ⟨j2, v2, rfl, hj2⟩ := at_some (xs := [V.str "n", V.str "l"]) r60 r61
    obtain ⟨kd, rfl, hkd⟩ := nl_pick j2 v2 hj2
    refine ⟨p6, _, _, _, rfl, rfl, SqL.of hp6, atI_nat hj2, ?_⟩
    refine ⟨_, rfl, _, rfl, _, rfl, _, rfl, _, rfl, _, _, rfl, rfl, treeQ _ _ _ k06 W6 fun t1 v1 H7 k7 W7 ht1 hg1 => ?_⟩
    have k07 := k06.trans k7
    have hna7 := W.lst k07 (paired_ni (fun _ _ z => z.ref) hvs) hna
    have hvs7 : Paired (fun u p => Row H7 u [.str p.1, .str p.2]) vs nr := Paired.mapP hvs fun _ _ z => z.mono (W.kt k07)
    refine ⟨_, rfl, _, rfl, _, rfl, _, rfl, _, rfl, _, rfl, _, rfl, _, rfl, _, rfl, line9 (by show 2 ≤ 1000; decide), fun t nt => ⟨line9 (by show 1 ≤ 1000; decide), fun l nl => ⟨na, l, vs, [.ref t], rfl, rfl, same_new nl _ _ (same_new nt _ _ hna7), upd_same, line9 (by show vs.length + 1 ≤ 1000; omega), fun m nm => ⟨_, rfl, _, _, rfl, rfl, ?_⟩⟩⟩⟩
    have s8 := ((same_new (o := .tup [.str z, .str kd]) nt).trans (same_new (o := .lst [.ref t]) nl)).trans (same_new (o := .lst (vs ++ [.ref t])) nm)
    have hnr8 : NrAt (upd (upd (upd H7 t (.tup [.str z, .str kd])) l (.lst [.ref t])) m (.lst (vs ++ [.ref t]))) (.ref m) (nr ++ [(z, kd)]) :=
      ⟨m, _, rfl, upd_same, paired_app (Paired.mapP hvs7 fun _ _ z => z.mono (KT.of s8)) (.cons ⟨t, rfl, same_new nm _ _ (same_new nl _ _ upd_same)⟩ .nil)⟩
    have W8 := W7.same s8
    generalize upd (upd (upd H7 t (.tup [.str z, .str kd])) l (.lst [.ref t])) m (.lst (vs ++ [.ref t])) = H8 at s8 hnr8 W8
    refine ⟨d, wa, C, ns, hs, al, want', .ref m, nr ++ [(z, kd)], dp - 1, rfl, W8, ok, hnr8, ?_, ?_, by omega, by omega, fun t2 v2 H9 k9 W9 ht2 hg2 => ⟨line9 (by show 5 ≤ 1000; decide), fun u nu => ?_⟩⟩
    · intro y hy
      rw [List.map_append, List.mem_append] at hy
      rcases hy with hy | hy
      · exact hin y hy
      · rw [List.mem_singleton.mp hy]; exact hzn
    · rw [List.length_append]
      show nr.length + 1 + 2 * n ≤ 90
      omega
    rw [List.map_append] at hg2
    have s10 := same_new (o := .tup [.str "let", yc, .str z, v1, v2]) nu
    have k910 : Kp d wa H8 _ := k9.trans (.of s10)
    have k710 : Kp d wa H7 _ := (Kp.of s8).trans k910
    exact q (.mk (.lt z) pc qc [t1, t2]) (.ref u) _ (k07.trans k710) (W9.same s10) (TAt.mk (d := .lt z) (pv := yc) (vs := [v1, v2]) (Row.mono (W5.kt (k56.trans (k7.trans k710))) plc5) ⟨_, _, rfl, u, rfl, upd_same⟩ (TsAt.cons (ht1.mono (W7.kt k710)) (TsAt.cons (ht2.mono (KT.of s10)) TsAt.nil))) (Good.lt2 ploc (hns _ hzn) hzn hg1 hg2)
  · -- case
    refine ⟨_, rfl, wa, _, _, _, rfl, rfl, SqL.of hwy5, atI_nat (j := 3) rfl, _, rfl, _, _, rfl, rfl, _, rfl, _, rfl, wa, _, _, _, rfl, rfl, SqL.of hwy5, atI_nat (j := 3) rfl, C.na, _, rfl, .inl (SqL.of W5.nm), _, _, rfl, rfl, d, _, rfl, W5.dr, by omega, by omega, fun r H6 r60 r61 k6 dr6 => ?_⟩
    have W6 := W5.draw k6 dr6
    have k06 := k05.trans k6.wide
    have plc6 := Row.mono (W5.kt k6.wide) plc5
    obtain ⟨wx6, wy6, wz6, hwy6⟩ := W6.wy
    obtain ⟨jr, rfl⟩ := Int.eq_ofNat_of_zero_le r60
    have hjr : jr < 7 := by omega
    have hj2lt : (j + 1 + jr) % 8 < ns.length := by rw [ok.nm.len]; exact Nat.mod_lt _ (by decide)
    have eix : ((j : Int) + 1 + (jr : Int)) % ((ns.map V.str).length : Int) = (((j + 1 + jr) % 8 : Nat) : Int) := by
      rw [h8]
      push_cast
      rfl
    have hj2 : ns[(j + 1 + jr) % 8]? = some ns[(j + 1 + jr) % 8] := List.getElem?_eq_getElem hj2lt
    generalize ns[(j + 1 + jr) % 8] = z2 at hj2
    have hz2n := List.mem_of_getElem? hj2
    have hj8 : j < 8 := by omega
    have hzz : z ≠ z2 := fun e => nodup_ne ok.nm.nd hj (by rw [hj2, e]) (by omega)
    have hj2' : (ns.map V.str)[(j + 1 + jr) % 8]? = some (V.str z2) := by rw [List.getElem?_map, hj2]; rfl
    refine ⟨_, _, rfl, rfl, _, rfl, wa, _, _, _, rfl, rfl, SqL.of hwy6, atI_nat (j := 3) rfl, C.na, _, rfl, .inl (SqL.of W6.nm), _, _, rfl, rfl, (by show (0 : Int) < ((ns.map V.str).length : Int); rw [h8]; decide), C.na, _, _, _, rfl, rfl, SqL.of W6.nm, (by rw [eix]; exact atI_nat hj2'), ?_⟩
    refine ⟨_, rfl, _, rfl, _, rfl, _, rfl, _, _, rfl, rfl, treeQ _ _ _ k06 W6 fun t1 v1 H7 k7 W7 ht1 hg1 => ?_⟩
    have k07 := k06.trans k7
    refine ⟨_, rfl, _, rfl, _, rfl, _, rfl, _, rfl, _, _, rfl, rfl, treeQ _ _ _ k07 W7 fun t2 v2 H8 k8 W8 ht2 hg2 => ?_⟩
    have k08 := k07.trans k8
    have hna8 := W.lst k08 (paired_ni (fun _ _ z => z.ref) hvs) hna
    have hvs8 : Paired (fun u p => Row H8 u [.str p.1, .str p.2]) vs nr := Paired.mapP hvs fun _ _ z => z.mono (W.kt k08)
    refine ⟨_, rfl, _, rfl, _, rfl, _, rfl, _, rfl, line9 (by show 2 ≤ 1000; decide), fun ta nta => ⟨_, rfl, line9 (by show 2 ≤ 1000; decide), fun tb ntb => ⟨line9 (by show 2 ≤ 1000; decide), fun l nl => ⟨na, l, vs, [.ref ta, .ref tb], rfl, rfl, same_new nl _ _ (same_new ntb _ _ (same_new nta _ _ hna8)), upd_same, line9 (by show vs.length + 2 ≤ 1000; omega), fun m nm => ⟨_, rfl, _, _, rfl, rfl, ?_⟩⟩⟩⟩⟩
    have s9 := (((same_new (o := .tup [.str z, .str "n"]) nta).trans (same_new (o := .tup [.str z2, .str "l"]) ntb)).trans (same_new (o := .lst [.ref ta, .ref tb]) nl)).trans (same_new (o := .lst (vs ++ [.ref ta, .ref tb])) nm)
    have hnr9 : NrAt (upd (upd (upd (upd H8 ta (.tup [.str z, .str "n"])) tb (.tup [.str z2, .str "l"])) l (.lst [.ref ta, .ref tb])) m (.lst (vs ++ [.ref ta, .ref tb]))) (.ref m) (nr ++ [(z, ("n" : Str)), (z2, ("l" : Str))]) :=
      ⟨m, _, rfl, upd_same, paired_app (Paired.mapP hvs8 fun _ _ z => z.mono (KT.of s9)) (.cons ⟨ta, rfl, same_new nm _ _ (same_new nl _ _ (same_new ntb _ _ upd_same))⟩ (.cons ⟨tb, rfl, same_new nm _ _ (same_new nl _ _ upd_same)⟩ .nil))⟩
    have W9 := W8.same s9
    generalize upd (upd (upd (upd H8 ta (.tup [.str z, .str "n"])) tb (.tup [.str z2, .str "l"])) l (.lst [.ref ta, .ref tb])) m (.lst (vs ++ [.ref ta, .ref tb])) = H9 at s9 hnr9 W9
    refine ⟨d, wa, C, ns, hs, al, want', .ref m, nr ++ [(z, ("n" : Str)), (z2, ("l" : Str))], dp - 1, rfl, W9, ok, hnr9, ?_, ?_, by omega, by omega, fun t3 v3 H10 k10 W10 ht3 hg3 => ?_⟩
    · intro y hy
      rw [List.map_append, List.mem_append] at hy
      rcases hy with hy | hy
      · exact hin y hy
      · rcases List.mem_cons.mp hy with e | hy
        · rw [e]; exact hzn
        · rw [List.mem_singleton.mp hy]; exact hz2n
    · rw [List.length_append]
      show nr.length + 2 + 2 * n ≤ 90
      omega
    rw [List.map_append] at hg3
    refine ⟨_, rfl, _, rfl, _, rfl, _, rfl, _, rfl, _, rfl, line9 (by show 7 ≤ 1000; decide), fun u nu => ?_⟩
    have s11 := same_new (o := .tup [.str "case", yc, v1, v2, .str z, .str z2, v3]) nu
    have k1011 : Kp d wa H10 _ := .of s11
    have k911 : Kp d wa H9 _ := k10.trans k1011
    have k811 : Kp d wa H8 _ := (Kp.of s9).trans k911
    have k711 : Kp d wa H7 _ := k8.trans k811
    exact q (.mk (.cs z z2) pc qc [t1, t2, t3]) (.ref u) _ (k07.trans k711) (W10.same s11) (TAt.mk (d := .cs z z2) (pv := yc) (vs := [v1, v2, v3]) (Row.mono (W6.kt (k7.trans k711)) plc6) ⟨_, _, _, rfl, u, rfl, upd_same⟩ (TsAt.cons (ht1.mono (W7.kt k711)) (TsAt.cons (ht2.mono (W8.kt k811)) (TsAt.cons (ht3.mono (KT.of s11)) TsAt.nil)))) (Good.cs3 ploc (hns _ hzn) (hns _ hz2n) hzn hz2n hzz hg1 hg2 hg3)
theorem dn_law_tree (AT : At K mg "_law_tree" sLawTree ["draws", "way", "want", "near", "deep"]) (AO : At K mg "_law_op" sLawOp ["draws", "way", "want", "near", "deep"]) (AC : At K mg "_law_call" sLawCall ["draws", "way", "want", "near", "deep"]) (B : Bt mg)
    (DLawDraw : Dn P w K mg base "_law_draw" 1 ["draws", "many"] spLawDraw) (DLawPlace : Dn P w K mg base "_law_place" 1 ["way"] spLawPlace) (DLawLeaf : Dn P w K mg base "_law_leaf" 2 ["draws", "way", "want", "near"] spLawLeaf) :
    ∀ n, Dn P w K mg base "_law_tree" (2 * n + 3) ["draws", "way", "want", "near", "deep"] (spLawTree n)
  | 0 => AT.none fun vs H Q E h => by
    obtain ⟨d, wa, C, ns, hs, al, want, nv, nr, dp, _, _, _, _, _, _, h, _⟩ := h
    exact absurd h (by decide)
  | n + 1 => by
    have ih := dn_law_tree AT AO AC B DLawDraw DLawPlace DLawLeaf n
    exact dn_law_tree1 AT B DLawDraw DLawPlace DLawLeaf ih (dn_law_op AO B DLawDraw DLawPlace ih) (dn_law_call AC B DLawDraw DLawPlace DLawLeaf ih)
end
end Tp
set_option Elab.async false
set_option linter.all false
set_option maxRecDepth 100000
set_option maxHeartbeats 2000000
/-! list(zip(xs, ys)) of two lists. -/
namespace Tp
open PySem PySem.Spec PyProof.Rows L2 PySem.W
theorem zip_no_len : typeLookup (.type "zip") "__len__" = pure none := am_miss_of_fast (by decide +kernel)
theorem zip_no_hint : typeLookup (.type "zip") "__length_hint__" = pure none := am_miss_of_fast (by decide +kernel)
/-- the zip at z, its i-th turn; the tuple it gave last is still out -/
def ZlSt (h : Heap) (z TI TO i1 i2 l1 l2 S : Addr) (i : Nat) : Prop :=
  IsPair h TI (.ref i1) (.ref i2) ∧ h.IsListIter i1 l1 i ∧ h.IsListIter i2 l2 i ∧
    ((∃ a b, IsZip h z TI TO .none ∧ IsPair h TO a b) ∨ ∃ T f oT, IsZipHeld h z TI TO T f ∧ h.get? T = some oT ∧ T ≠ z ∧ T ≠ i1 ∧ T ≠ i2 ∧ T ≠ S)
section
variable {prog : Program} {w : World} {K : Type} [DecidableEq K] {knd : KeyKind prog w K} {A : Around} {E : Value → Shared → Prop} {s : Shared} {z TI TO i1 i2 l1 l2 S : Addr} {i : Nat} {xs ys : Array Value}
theorem ZlSt.keep {h h' : Heap} (x : ZlSt h z TI TO i1 i2 l1 l2 S i) (hk : ∀ b o, b ≠ S → h.get? b = some o → h'.get? b = some o) (n1 : TI ≠ S) (n2 : TO ≠ S) (n3 : i1 ≠ S) (n4 : i2 ≠ S) (n5 : z ≠ S) : ZlSt h' z TI TO i1 i2 l1 l2 S i := by
  obtain ⟨a1, a2, a3, a4⟩ := x
  refine ⟨hk _ _ n1 a1, a2.at fun o e => hk _ _ n3 e, a3.at fun o e => hk _ _ n4 e, ?_⟩
  rcases a4 with ⟨a, b, h1, h2⟩ | ⟨T, f, oT, h1, h2, h3, h4, h5, h6⟩
  · exact .inl ⟨a, b, hk _ _ n5 h1, hk _ _ n2 h2⟩
  · exact .inr ⟨T, f, oT, hk _ _ n5 h1, hk _ _ h6 h2, h3, h4, h5, h6⟩
theorem zl_item (D : ZipApart z TI TO i1 i2 l1 l2) (st : ZlSt s.heap z TI TO i1 i2 l1 l2 S i) (hS : S < s.heap.objs.size) (hl1 : s.heap.IsList l1 xs) (hl2 : s.heap.IsList l2 ys) {x y : Value} (hx : xs[i]? = some x) (hy : ys[i]? = some y) {Q : Option Value → Shared → Prop}
    (hQ : ∀ h', ZlSt h' z TI TO i1 i2 l1 l2 S (i + 1) → h'.get? s.heap.objs.size = some { cls := .type "tuple", data := .seq #[x, y] } → h'.objs.size = s.heap.objs.size + 1 →
      (∀ b o, b ≠ z → b ≠ TO → b ≠ i1 → b ≠ i2 → s.heap.get? b = some o → h'.get? b = some o) → Q (some (.ref s.heap.objs.size)) { s with heap := h' }) :
    wpAny (model prog w) A (pyNext (.ref z)) Q E s := by
  obtain ⟨a1, a2, a3, a4⟩ := st
  have li1 : i1 < s.heap.objs.size := by obtain ⟨_, q, _⟩ := a2; exact Heap.lt_size q
  have li2 : i2 < s.heap.objs.size := by obtain ⟨_, q, _⟩ := a3; exact Heap.lt_size q
  rcases a4 with ⟨a, b, h1, h2⟩ | ⟨T, f, oT, h1, h2, h3, h4, h5, h6⟩
  · refine wpAny_pyNext_zip_item D h1 a1 h2 a2 a3 hl1 hl2 hx hy fun h' hz' hTO' h1' h2' hT' hsz hk => ?_
    refine hQ h' ⟨hk TI _ D.TIz D.TITO D.TIi1 D.TIi2 a1, h1', h2', .inr ⟨s.heap.objs.size, false, _, hz', hT', Nat.ne_of_gt (Heap.lt_size h1), Nat.ne_of_gt li1, Nat.ne_of_gt li2, Nat.ne_of_gt hS⟩⟩ hT' hsz hk
  · refine wpAny_pyNext_zip_item_held D h1 h2 a1 a2 a3 hl1 hl2 hx hy fun h' hz' h1' h2' hT' hsz hk => ?_
    exact hQ h' ⟨hk TI _ D.TIz D.TIi1 D.TIi2 a1, h1', h2', .inr ⟨T, true, oT, hz', hk T _ h3 h4 h5 h2, h3, h4, h5, h6⟩⟩ hT' hsz fun b o b1 _ b3 b4 e => hk b o b1 b3 b4 e
theorem zl_done (hh : A.handled = none) (D : ZipApart z TI TO i1 i2 l1 l2) (st : ZlSt s.heap z TI TO i1 i2 l1 l2 S i) (hl1 : s.heap.IsList l1 xs) (hl2 : s.heap.IsList l2 ys) (hx : xs[i]? = none) {Q : Option Value → Shared → Prop}
    (hQ : ∀ h', (∀ b o, b ≠ z → b ≠ TO → b ≠ i1 → b ≠ i2 → s.heap.get? b = some o → h'.get? b = some o) → Q none { s with heap := h' }) : wpAny (model prog w) A (pyNext (.ref z)) Q E s := by
  obtain ⟨a1, a2, a3, a4⟩ := st
  rcases a4 with ⟨a, b, h1, h2⟩ | ⟨T, f, oT, h1, h2, h3, h4, h5, h6⟩
  · exact wpAny_pyNext_zip_end hh D h1 a1 h2 a2 a3 hl1 hl2 (.inl hx) hQ
  · exact wpAny_pyNext_zip_end_held hh D h1 h2 a1 a2 a3 hl1 hl2 (.inl hx) fun h' hk => hQ h' fun b o b1 _ b3 b4 e => hk b o b1 b3 b4 e
variable {R : Result → Shared → Prop} {kvs : List (K × Value)}
/-- what is fixed: where things lie -/
structure ZlFix (z TI TO i1 i2 l1 l2 S N : Addr) : Prop where
  ap : ZipApart z TI TO i1 i2 l1 l2
  lz : z < N
  lO : TO < N
  l1' : i1 < N
  l2' : i2 < N
  lI : TI < N
  lS : S < N
  a1 : l1 ≠ S
  a2 : l2 ≠ S
  nz : z ≠ S
  nO : TO ≠ S
  nI : TI ≠ S
  n1 : i1 ≠ S
  n2 : i2 ≠ S
theorem zl_loop {N : Addr} (F : ZlFix z TI TO i1 i2 l1 l2 S N) (hh : A.handled = none) (hn : kvs.length ≤ sizeLine) (hx : xs.size = kvs.length) (hkv : ∀ (i : Nat) k v, kvs[i]? = some (k, v) → ∃ key, xs[i]? = some key ∧ knd.is k key = true ∧ ys[i]? = some v) (res : Value) {h₁ : Heap}
    (hl1 : h₁.IsList l1 xs) (hl2 : h₁.IsList l2 ys)
    (hR : ∀ (h' : Heap) (tk : Nat) (acc : Array Value) (c : Nat) (as : List Addr), (∀ b o, b ≠ S → b ≠ z → b ≠ TO → b ≠ i1 → b ≠ i2 → h₁.get? b = some o → h'.get? b = some o) → h'.get? S = some { cls := .type "list", dict := none, data := .seq acc c, slots := #[] } → as.length = kvs.length → (∀ a ∈ as, N ≤ a) → as.Pairwise (· < ·) →
      (∀ (j : Nat) (a : Addr), as[j]? = some a → ∃ key k x, kvs[j]? = some (k, x) ∧ knd.is k key = true ∧ h'.get? a = some { cls := .type "tuple", data := .seq #[key, x] }) → acc.toList = as.map Value.ref → R (.ok (.ret res)) { s with heap := h', toks := tk }) :
    ∀ (k i : Nat) (h : Heap) (tk c : Nat) (acc : Array Value) (as : List Addr), kvs.length - i = k → i ≤ kvs.length → ZlSt h z TI TO i1 i2 l1 l2 S i → (∀ b o, b ≠ S → b ≠ z → b ≠ TO → b ≠ i1 → b ≠ i2 → h₁.get? b = some o → h.get? b = some o) →
      h.get? S = some { cls := .type "list", dict := none, data := .seq acc c, slots := #[] } → acc.toList = as.map Value.ref → as.length = i → N ≤ h.objs.size → (∀ a ∈ as, N ≤ a) → as.Pairwise (· < ·) →
      (∀ (j : Nat) (a : Addr), as[j]? = some a → ∃ key k x, kvs[j]? = some (k, x) ∧ knd.is k key = true ∧ h.get? a = some { cls := .type "tuple", data := .seq #[key, x] }) →
      codeAny (model prog w) A (.builtin "list.extend.loop" ⟨[.ref S, .ref z, res], []⟩) R { s with heap := h, toks := tk } := by
  intro k
  have D := F.ap
  induction k with
  | zero =>
    intro i h tk c acc as hk hi hst hkeep hS hacc hal hN hab hrise hG
    refine codeAny_builtin PySem.F.entry_extend_loop ?_
    rw [Around.under_plainId PySem.F.plain_extend_loop _]
    show wpAny _ A.in1 (pyNext (.ref z) >>= _) _ _ _
    have hl1' : h.IsList l1 xs := hl1.at fun o e => hkeep l1 o F.a1 D.l1z D.l1TO D.l1i1 D.l1i2 e
    have hl2' : h.IsList l2 ys := hl2.at fun o e => hkeep l2 o F.a2 D.l2z D.l2TO D.l2i1 D.l2i2 e
    refine wpAny_bind (zl_done (s := { s with heap := h, toks := tk }) (A := A.in1) hh D hst hl1' hl2' (by rw [Array.getElem?_eq_none]; omega) fun h' he => ?_)
    refine wpAny_pure (hR h' tk acc c as (fun b o n1 n2 n3 n4 n5 e => he b o n2 n3 n4 n5 (hkeep b o n1 n2 n3 n4 n5 e)) (he S _ F.nz.symm F.nO.symm F.n1.symm F.n2.symm hS) (by omega) hab hrise (fun j a hj => ?_) hacc)
    obtain ⟨key, kk, x, e1, e2, e3⟩ := hG j a hj
    have ha := hab a (List.mem_of_getElem? hj)
    exact ⟨key, kk, x, e1, e2, he a _ (Nat.ne_of_gt (Nat.lt_of_lt_of_le F.lz ha)) (Nat.ne_of_gt (Nat.lt_of_lt_of_le F.lO ha)) (Nat.ne_of_gt (Nat.lt_of_lt_of_le F.l1' ha)) (Nat.ne_of_gt (Nat.lt_of_lt_of_le F.l2' ha)) e3⟩
  | succ k ih =>
    intro i h tk c acc as hk hi hst hkeep hS hacc hal hN hab hrise hG
    have hlt : i < kvs.length := by omega
    obtain ⟨⟨kk, x⟩, hxi⟩ : ∃ p, kvs[i]? = some p := ⟨kvs[i], List.getElem?_eq_getElem hlt⟩
    obtain ⟨key, hkx, hkey, hky⟩ := hkv i kk x hxi
    have hsz : acc.size = i := by rw [← Array.length_toList, hacc, List.length_map, hal]
    have hl1' : h.IsList l1 xs := hl1.at fun o e => hkeep l1 o F.a1 D.l1z D.l1TO D.l1i1 D.l1i2 e
    have hl2' : h.IsList l2 ys := hl2.at fun o e => hkeep l2 o F.a2 D.l2z D.l2TO D.l2i1 D.l2i2 e
    have hSl : S < h.objs.size := Heap.lt_size hS
    refine codeAny_builtin PySem.F.entry_extend_loop ?_
    rw [Around.under_plainId PySem.F.plain_extend_loop _]
    show wpAny _ A.in1 (pyNext (.ref z) >>= _) _ _ _
    refine wpAny_bind (zl_item (s := { s with heap := h, toks := tk }) (S := S) D hst hSl hl1' hl2' hkx hky fun h' hst' ht hz hkp => ?_)
    dsimp only at ht hz hkp ⊢
    have hS' := hkp S _ F.nz.symm F.nO.symm F.n1.symm F.n2.symm hS
    have up : ∀ b o, b ≠ S → h'.get? b = some o → (h'.update S (Obj.mapSeq (·.push (Value.ref h.objs.size)))).get? b = some o := fun b o hb e => (Heap.get?_update_other _ _ (Ne.symm hb)).trans e
    show wpAny _ A.in1 (updateSeq S (·.push (Value.ref h.objs.size)) >>= _) _ _ _
    refine wpAny_bind ?_
    refine wpAny_updateSeq hS' rfl (wpAny_pure ⟨plainId_quiet PySem.F.plain_extend_loop _, ih (i + 1) _ tk _ (acc.push (Value.ref h.objs.size)) (as ++ [h.objs.size]) (by omega) hlt (hst'.keep up F.nI F.nO F.n1 F.n2 F.nz)
      (fun b o n1 n2 n3 n4 n5 e => up b o n1 (hkp b o n2 n3 n4 n5 (hkeep b o n1 n2 n3 n4 n5 e))) (Heap.get?_update_self _ hS' rfl) (by rw [Array.toList_push, hacc, List.map_append]; rfl) (by rw [List.length_append, hal]; rfl) ?_ ?_ ?_ ?_⟩) (by rw [hsz]; omega) (by show (acc.push (Value.ref h.objs.size)).size ≤ sizeLine + 1; rw [Array.size_push, hsz]; omega)
    · rw [Heap.size_update, hz]
      exact Nat.le_succ_of_le hN
    · intro a ha
      rcases List.mem_append.mp ha with ha | ha
      · exact hab a ha
      · rw [List.mem_singleton.mp ha]; exact hN
    · refine List.pairwise_append.mpr ⟨hrise, List.pairwise_singleton _ _, fun a ha b hb => ?_⟩
      rw [List.mem_singleton.mp hb]
      obtain ⟨j, hj⟩ := List.getElem?_of_mem ha
      obtain ⟨_, _, _, _, _, e⟩ := hG j a hj
      exact Heap.lt_size e
    · intro j b hj
      rcases Nat.lt_trichotomy j as.length with h1 | h1 | h1
      · rw [List.getElem?_append_left h1] at hj
        obtain ⟨key', k', x', e1, e2, e3⟩ := hG j b hj
        have hb := hab b (List.mem_of_getElem? hj)
        exact ⟨key', k', x', e1, e2, up b _ (Nat.ne_of_gt (Nat.lt_of_lt_of_le F.lS hb)) (hkp b _ (Nat.ne_of_gt (Nat.lt_of_lt_of_le F.lz hb)) (Nat.ne_of_gt (Nat.lt_of_lt_of_le F.lO hb)) (Nat.ne_of_gt (Nat.lt_of_lt_of_le F.l1' hb)) (Nat.ne_of_gt (Nat.lt_of_lt_of_le F.l2' hb)) e3)⟩
      · subst h1
        have hb : h.objs.size = b := by simpa using hj
        subst hb
        exact ⟨key, kk, x, by rw [hal]; exact hxi, hkey, up _ _ (Nat.ne_of_gt hSl) ht⟩
      · have hnone : (as ++ [h.objs.size])[j]? = none := List.getElem?_eq_none (by rw [List.length_append, List.length_singleton]; omega)
        rw [hnone] at hj; cases hj
theorem zl_hint (hT : s.TypeIs (.ref z) "zip") {Q : Bool → Shared → Prop} (h : Q true s) : wpAny (model prog w) A (Builtin.List.listLengthHint (.ref z)) Q E s := by
  unfold Builtin.List.listLengthHint
  refine wpAny_bind (wpAny_specialOf hT zip_no_len ?_)
  dsimp only
  refine wpAny_ite_split (fun hab => absurd hab (by decide)) (fun _ => ?_)
  refine wpAny_ite_split (fun hab => absurd hab (by decide)) (fun _ => ?_)
  refine wpAny_bind (wpAny_specialOf hT zip_no_hint ?_)
  exact wpAny_pure h
theorem zl_extend {N : Addr} (F : ZlFix z TI TO i1 i2 l1 l2 S N) (hN : N ≤ s.heap.objs.size) (hh : A.handled = none) (hn : kvs.length ≤ sizeLine) (hx : xs.size = kvs.length) (hkv : ∀ (i : Nat) k v, kvs[i]? = some (k, v) → ∃ key, xs[i]? = some key ∧ knd.is k key = true ∧ ys[i]? = some v)
    (hl1 : s.heap.IsList l1 xs) (hl2 : s.heap.IsList l2 ys) (hz : IsZip s.heap z TI TO .none) (st : ZlSt s.heap z TI TO i1 i2 l1 l2 S 0) (res : Value) (c₀ : Nat) (hS : s.heap.get? S = some { cls := .type "list", data := .seq #[] c₀ })
    (hR : ∀ (h' : Heap) (tk : Nat) (acc : Array Value) (c : Nat) (as : List Addr), (∀ b o, b ≠ S → b ≠ z → b ≠ TO → b ≠ i1 → b ≠ i2 → s.heap.get? b = some o → h'.get? b = some o) → h'.get? S = some { cls := .type "list", dict := none, data := .seq acc c, slots := #[] } → as.length = kvs.length → (∀ a ∈ as, N ≤ a) → as.Pairwise (· < ·) →
      (∀ (j : Nat) (a : Addr), as[j]? = some a → ∃ key k x, kvs[j]? = some (k, x) ∧ knd.is k key = true ∧ h'.get? a = some { cls := .type "tuple", data := .seq #[key, x] }) → acc.toList = as.map Value.ref → R (.ok (.ret res)) { s with heap := h', toks := tk }) :
    wpAny (model prog w) A.in1 (Builtin.List.listExtendWith (.ref S) (.ref z) res)
      (fun fin s' => match fin with | .done f => R (.ok f) s' | .again c' => c'.quiet = true ∧ codeAny (model prog w) A c' R s') (fun e s' => R (.error e) s') s := by
  have key : ∀ (h : Heap) (c₁ tk : Nat), (∀ b o, b ≠ S → s.heap.get? b = some o → h.get? b = some o) → s.heap.objs.size ≤ h.objs.size →
      h.get? S = some { cls := .type "list", data := .seq #[] c₁ } → codeAny (model prog w) A (.builtin "list.extend.loop" ⟨[.ref S, .ref z, res], []⟩) R { s with heap := h, toks := tk } := by
    intro h c₁ tk hk hsz hS₁
    exact zl_loop (knd := knd) (s := s) F hh hn hx hkv res hl1 hl2 hR kvs.length 0 h tk c₁ #[] [] (Nat.sub_zero _) (Nat.zero_le _) (st.keep hk F.nI F.nO F.n1 F.n2 F.nz) (fun b o n1 _ _ _ _ e => hk b o n1 e) hS₁ rfl rfl (Nat.le_trans hN hsz) (fun _ ha => nomatch ha) List.Pairwise.nil (fun j a hj => by simp at hj)
  have hT : s.TypeIs (.ref z) "zip" := ⟨_, hz, rfl⟩
  unfold Builtin.List.listExtendWith
  refine wpAny_bind (wpAny_typeOf (T := "zip") hT ?_)
  have h1 : Builtin.List.listSameRef (.ref S) (.ref z) = false := by simp [Builtin.List.listSameRef, F.nz.symm]
  have h2 : (Value.type "zip" == Value.type "list") = false := by decide
  have h3 : (Value.type "zip" == Value.type "tuple") = false := by decide
  simp only [h1, h2, h3, Bool.or_false, Bool.false_eq_true, if_false]
  refine wpAny_bind (wpAny_pyIter_zip hz ?_)
  refine wpAny_bind (wpAny_holding (zl_hint hT ?_))
  refine wpAny_ite_split (fun _ => ?_) (fun _ => wpAny_pure ⟨plainId_quiet PySem.F.plain_extend_loop _, key _ c₀ _ (fun b o _ e => e) (Nat.le_refl _) hS⟩)
  refine wpAny_bind (wpAny_rule ?_)
  refine wpAny_bind ?_
  show wpAny _ _ (updateSeq S (·.push .none) >>= fun _ => updateSeq S (·.pop)) _ _ _
  refine wpAny_bind (wpAny_updateSeq hS rfl ?_)
  have hS₂ := Heap.get?_update_self (Obj.mapSeq (·.push Value.none)) hS rfl
  refine wpAny_updateSeq (hz := by seq_fits) hS₂ rfl ?_
  have hS₃ := Heap.get?_update_self (Obj.mapSeq (·.pop)) hS₂ rfl
  refine wpAny_pure ⟨plainId_quiet PySem.F.plain_extend_loop _, key _ _ _ (fun b o hb e => ?_) ?_ hS₃⟩
  · exact (Heap.get?_update_other _ _ (Ne.symm hb)).trans ((Heap.get?_update_other _ _ (Ne.symm hb)).trans e)
  · rw [Heap.size_update, Heap.size_update]
    exact Nat.le_refl _
theorem ZlFix.of {n : Addr} (D : ZipApart (n + 4) (n + 2) (n + 3) n (n + 1) l1 l2) (h1 : l1 < n) (h2 : l2 < n) : ZlFix (n + 4) (n + 2) (n + 3) n (n + 1) l1 l2 (n + 5) (n + 6) := by
  have a1 : l1 < (n : Nat) := h1
  have a2 : l2 < (n : Nat) := h2
  refine ⟨D, ?_, ?_, ?_, ?_, ?_, ?_, Nat.ne_of_lt (Nat.lt_of_lt_of_le h1 (Nat.le_add_right _ _)), Nat.ne_of_lt (Nat.lt_of_lt_of_le h2 (Nat.le_add_right _ _)), ?_, ?_, ?_, ?_, ?_⟩ <;> first | (show (_ : Nat) < _; omega) | (show (_ : Nat) ≠ _; omega)
theorem zl_call {Q : Value → Shared → Prop} (hh : A.handled = none) (hn : kvs.length ≤ sizeLine) (hx : xs.size = kvs.length) (hkv : ∀ (i : Nat) k v, kvs[i]? = some (k, v) → ∃ key, xs[i]? = some key ∧ knd.is k key = true ∧ ys[i]? = some v)
    {n : Addr} (hs : s.heap.objs.size = n + 5) (D : ZipApart (n + 4) (n + 2) (n + 3) n (n + 1) l1 l2) (h1 : l1 < n) (h2 : l2 < n) (hl1 : s.heap.IsList l1 xs) (hl2 : s.heap.IsList l2 ys)
    (hz : IsZip s.heap (n + 4) (n + 2) (n + 3) .none) (hTI : IsPair s.heap (n + 2) (.ref n) (.ref (n + 1))) (hTO : IsPair s.heap (n + 3) .none .none) (hi1 : s.heap.IsListIter n l1 0) (hi2 : s.heap.IsListIter (n + 1) l2 0)
    (hQ : ∀ (h' : Heap) (tk : Nat) (acc : Array Value) (c : Nat) (as : List Addr), (∀ b o, b < n → s.heap.get? b = some o → h'.get? b = some o) → h'.get? (n + 5) = some { cls := .type "list", dict := none, data := .seq acc c, slots := #[] } → as.length = kvs.length → KdxG knd kvs (n + 5) h' as →
      acc.toList = as.map Value.ref → Q (.ref (n + 5)) { s with heap := h', toks := tk }) :
    wpAny (model prog w) A (call (.type "list") [.ref (n + 4)]) Q E s := by
  have F := ZlFix.of D h1 h2
  refine callType_codes (Q₁ := fun obj s₁ => obj = .ref s.heap.objs.size ∧ s₁ = { s with heap := s.heap.push { cls := .type "list", data := .seq #[] } }) PySem.F.called_list (PySem.F.typeCall_list_1 _) PySem.F.entry_list_init
    (code_list_new _ ⟨rfl, rfl⟩) fun obj s₁ h₁ => ?_
  obtain ⟨rfl, rfl⟩ := h₁
  rw [hs]
  have hS : (s.heap.push { cls := .type "list", data := .seq #[] }).get? (n + 5) = some { cls := .type "list", data := .seq #[] } := by
    rw [← hs]
    exact Heap.get?_push_size _ rfl
  have up : ∀ b o, s.heap.get? b = some o → (s.heap.push { cls := .type "list", data := .seq #[] }).get? b = some o := fun b o e => Heap.get?_push_of_some _ e
  have hsz : (s.heap.push { cls := .type "list", data := .seq #[] }).objs.size = n + 6 := by rw [Heap.size_push, hs]
  refine ⟨⟨_, hS, rfl⟩, PySem.F.args_list_init_2 _ _, ?_⟩
  show wpAny _ _ (do let old ← Builtin.List.listItems (.ref (n + 5)); Builtin.List.listUpdate (.ref (n + 5)) (fun _ => #[]); letGo old.toList.reverse; Builtin.List.listExtendWith (.ref (n + 5)) (.ref (n + 4)) .none) _ _ _
  generalize hhp : s.heap.push { cls := .type "list", data := .seq #[] } = hp at hS up hsz ⊢
  refine wpAny_bind ?_
  unfold Builtin.List.listItems
  refine wpAny_bind (wpAny_seqItems hS rfl (wpAny_pure ?_))
  show wpAny _ _ (updateSeq (n + 5) (fun _ => #[]) >>= fun _ => letGo (#[] : Array Value).toList.reverse >>= fun _ => Builtin.List.listExtendWith (.ref (n + 5)) (.ref (n + 4)) .none) _ _ _
  refine wpAny_bind (wpAny_updateSeq hS rfl ?_)
  have hS₂ := Heap.get?_update_self (Obj.mapSeq (fun _ => (#[] : Array Value))) hS rfl
  have oth : ∀ b o, b ≠ n + 5 → s.heap.get? b = some o → (hp.update (n + 5) (Obj.mapSeq (fun _ => (#[] : Array Value)))).get? b = some o :=
    fun b o hb e => (Heap.get?_update_other _ _ (Ne.symm hb)).trans (up b o e)
  have hupd : n + 6 ≤ (hp.update (n + 5) (Obj.mapSeq (fun _ => (#[] : Array Value)))).objs.size := by rw [Heap.size_update, hsz]; exact Nat.le_refl _
  refine wpAny_bind (wpAny_letGo ?_)
  refine zl_extend (knd := knd) (kvs := kvs) (xs := xs) (ys := ys) (N := n + 6) (A := A.in1) (s := { s with heap := hp.update (n + 5) (Obj.mapSeq (fun _ => (#[] : Array Value))) }) F hupd hh hn hx hkv (hl1.at fun o e => oth _ o F.a1 e) (hl2.at fun o e => oth _ o F.a2 e) (oth _ _ F.nz hz)
    ⟨oth _ _ F.nI hTI, hi1.at fun o e => oth _ o F.n1 e, hi2.at fun o e => oth _ o F.n2 e, .inl ⟨_, _, oth _ _ F.nz hz, oth _ _ F.nO hTO⟩⟩ .none _ hS₂ fun h' tk acc c as hk hS' hl hab hri hG hacc => ?_
  refine ⟨rfl, hQ h' tk acc c as (fun b o hb e => ?_) hS' hl ⟨hri, fun a ha => Nat.lt_of_lt_of_le (Nat.lt_succ_self _) (hab a ha), hG⟩ hacc⟩
  have ne : ∀ j, b ≠ n + j := fun j => Nat.ne_of_lt (Nat.lt_of_lt_of_le hb (Nat.le_add_right _ _))
  exact hk b o (ne 5) (ne 4) (ne 3) (ne 0) (ne 1) (oth b o (ne 5) e)
end
open LiI in
theorem zip_laid {X : Cx} {pins : List (Addr × Obj)} {σ : L2.St} {H : Hp} {s : Shared} {h' : Heap} {tk : Nat} {kvs : List (Key × V)} {vs : List (Key × Value)} {acc : Array Value} {c : Nat} {as : List Addr} {p : Addr} (I : Inv X pins σ H s) (hz : kvs.length ≤ sizeLine) (kv : KV kvs vs) (hp : s.heap.objs.size ≤ p)
    (hk : ∀ b o, s.heap.get? b = some o → h'.get? b = some o) (hS : h'.get? p = some { cls := .type "list", dict := none, data := .seq acc c, slots := #[] }) (hl : as.length = vs.length) (hG : PySem.W.KdxG (mixKind X.prog X.w) vs p h' as) (hacc : acc.toList = as.map Value.ref) :
    ∃ H' : Hp, Same H H' ∧ H p = none ∧ H' p = some (.lst (as.map V.ref)) ∧ Paired (fun (t : Addr) (q : Key × V) => H' t = some (.tup [kV q.1, q.2])) as kvs ∧ Inv X pins σ H' { s with heap := h', toks := tk } := by
  have lk : kvs.length = vs.length := Paired.length kv
  have hSn : p ∉ as := fun z => Nat.lt_irrefl _ (hG.above _ z)
  have nd : as.Nodup := List.Pairwise.imp (fun {a b} (h : a < b) => Nat.ne_of_lt h) hG.rise
  have new : ∀ t ∈ as, H t = none := fun t ht => I.hok.fresh (Nat.le_trans hp (Nat.le_of_lt (hG.above t ht)))
  have newS : H p = none := I.hok.fresh hp
  have atP := putT_at as kvs (upd H p (.lst (as.map V.ref))) (by omega) nd
  have off : ∀ b, b ∉ as → b ≠ p → putT (upd H p (.lst (as.map V.ref))) as kvs b = H b := fun b h1 h2 => by rw [putT_off as kvs _ h1, upd_ne h2]
  have low : ∀ b o, s.heap.get? b = some o → b ∉ as ∧ b ≠ p := fun b o e => ⟨fun z => absurd (Heap.lt_size e) (Nat.not_lt.mpr (Nat.le_trans hp (Nat.le_of_lt (hG.above b z)))), Nat.ne_of_lt (Nat.lt_of_lt_of_le (Heap.lt_size e) hp)⟩
  have kp : Same H (putT (upd H p (.lst (as.map V.ref))) as kvs) := fun b u e => by
    rw [off b (fun z => by rw [new b z] at e; cases e) (fun z => by rw [z, newS] at e; cases e)]
    exact e
  have eS : putT (upd H p (.lst (as.map V.ref))) as kvs p = some (.lst (as.map V.ref)) := by rw [putT_off as kvs _ hSn, upd_same]
  refine ⟨putT (upd H p (.lst (as.map V.ref))) as kvs, kp, newS, eS, atP, ?_⟩
  refine I.call' (ch := []) rfl ⟨fun b o q _ _ _ => hk b o q, fun b o q _ _ _ => ⟨o.slots, hk b o q⟩, fun b o q n _ => ?_, fun b o q _ => ⟨o, hk b o q⟩, fun b xs q => kp b _ q, fun b o u q => kp b _ q, fun b ps q => ⟨#[], by rw [kp b _ q]; simp⟩⟩ (fun b u q => ?_) I.bare fun b z => by simp at z
  · obtain ⟨z1, z2⟩ := low b o q
    rw [off b z1 z2]
    exact n
  · by_cases hb : b ∈ as
    · obtain ⟨j, pk, e1, e2, e3⟩ := paired_ix atP hb
      rw [e3] at q
      cases q
      obtain ⟨key, k, x, f1, f2, f3⟩ := hG.pairs j b e1
      obtain ⟨qv, g1, g2, g3⟩ := LiI.paired_get kv e2
      rw [f1] at g1
      cases g1
      have rk : RelV (kV pk.1) key := by
        rw [g2]
        exact relV_key (show keyIs k key = true from f2)
      exact ⟨by show 2 ≤ sizeLine; decide, [key, x], .cons rk (.cons g3 .nil), ⟨_, f3, rfl, _, rfl⟩⟩
    · by_cases hb2 : b = p
      · rw [hb2] at q ⊢
        rw [eS] at q
        cases q
        refine ⟨by rw [List.length_map]; omega, acc.toList, c, by rw [hacc]; exact vals_refs as, ?_⟩
        rw [Array.toArray_toList]
        exact hS
      · rw [off b hb hb2] at q
        exact (I.hok b u q).stay (fun d v _ y => hk d v y) (fun d y => kp d _ y) fun d xs y => kp d _ y
section
variable {X : Cx} {p p2 pos pos2 : Pos} {e e2 : Expr} {ta : TA}
/-- list(zip(a, b)), two lists of texts as long as each other -/
def tListZip (K : PySem.W.Frag) (ta : TA) : TE := fun σ H Q => ta σ H fun us H1 => ∃ (a b : Addr) (zs ks : List Str), us = [V.ref a, V.ref b] ∧ SqL K H1 a (zs.map V.str) ∧ SqL K H1 b (ks.map V.str) ∧ zs.length = ks.length ∧ zs.length ≤ 1000 ∧
  ∀ (H' : Hp) (l : Addr) (ts : List Addr), Same H1 H' → H1 l = none → H' l = some (.lst (ts.map V.ref)) → Paired (fun (t : Addr) (q : Str × Str) => H' t = some (.tup [V.str q.1, V.str q.2])) ts (zs.zip ks) → Q (.ref l) H'
theorem strs_of : ∀ {zs : List Str} {us : List Value} {i : Nat} {z : Str}, Vals (zs.map V.str) us → zs[i]? = some z → ∃ t, us[i]? = some (.str z t)
  | _ :: _, _, 0, z, .cons r _, h => by
    obtain rfl := Option.some.inj h
    obtain ⟨t, rfl⟩ := r
    exact ⟨t, rfl⟩
  | _ :: zs, _, i + 1, z, .cons _ rs, h => strs_of (zs := zs) (i := i) rs h
theorem kv_of : ∀ {zs ks : List Str} {us : List Value}, zs.length = ks.length → Vals (ks.map V.str) us → KV ((zs.zip ks).map fun q => ((.inr q.1 : Key), V.str q.2)) ((zs.zip us).map fun q => ((.inr q.1 : Key), q.2))
  | [], [], _, _, .nil => .nil
  | [], _ :: _, _, h, _ => by cases h
  | _ :: _, [], _, h, _ => by cases h
  | z :: zs, k :: ks, _, h, .cons r rs => .cons ⟨rfl, r⟩ (kv_of (Nat.succ.inj h) rs)
theorem paired_map {α β γ : Type} {F : α → γ → Prop} {g : β → γ} : ∀ {xs : List α} {ys : List β}, Paired F xs (ys.map g) → Paired (fun x y => F x (g y)) xs ys
  | [], [], _ => .nil
  | _ :: _, _ :: _, .cons r rs => .cons r (paired_map rs)
theorem pe_listZip (hc : X.calm = true) (hg : Gl X "list") (hm : X.mg "list" = none) (hg2 : Gl X "zip") (hm2 : X.mg "zip" = none) (ha : PA X [e, e2] ta)
    (hs : starEach [e, e2] X.env = (false, eval e X.env) :: starEach [e2] X.env := by rfl) (hpl : (backTo pos2 (starEach [e2] X.env)).any (·.1) = false := by rfl)
    (hs2 : starEach [.Call (.Name "zip" p2) [e, e2] [] pos2] X.env = (false, eval (.Call (.Name "zip" p2) [e, e2] [] pos2) X.env) :: starEach [] X.env := by rfl) :
    PE X (.Call (.Name "list" p) [.Call (.Name "zip" p2) [e, e2] [] pos2] [] pos) (tListZip X.K ta) := by
  refine ⟨fun pins s σ H Q I h => ?_⟩
  refine Call_ (ld_blt I hg hm boot_list (PyProof.Rows.callWith_type1 (args_cons (Call_ (ld_blt I hg2 hm2 PyProof.Rows.boot_zip (PyProof.Rows.callWith_type1 (thn (ha.run pos2 pins s σ H _ I h) fun us s1 ⟨vs, H1, I1, r1, q1⟩ => ?_) hs hpl))) hs2) hs2 rfl))
  obtain ⟨a, b, zs, ks, rfl, hqx, hqy, hlen, h1000, q⟩ := q1
  cases r1 with
  | cons r rr =>
    cases rr with
    | cons r' rr =>
      cases rr
      cases r
      cases r'
      obtain ⟨its, rv, pl1, _⟩ := I1.list hqx
      obtain ⟨its2, rv2, pl2, _⟩ := I1.list hqy
      have la : a < s1.heap.objs.size := pl1.lt
      have lb : b < s1.heap.objs.size := pl2.lt
      have n1 := rv.length
      have n2 := rv2.length
      rw [List.length_map] at n1 n2
      refine call_zip_2 pl1.isList pl2.isList fun h' hz hTI hTO h1 h2 hsz hk => args_nil ?_
      have hkl : ((zs.zip its2).map fun q => ((.inr q.1 : Key), q.2)).length = zs.length := by rw [List.length_map, List.length_zip]; omega
      refine zl_call (knd := mixKind X.prog X.w) (kvs := (zs.zip its2).map fun q => ((.inr q.1 : Key), q.2)) (xs := its.toArray) (ys := its2.toArray) (s := { s1 with heap := h' }) (I1.ok.hd hc) (by rw [hkl]; exact Nat.le_of_lt (small1000 h1000)) (by rw [List.size_toArray, hkl, n1]) (fun i k v hkv => ?_) hsz (PySem.W.ktu_apart s1.heap.objs.size a b la lb) la lb (pl1.isList.at fun o e => hk _ o e) (pl2.isList.at fun o e => hk _ o e) hz hTI hTO h1 h2 fun h'' tk acc c as hk2 hS hl hG hacc => ?_
      · rw [List.getElem?_map] at hkv
        cases hzz : (zs.zip its2)[i]? with
        | none => rw [hzz] at hkv; cases hkv
        | some p =>
          rw [hzz] at hkv
          obtain ⟨e1, e2⟩ := Prod.mk.inj (Option.some.inj hkv)
          subst e1 e2
          obtain ⟨hz1, hz2⟩ := List.getElem?_zip_eq_some.mp hzz
          obtain ⟨t, ht⟩ := strs_of rv hz1
          exact ⟨.str p.1 t, by simpa using ht, kV_is (k := .inr p.1) ⟨t, rfl⟩, by simpa using hz2⟩
      · have hkk : ∀ b o, s1.heap.get? b = some o → h''.get? b = some o := fun b o e => hk2 b o (Heap.lt_size e) (hk b o e)
        obtain ⟨H', k1, k2, k3, k4, J⟩ := zip_laid (tk := tk) I1 (by rw [List.length_map, List.length_zip]; have := small1000 h1000; omega) (kv_of hlen rv2) (Nat.le_add_right _ 5) hkk hS hl hG hacc
        refine ⟨.ref _, H', J, rfl, q H' _ as k1 k2 k3 ?_⟩
        exact paired_map (F := fun (t : Addr) (q : Key × V) => H' t = some (.tup [kV q.1, q.2])) (g := fun q : Str × Str => ((.inr q.1 : Key), V.str q.2)) k4
end
end Tp
set_option Elab.async false
set_option linter.all false
set_option maxRecDepth 100000
set_option maxHeartbeats 4000000
/-! What the law draws: programs. -/
namespace Tp
open PySem PySem.Spec PyProof.Rows L2
abbrev sLawProgram : Stmt := topS 37
abbrev nLawProgram : List Str := ["draws", "size", "deep", "names", "step", "way", "heads", "k", "params", "alone", "program", "head", "first", "place", "body", "j"]
theorem scLawProgram : FnScope nLawProgram ["draws", "size", "deep"] (defScope sLawProgram) := ⟨rfl, rfl, rfl, by decide +kernel, rfl, by decide +kernel, by decide +kernel⟩
theorem Kp.lstD {d b : Addr} {H H' : Hp} {xs : List V} (k : Kp d d H H') (dr : DrAt H d) (n : NI xs) (h : H b = some (.lst xs)) : H' b = some (.lst xs) := k b _ h (dr.ne n h) (dr.ne n h)
structure ProgOk (ns : List Str) (hs : List Hd) (fs : List Df) : Prop where
  nm : NamesOk ns
  len : 1 ≤ fs.length ∧ fs.length ≤ 4
  hn : hs.map Hd.nm = ns.take fs.length
  fn : fs.map Df.nm = hs.map Hd.nm
  lk : fs.map (fun f => f.ps.length) = hs.map (fun h => h.ks.length)
  each : ∀ f ∈ fs, PlOk f.p f.q ∧ f.ps.Nodup ∧ (∀ z ∈ f.ps, z ∈ ns) ∧ f.ps.length ≤ 4 ∧ Good ns (Dh hs) 4 f.ps f.b
def HdX (H : Hp) (hl : Addr) (v : V) (h : Hd) : Prop := ∃ a pa, v = .ref a ∧ H a = some (.tup [.str h.nm, .ref pa, .str h.kd]) ∧ H pa = some (.lst (h.ks.map V.str)) ∧ pa ≠ hl
theorem HdX.kp {H H' : Hp} {hl d : Addr} {v : V} {h : Hd} (x : HdX H hl v h) (k : Kp d d H H') (dr : DrAt H d) : HdX H' hl v h := by
  obtain ⟨a, pa, e, h1, h2, h3⟩ := x
  exact ⟨a, pa, e, k.ktD dr _ _ h1, k pa _ h2 (dr.ne (ni_str _) h2) (dr.ne (ni_str _) h2), h3⟩
theorem HdX.wr {H : Hp} {hl : Addr} {v : V} {h : Hd} {xs : List V} {o : HO} (x : HdX H hl v h) (hx : H hl = some (.lst xs)) : HdX (upd H hl o) hl v h := by
  obtain ⟨a, pa, e, h1, h2, h3⟩ := x
  exact ⟨a, pa, e, kt_updL hx _ _ h1, by rw [upd_ne h3]; exact h2, h3⟩
theorem pick_i : ∀ {a b c d e f : Int} (j : Nat) (v : V), [V.int a, V.int b, V.int c, V.int d, V.int e, V.int f][j]? = some v → ∃ z, v = V.int z
  | _, _, _, _, _, _, 0, v, h => ⟨_, (Option.some.inj h).symm⟩
  | _, _, _, _, _, _, 1, v, h => ⟨_, (Option.some.inj h).symm⟩
  | _, _, _, _, _, _, 2, v, h => ⟨_, (Option.some.inj h).symm⟩
  | _, _, _, _, _, _, 3, v, h => ⟨_, (Option.some.inj h).symm⟩
  | _, _, _, _, _, _, 4, v, h => ⟨_, (Option.some.inj h).symm⟩
  | _, _, _, _, _, _, 5, v, h => ⟨_, (Option.some.inj h).symm⟩
theorem paired_take {α β : Type} {F : α → β → Prop} : ∀ {xs : List α} {ys : List β} (n : Nat), Paired F xs ys → Paired F (xs.take n) (ys.take n)
  | _, _, 0, _ => by rw [List.take_zero, List.take_zero]; exact .nil
  | _, _, n + 1, .nil => .nil
  | _, _, n + 1, .cons r rs => .cons r (paired_take n rs)
theorem paired_refs {H : Hp} : ∀ {ts : List Addr} {ps : List (Str × Str)}, Paired (fun (t : Addr) (q : Str × Str) => H t = some (.tup [V.str q.1, V.str q.2])) ts ps → Paired (fun u p => Row H u [.str p.1, .str p.2]) (ts.map V.ref) ps
  | _, _, .nil => .nil
  | _, _, .cons r rs => .cons ⟨_, rfl, r⟩ (paired_refs rs)
theorem cut_strs (zs : List Str) (lo hi : Option Int) : ∃ cs : List Str, cutV (zs.map V.str) lo hi = cs.map V.str ∧ ∀ c ∈ cs, c ∈ zs := by
  unfold cutV
  rw [← List.map_drop, ← List.map_take]
  exact ⟨_, rfl, fun c hc => List.mem_of_mem_drop (List.mem_of_mem_take hc)⟩
theorem df_ni {H : Hp} {dv : List V} {fs : List Df} (h : Paired (DfAt H) dv fs) : NI dv := paired_ni (fun _ _ ⟨_, _, _, _, _, _, a, e, _⟩ => ⟨a, e⟩) h
theorem pick_e : ∀ (j : Nat) (v : V), [V.int 9, V.int 40, V.int 0][j]? = some v → ∃ z : Int, v = V.int z ∧ z ≤ 1000
  | 0, v, h => ⟨_, (Option.some.inj h).symm, by decide⟩
  | 1, v, h => ⟨_, (Option.some.inj h).symm, by decide⟩
  | 2, v, h => ⟨_, (Option.some.inj h).symm, by decide⟩
section
variable {P : Program} {w : World} {K : PySem.W.Frag} {mg : Str → Option Value} {base : Heap} {ka oa : Addr} {tl tn tp td te : Tok}
def spLawProgram : Sp := fun vs H Q _ => ∃ d : Addr, vs = [.ref d, .int 28, .int 4] ∧ DrAt H d ∧ ∀ (r pt hl : Addr) (hv : List V) (fs : List Df) (hs : List Hd) (ns : List Str) (H' : Hp), Kp d d H H' → DrAt H' d → H' r = some (.tup [.ref pt, .ref hl]) → PrAt H' (.ref pt) fs → H' hl = some (.lst hv) → HdsAt H' hv hs → ProgOk ns hs fs → Q (.ref r) H'
theorem dn_law_program (A : At K mg "_law_program" sLawProgram ["draws", "size", "deep"]) (B : Bt mg) (DLawDraw : Dn P w K mg base "_law_draw" 1 ["draws", "many"] spLawDraw) (DLawPlace : Dn P w K mg base "_law_place" 1 ["way"] spLawPlace)
    (DLawNames : Dn P w K mg base "_law_names" 2 ["draws", "many"] spLawNames) (DLawLoop : Dn P w K mg base "_law_loop" 3 ["draws", "way", "head", "names"] spLawLoop) (DLawTree : Dn P w K mg base "_law_tree" 11 ["draws", "way", "want", "near", "deep"] (spLawTree 4)) :
    Dn P w K mg base "_law_program" 12 ["draws", "size", "deep"] spLawProgram := by
  refine A.dn fun f fd F => F.ok scLawProgram (fun vs H Q E h => ?_) (fun cdv A outer s H vs Q E hr h => ?_)
  · obtain ⟨d, rfl, _⟩ := h
    rfl
  obtain ⟨d, rfl, dr0, q⟩ := h
  refine ⟨_, (pss_cons (ps_set (i := 3) scLawProgram.nd rfl (.inr rfl) (pe_dn DLawNames hr (by omega) (by rfl) (pa_cons (pv 0) (pa_cons pe_int pa_nil))))
   (pss_cons (ps_set (i := 4) scLawProgram.nd rfl (.inl rfl) (pe_ix ix_list (pe_lst (pa_cons pe_int (pa_cons pe_int (pa_cons pe_int (pa_cons pe_int (pa_cons pe_int (pa_cons pe_int pa_nil))))))) (pe_dn DLawDraw hr (by omega) (by rfl) (pa_cons (pv 0) (pa_cons pe_int pa_nil))) (fun _ _ => rfl)))
   (pss_cons (ps_set (i := 5) scLawProgram.nd rfl (.inl rfl) (pe_lst (pa_cons (pe_dn DLawDraw hr (by omega) (by rfl) (pa_cons (pv 0) (pa_cons pe_int pa_nil))) (pa_cons (pv 4) (pa_cons pe_int (pa_cons (pv 3) (pa_cons (pe_lst pa_nil) (pa_cons (pe_ix ix_list (pe_lst (pa_cons pe_int (pa_cons pe_int (pa_cons pe_int pa_nil)))) (pe_dn DLawDraw hr (by omega) (by rfl) (pa_cons (pv 0) (pa_cons pe_int pa_nil))) (fun _ _ => rfl)) pa_nil))))))))
   (pss_cons (ps_set (i := 6) scLawProgram.nd rfl (.inl rfl) (pe_lst pa_nil))
   (pss_cons (ps_for PassesOwn.never rfl (pi_range1 (by rfl) B.range (pa_cons (pe_op op_add pe_int (pe_dn DLawDraw hr (by omega) (by rfl) (pa_cons (pv 0) (pa_cons pe_int pa_nil)))) pa_nil)) (pg_name (i := 7) scLawProgram.nd rfl (.inl rfl))
   (pss_cons (ps_setLc (i := 8) (own := [("j", 15)]) (g := gName 15) (tt := tYes) rfl scLawProgram.nd rfl rfl (sw_true rfl rfl rfl (by decide +kernel)) (pi_range1 (by rfl) B.range (pa_cons (pe_dn DLawDraw hr (by omega) (by rfl) (pa_cons (pv 0) (pa_cons pe_int pa_nil))) pa_nil)) (blkOk_by (N := nLawProgram) (sc := defScope sLawProgram) (by decide +kernel)) (fun _ _ _ _ _ => (pg_name (i := 15) scLawProgram.nd rfl (.inl rfl))) (fun _ _ _ _ _ => pts_nil) (fun _ _ _ _ _ => (pe_ix (show IxR _ (rIxL K) from ix_list) (pe_lst (pa_cons pe_str (pa_cons pe_str pa_nil))) (pe_dn DLawDraw hr (by omega) (by rfl) (pa_cons (pv 0) (pa_cons pe_int pa_nil))) (fun _ _ => rfl))))
   (pss_one (ps_expr (pe_bm PySem.F.plainAttrs_list PySem.F.slot_list_append PySem.F.type_list_append mt_append (pv 6) (pa_cons (pe_tup (pa_cons (pe_ix ix_list (pv 3) (pv 7) (fun _ _ => rfl)) (pa_cons (pv 8) (pa_cons (pe_ix ix_list (pe_lst (pa_cons pe_str (pa_cons pe_str pa_nil))) (pe_dn DLawDraw hr (by omega) (by rfl) (pa_cons (pv 0) (pa_cons pe_int pa_nil))) (fun _ _ => rfl)) pa_nil)))) pa_nil))))))
   (pss_cons (ps_set (i := 9) scLawProgram.nd rfl (.inl rfl) (pe_dn DLawDraw hr (by omega) (by rfl) (pa_cons (pv 0) (pa_cons pe_int pa_nil))))
   (pss_cons (ps_set (i := 10) scLawProgram.nd rfl (.inl rfl) (pe_lst pa_nil))
   (pss_cons (ps_for PassesOwn.never rfl (pi_enum (by rfl) B.enum (pa_cons (pv 6) pa_nil)) (pg_tup rfl (pgs_cons (pg_name (i := 7) scLawProgram.nd rfl (.inl rfl)) (pgs_cons (pg_name (i := 11) scLawProgram.nd rfl (.inl rfl)) pgs_nil)))
   (pss_cons (ps_set (i := 12) scLawProgram.nd rfl (.inr rfl) (pe_dn DLawDraw hr (by omega) (by rfl) (pa_cons (pv 0) (pa_cons pe_int pa_nil))))
   (pss_cons (ps_setLc (i := 8) (own := [("j", 15)]) (g := gName 15) (tt := tYes) rfl scLawProgram.nd rfl rfl (sw_true rfl rfl rfl (by decide +kernel)) (pi_range1 (by rfl) B.range (pa_cons (pe_callB call_len_seq (by rfl) B.len PySem.boot_len (pa_cons (pe_ix ix_tup (pv 11) pe_int (fun _ _ => rfl)) pa_nil)) pa_nil)) (blkOk_by (N := nLawProgram) (sc := defScope sLawProgram) (by decide +kernel)) (fun _ _ _ _ _ => (pg_name (i := 15) scLawProgram.nd rfl (.inl rfl))) (fun _ _ _ _ _ => pts_nil) (fun _ _ _ _ _ => (pe_ix (show IxR _ (rIxL K) from ix_list) (pv 3) (pe_op op_mod (pe_op op_add (pv 12) (pv 15)) pe_int) (fun _ _ => rfl))))
   (pss_cons (ps_asg (pe_ifExp (pt_cmpR op_gt (pv 9) pe_int (nomark _)) (pe_slice sl_list (pv 6) po_none (po_some (pv 7))) (pv 6)) (pg_sub (pv 5) pe_int set_list))
   (pss_cons (ps_asg (pe_op op_fdiv (pv 1) (pe_callB call_len_seq (by rfl) B.len PySem.boot_len (pa_cons (pv 6) pa_nil))) (pg_sub (pv 5) pe_int set_list))
   (pss_cons (ps_set (i := 13) scLawProgram.nd rfl (.inl rfl) (pe_dn DLawPlace hr (by omega) (by rfl) (pa_cons (pv 5) pa_nil)))
   (pss_cons (ps_if (PW.pt (pw_and (pt_cmpR (op_eqD hr.units) (pe_slice sl_list (pe_ix ix_tup (pv 11) pe_int (fun _ _ => rfl)) (po_some (pe_un un_neg pe_int)) po_none) (pe_lst (pa_cons pe_str pa_nil)) (nomark _)) (pw_and (pt_cmpR op_notIn_seq (pe_ix ix_tup (pv 11) pe_int (fun _ _ => rfl)) (pv 8) (by rfl)) (pw_and1 (pt_cmpR op_eq (pe_dn DLawDraw hr (by omega) (by rfl) (pa_cons (pv 0) (pa_cons pe_int pa_nil))) pe_int (nomark _))))))
   (pss_one (ps_set (i := 14) scLawProgram.nd rfl (.inl rfl) (pe_dn DLawLoop hr (by omega) (by rfl) (pa_cons (pv 0) (pa_cons (pv 5) (pa_cons (pv 11) (pa_cons (pv 8) pa_nil)))))))
   (pss_one (ps_set (i := 14) scLawProgram.nd rfl (.inl rfl) (pe_dn DLawTree hr (by omega) (by rfl) (pa_cons (pv 0) (pa_cons (pv 5) (pa_cons (pe_ix ix_tup (pv 11) pe_int (fun _ _ => rfl)) (pa_cons (pe_listZip rfl (by rfl) B.list (by rfl) B.zip (pa_cons (pv 8) (pa_cons (pe_ix ix_tup (pv 11) pe_int (fun _ _ => rfl)) pa_nil))) (pa_cons (pv 2) pa_nil)))))))))
   (pss_one (ps_expr (pe_bm PySem.F.plainAttrs_list PySem.F.slot_list_append PySem.F.type_list_append mt_append (pv 10) (pa_cons (pe_tup (pa_cons pe_str (pa_cons (pv 13) (pa_cons (pe_ix ix_tup (pv 11) pe_int (fun _ _ => rfl)) (pa_cons (pe_callTy call_tuple_of (by rfl) B.tuple bi_tuple (pa_cons (pv 8) pa_nil)) (pa_cons (pv 14) pa_nil)))))) pa_nil)))))))))))
   (pss_one (ps_ret (pe_tup (pa_cons (pe_callTy call_tuple_of (by rfl) B.tuple bi_tuple (pa_cons (pv 10) pa_nil)) (pa_cons (pv 6) pa_nil))))))))))))), ?_⟩
  refine ⟨_, rfl, d, rfl, dr0, fun na ns H1 k1 dr1 nna hna nok => ?_⟩
  refine ⟨line9 (by show 6 ≤ 1000; decide), fun p2 n2 => ⟨_, rfl, d, 6, rfl, dr1.new n2, by decide, by decide, fun r H2 r0 r1 k2 dr2 => ?_⟩⟩
  have hp2 := k2 p2 _ upd_same (dr1.fresh n2) (dr1.fresh n2)
  have k12 : Kp d d H1 H2 := (Kp.of (same_new n2)).trans k2
  have k02 := k1.trans k12
  have hna2 := k12.lstD dr1 (ni_str _) hna
  obtain ⟨j, v, rfl, hj⟩ := at_some (xs := [V.int 1, V.int 7, V.int 61, V.int 13, V.int 1, V.int 0]) r0 r1
  obtain ⟨st, rfl⟩ := pick_i j v hj
  refine ⟨p2, _, _, _, rfl, rfl, SqL.of hp2, atI_nat hj, ?_⟩
  refine ⟨_, rfl, d, 300, rfl, dr2, by decide, by decide, fun w0 H3 _ _ k3 dr3 => ⟨_, rfl, _, rfl, line9 (by decide), fun e0 ne0 => ⟨line9 (by show 3 ≤ 1000; decide), fun p4 n4 => ⟨_, rfl, d, 3, rfl, (dr3.new ne0).new n4, by decide, by decide, fun r H4 r0 r1 k4 dr4 => ?_⟩⟩⟩⟩
  have s4 := (same_new (o := .lst []) ne0).trans (same_new (o := .lst [V.int 9, V.int 40, V.int 0]) n4)
  have hp4 := k4 p4 _ upd_same ((dr3.new ne0).fresh n4) ((dr3.new ne0).fresh n4)
  have k04 := ((k02.trans k3).trans (.of s4)).trans k4
  have hna3 := s4 _ _ (k3.lstD dr2 (ni_str _) hna2)
  have dr3b := dr3.same s4
  have hna4 := k4.lstD dr3b (ni_str _) hna3
  have he3 : upd (upd H3 e0 (.lst [])) p4 (.lst [V.int 9, V.int 40, V.int 0]) e0 = some (.lst []) := same_new n4 _ _ upd_same
  have he4 := k4.lstD dr3b ni_nil he3
  obtain ⟨j2, v2, rfl, hj2⟩ := at_some (xs := [V.int 9, V.int 40, V.int 0]) r0 r1
  obtain ⟨ce, rfl, hce⟩ := pick_e j2 v2 hj2
  refine ⟨p4, _, _, _, rfl, rfl, SqL.of hp4, atI_nat hj2, line9 (by show 6 ≤ 1000; decide), fun wa nwa => ?_⟩
  have s5 := same_new (o := .lst [.int w0, .int st, .int 0, .ref na, .ref e0, .int ce]) nwa
  have k05 := k04.trans (.of s5)
  have dr5 := dr4.same s5
  have hna5 := s5 _ _ hna4
  have he5 := s5 _ _ he4
  have hwa5 : upd H4 wa (.lst [.int w0, .int st, .int 0, .ref na, .ref e0, .int ce]) wa = some (.lst [.int w0, .int st, .int 0, .ref na, .ref e0, .int ce]) := upd_same
  have nwa0 : H wa = none := k04.none (dr4.fresh nwa) (dr4.fresh nwa) nwa
  have wad : wa ≠ d := dr4.fresh nwa
  generalize upd H4 wa (.lst [.int w0, .int st, .int 0, .ref na, .ref e0, .int ce]) = H5 at s5 k05 dr5 hna5 he5 hwa5
  refine ⟨line9 (by decide), fun hl nhl => ?_⟩
  have hld := dr5.fresh nhl
  -- the heads
  refine ⟨_, rfl, d, 4, rfl, dr5.new nhl, by decide, by decide, fun r H6 r0 r1 k6 dr6 => ⟨_, _, rfl, rfl, (1 + r), rfl, by omega, by omega, ?_⟩⟩
  have hhl6 := k6 hl _ upd_same hld hld
  have k56 : Kp d d H5 H6 := (Kp.of (same_new nhl)).trans k6
  refine for_it (walk_range (n := (1 + r).toNat)) (fun i σ Hk => Kp d d H5 Hk ∧ DrAt Hk d ∧ (∃ x7 x8, σ = [some (.ref d), some (.int 28), some (.int 4), some (.ref na), some (.int st), some (.ref wa), some (.ref hl), x7, x8, none, none, none, none, none, none, none]) ∧
    ∃ hv hs, Hk hl = some (.lst hv) ∧ hv.length = i ∧ Paired (HdX Hk hl) hv hs ∧ hs.map Hd.nm = ns.take i ∧ ∀ h ∈ hs, KindOk h.kd ∧ (∀ k ∈ h.ks, KindOk k) ∧ h.ks.length ≤ 3) ?_ (fun _ _ _ _ _ => trivial) (fun i x σ Hk Hx hi p y => ?_) fun σ Hk p => ?_
  · exact ⟨k56, dr6, ⟨_, _, rfl⟩, [], [], hhl6, rfl, .nil, rfl, fun h hh => nomatch hh⟩
  · obtain ⟨rfl, rfl⟩ := y
    obtain ⟨kk, drk, ⟨x7, x8, rfl⟩, hv, hs, hhl, hvl, hhs, hnm, hok⟩ := p
    have hi4 : i < 4 := by omega
    -- the kinds of the params
    refine ⟨_, rfl, d, 4, rfl, drk, by decide, by decide, fun r2 H7 r20 r21 k7 dr7 => ⟨r2, rfl, by omega, by omega, fun D nD => ?_⟩⟩
    have nDd := dr7.fresh nD
    have hhl7 := kk.trans k7
    have hl7 := k7 hl _ hhl hld hld
    have nDl : D ≠ hl := fun e => by rw [e, hl7] at nD; cases nD
    refine lc_it (walk_range (n := r2.toNat)) (fun j Hy => Kp d d H7 Hy ∧ DrAt Hy d ∧ ∃ ks : List Str, Hy D = some (.lst (ks.map V.str)) ∧ ks.length = j ∧ ∀ k ∈ ks, KindOk k) ?_ (fun _ _ _ _ => trivial) (fun j x Hy Hz hj p y => ?_) fun Hy p => ?_
    · exact ⟨.of (same_new nD), dr7.new nD, [], upd_same, rfl, fun k hk => nomatch hk⟩
    · obtain ⟨rfl, rfl⟩ := y
      obtain ⟨k8, dr8, ks, hD, hkl, hks⟩ := p
      refine ⟨rfl, line9 (by show 2 ≤ 1000; decide), fun p9 n9 => ⟨_, rfl, d, 2, rfl, dr8.new n9, by decide, by decide, fun r3 H10 r30 r31 k10 dr10 => ?_⟩⟩
      have hp10 := k10 p9 _ upd_same (dr8.fresh n9) (dr8.fresh n9)
      have k910 : Kp d d Hz H10 := (Kp.of (same_new n9)).trans k10
      obtain ⟨j2, v2, rfl, hj2⟩ := at_some (xs := [V.str "n", V.str "l"]) r30 r31
      obtain ⟨kd, rfl, hkd⟩ := nl_pick j2 v2 hj2
      refine ⟨p9, _, _, _, rfl, rfl, SqL.of hp10, atI_nat hj2, _, k910 D _ hD nDd nDd, ?_, Kp.over nD (k8.trans k910), dr10.over nDd, ks ++ [kd], ?_, ?_, ?_⟩
      · rw [List.length_map, hkl]
        exact line9' (by omega)
      · rw [upd_same, List.map_append]
        rfl
      · rw [List.length_append, hkl]
        rfl
      · intro k hk
        rcases List.mem_append.mp hk with h | h
        · exact hks k h
        · rw [List.mem_singleton.mp h]; exact hkd
    obtain ⟨k8, dr8, ks, hD, hkl, hks⟩ := p
    have kk8 := hhl7.trans k8
    have hna8 := kk8.lstD dr5 (ni_str _) hna5
    have hl8 := k8 hl _ hl7 hld hld
    have hhs8 : Paired (HdX Hy hl) hv hs := Paired.mapP hhs fun _ _ z => z.kp (k7.trans k8) drk
    obtain ⟨z, hz8⟩ : ∃ z, ns[i]? = some z := ⟨_, List.getElem?_eq_getElem (by rw [nok.len]; omega)⟩
    refine ⟨_, rfl, .inl ⟨rfl, _, SqL.of hl8⟩, _, rfl, _, rfl, na, _, _, _, rfl, rfl, SqL.of hna8, (by show atI (ns.map V.str) (0 + (i : Int)) = _; rw [Int.zero_add]; exact atI_nat (v := V.str z) (by rw [List.getElem?_map, hz8]; rfl)), _, rfl, line9 (by show 2 ≤ 1000; decide), fun p9 n9 => ⟨_, rfl, d, 2, rfl, dr8.new n9, by decide, by decide, fun r3 H10 r30 r31 k10 dr10 => ?_⟩⟩
    have hp10 := k10 p9 _ upd_same (dr8.fresh n9) (dr8.fresh n9)
    have k910 : Kp d d Hy H10 := (Kp.of (same_new n9)).trans k10
    obtain ⟨j2, v2, rfl, hj2⟩ := at_some (xs := [V.str "n", V.str "l"]) r30 r31
    obtain ⟨kd, rfl, hkd⟩ := nl_pick j2 v2 hj2
    refine ⟨p9, _, _, _, rfl, rfl, SqL.of hp10, atI_nat hj2, line9 (by show 3 ≤ 1000; decide), fun t nt => ?_⟩
    have s11 := same_new (o := .tup [.str z, .ref D, .str kd]) nt
    have k811 : Kp d d Hy _ := k910.trans (.of s11)
    have kk11 := kk8.trans k811
    have hl11 := s11 _ _ (k910 hl _ hl8 hld hld)
    have hD11 := s11 _ _ (k910 D _ hD nDd nDd)
    have dr11 := dr10.same s11
    have hhs11 : Paired (HdX _ hl) hv hs := Paired.mapP hhs8 fun _ _ z => z.kp k811 dr8
    have ht11 : upd H10 t (.tup [.str z, .ref D, .str kd]) t = some (.tup [.str z, .ref D, .str kd]) := upd_same
    generalize upd H10 t (.tup [.str z, .ref D, .str kd]) = H11 at s11 k811 kk11 hl11 hD11 dr11 hhs11 ht11
    refine ⟨hl, hv, _, rfl, rfl, hl11, line9' (by omega), Kp.over nhl kk11, dr11.over hld, ⟨_, _, rfl⟩, hv ++ [.ref t], hs ++ [⟨z, ks, kd⟩], upd_same, by rw [List.length_append, hvl]; rfl, ?_, ?_, ?_⟩
    · exact paired_app (Paired.mapP hhs11 fun _ _ z => z.wr hl11) (.cons (HdX.wr ⟨t, D, rfl, ht11, hD11, nDl⟩ hl11) .nil)
    · rw [List.map_append, hnm, List.take_add_one, hz8]
      rfl
    · intro h hh
      rcases List.mem_append.mp hh with e | e
      · exact hok h e
      · rw [List.mem_singleton.mp e]
        refine ⟨hkd, hks, ?_⟩
        show ks.length ≤ 3
        omega
  obtain ⟨k5k, drk, ⟨x7, x8, rfl⟩, hv, hs, hhl, hvl, hhsX, hnm, hok⟩ := p
  have hhs : HdsAt Hk hv hs := Paired.mapP hhsX fun _ _ ⟨a, pa, e, h1, h2, _⟩ => ⟨a, pa, e, h1, h2⟩
  have hsl := paired_len hhs
  have hvb : 1 ≤ hv.length ∧ hv.length ≤ 4 := by omega
  clear hhsX hhl6 k56 k6 dr6
  have hnak := k5k.lstD dr5 (ni_str _) hna5
  have hek := k5k.lstD dr5 ni_nil he5
  have hwak := k5k wa _ hwa5 wad wad
  have k0k := k05.trans k5k
  refine ⟨_, rfl, d, 3, rfl, drk, by decide, by decide, fun alone H7 _ _ k7 dr7 => ⟨line9 (by decide), fun pl npl => ?_⟩⟩
  have k07 := k0k.trans k7
  have hna7 := k7.lstD drk (ni_str _) hnak
  have he7 := k7.lstD drk ni_nil hek
  have hl7 := k7.lstD drk hhs.ni hhl
  have hwa7 := k7 wa _ hwak wad wad
  have hhs7 : HdsAt H7 hv hs := Paired.mapP hhs fun _ _ ⟨a, pa, e, h1, h2⟩ => ⟨a, pa, e, k7.ktD drk _ _ h1, k7.lstD drk (ni_str _) h2⟩
  have W7 : Wd H7 d wa ⟨na, e0, ce⟩ ns [] := ⟨dr7, ⟨_, _, _, hwa7⟩, hna7, ⟨[], he7, .nil⟩, hce⟩
  have npl0 : H pl = none := k07.none (dr7.fresh npl) (dr7.fresh npl) npl
  have pld := dr7.fresh npl
  have plw := W7.wy.fresh npl
  have hokn : ∀ h ∈ hs, h.nm ∈ ns := fun h hh => by
    have e : h.nm ∈ hs.map Hd.nm := List.mem_map.mpr ⟨h, hh, rfl⟩
    rw [hnm] at e
    exact List.mem_of_mem_take e
  have hok2 : ∀ h ∈ hs, HdOk2 h := fun h hh => ⟨(nok.ok _ (hokn h hh)).str, (hok h hh).1, (hok h hh).2.1⟩
  have hl7' := same_new (o := .lst []) npl _ _ hl7
  refine ⟨_, rfl, hl, hv, rfl, SqL.of hl7', ?_⟩
  refine for_it (walk_enum (xs := hv)) (fun i σ Hk => (Kp d wa H7 Hk ∧ DrAt Hk d ∧ ∃ hax, WyAt Hk wa ⟨na, hax, ce⟩) ∧ (∃ x7 x8 x11 x12 x13 x14 x15, σ = [some (.ref d), some (.int 28), some (.int 4), some (.ref na), some (.int st), some (.ref wa), some (.ref hl), x7, x8, some (.int alone), some (.ref pl), x11, x12, x13, x14, x15]) ∧
    ∃ dv fs, Hk pl = some (.lst dv) ∧ dv.length = i ∧ Paired (DfAt Hk) dv fs ∧ fs.map Df.nm = (hs.take i).map Hd.nm ∧ fs.map (fun f => f.ps.length) = (hs.take i).map (fun h => h.ks.length) ∧ ∀ f ∈ fs, PlOk f.p f.q ∧ f.ps.Nodup ∧ (∀ z ∈ f.ps, z ∈ ns) ∧ f.ps.length ≤ 4 ∧ Good ns (Dh hs) 4 f.ps f.b) ?_ (fun i σ Hk hi p => SqL.of (W7.lst p.1.1 hhs7.ni hl7)) (fun i x σ Hk Hx hi p y => ?_) fun σ Hk p => ?_
  · exact ⟨⟨.of (same_new npl), dr7.new npl, e0, W7.wy.over plw⟩, ⟨_, _, _, _, _, _, _, rfl⟩, [], [], upd_same, rfl, .nil, by rw [List.take_zero]; rfl, by rw [List.take_zero]; rfl, fun f hf => nomatch hf⟩
  · obtain ⟨⟨k8, dr8, hax0, wy8⟩, ⟨x7, x8, x11, x12, x13, x14, x15, rfl⟩, dv, fs, hpl, hdl, hfs, hfn, hfk, hfa⟩ := p
    obtain ⟨T, xi, xv, rfl, nT, rfl, ei, hx⟩ := y
    obtain rfl := Option.some.inj ei
    obtain ⟨h, hh, ha, hpa, rfl, hha7, hhpa7⟩ := Paired.get hhs7 hx
    have hhm := List.mem_of_getElem? hh
    obtain ⟨okd, oks, ok3⟩ := hok h hhm
    have s9 := same_new (o := .tup [.int (i : Nat), .ref ha]) nT
    have k79 : Kp d wa H7 _ := k8.trans (.of s9)
    have dr9 := dr8.same s9
    have wy9 := wy8.same s9
    have hpl9 := s9 _ _ hpl
    have hfs9 : Paired (DfAt _) dv fs := Paired.mapP hfs fun _ _ z => z.mono (KT.of s9)
    have hT9 : upd Hk T (.tup [.int (i : Nat), .ref ha]) T = some (.tup [.int (i : Nat), .ref ha]) := upd_same
    generalize upd Hk T (.tup [.int (i : Nat), .ref ha]) = H9 at s9 k79 dr9 wy9 hpl9 hfs9 hT9
    refine ⟨T, _, rfl, SqT.of hT9, rfl, _, _, rfl, _, _, rfl, rfl, ?_⟩
    refine ⟨_, rfl, d, 8, rfl, dr9, by decide, by decide, fun r H10 r0 r1 k10 dr10 => ?_⟩
    have k710 := k79.trans k10.wide
    have wy10 : WyAt H10 wa ⟨na, hax0, ce⟩ := by
      obtain ⟨a, b, c, e⟩ := wy9
      exact ⟨a, b, c, k10 wa _ e wad wad⟩
    have pl10 := k10 pl _ hpl9 pld pld
    have hfs10 : Paired (DfAt H10) dv fs := Paired.mapP hfs9 fun _ _ z => z.mono (k10.ktD dr9)
    obtain ⟨f1, rfl⟩ := Int.eq_ofNat_of_zero_le r0
    -- the params
    refine ⟨_, rfl, ha, _, _, _, rfl, rfl, SqT.of (W7.kt k710 _ _ hha7), atI_nat (j := 1) rfl, hpa, _, rfl, .inl (SqL.of (W7.lst k710 (ni_str _) hhpa7)), _, rfl, by rw [List.length_map]; omega, by rw [List.length_map]; omega, fun D nD => ?_⟩
    have nDd := dr10.fresh nD
    have nDw := wy10.fresh nD
    rw [List.length_map, Int.toNat_natCast]
    refine lc_it (walk_range (n := h.ks.length)) (fun j Hy => Same H10 Hy ∧ Hy D = some (.lst (((List.range j).map fun j => ns.getD ((f1 + j) % 8) "").map V.str))) ⟨same_new nD, upd_same⟩ (fun _ _ _ _ => trivial) (fun j x Hy Hz hj p y => ?_) fun Hy p => ?_
    · obtain ⟨rfl, rfl⟩ := y
      obtain ⟨s11, hD⟩ := p
      have hlt : (f1 + j) % 8 < ns.length := by rw [nok.len]; exact Nat.mod_lt _ (by decide)
      have eix : ((f1 : Int) + (0 + (j : Int))) % 8 = (((f1 + j) % 8 : Nat) : Int) := by
        rw [Int.zero_add]
        push_cast
        rfl
      refine ⟨rfl, _, rfl, _, rfl, _, rfl, _, _, rfl, rfl, _, _, rfl, rfl, (by show (0 : Int) < 8; decide), na, _, _, _, rfl, rfl, SqL.of (W7.lst (k710.trans (.of s11)) (ni_str _) hna7), (by rw [eix]; exact atI_nat (v := V.str (ns.getD ((f1 + j) % 8) "")) (by rw [List.getElem?_map, List.getElem?_eq_getElem hlt, List.getD_eq_getElem?_getD, List.getElem?_eq_getElem hlt]; rfl)), _, hD, ?_, same_over (o := .lst []) nD s11, ?_⟩
      · rw [List.length_map, List.length_map, List.length_range]
        exact line9' (by omega)
      · rw [upd_same, List.range_succ, List.map_append, List.map_append]
        rfl
    obtain ⟨s11, hDp⟩ := p
    obtain ⟨ps, eps⟩ : ∃ ps, ps = (List.range h.ks.length).map fun j => ns.getD ((f1 + j) % 8) "" := ⟨_, rfl⟩
    rw [← eps] at hDp
    have hpsl : ps.length = h.ks.length := by rw [eps, List.length_map, List.length_range]
    have hget : ∀ j z, ps[j]? = some z → j < h.ks.length ∧ ns[(f1 + j) % 8]? = some z := fun j z hj => by
      rw [eps, List.getElem?_map] at hj
      have hlt : (f1 + j) % 8 < ns.length := by rw [nok.len]; exact Nat.mod_lt _ (by decide)
      by_cases hjk : j < h.ks.length
      · rw [List.getElem?_range hjk] at hj
        have e := Option.some.inj hj
        refine ⟨hjk, ?_⟩
        rw [← e]
        show _ = some (ns.getD ((f1 + j) % 8) "")
        rw [List.getD_eq_getElem?_getD, List.getElem?_eq_getElem hlt]
        rfl
      · rw [List.getElem?_eq_none (by rw [List.length_range]; omega)] at hj
        cases hj
    have hpsn : ∀ z ∈ ps, z ∈ ns := fun z hz => by
      obtain ⟨j, hj⟩ := List.getElem?_of_mem hz
      exact List.mem_of_getElem? (hget j z hj).2
    have hpsd : ps.Nodup := by
      refine List.pairwise_iff_getElem.mpr fun a b ha' hb' hab e => ?_
      have g1 := hget a ps[a] (List.getElem?_eq_getElem ha')
      have g2 := hget b ps[b] (List.getElem?_eq_getElem hb')
      rw [← e] at g2
      exact nodup_ne nok.nd g1.2 g2.2 (by omega)
    clear eps hget
    have k711 := k710.trans (.of s11)
    have dr11 := dr10.same s11
    have wy11 := wy10.same s11
    have pl11 := s11 _ _ pl10
    have hfs11 : Paired (DfAt Hy) dv fs := Paired.mapP hfs10 fun _ _ z => z.mono (KT.of s11)
    clear s11 hfs10 hfs9 pl10 wy10 dr9 wy9
    have hli := W7.lst k711 hhs7.ni hl7
    have hhs11 : HdsAt Hy hv hs := W7.hds k711 hhs7
    dsimp only [gName]
    refine seq_join (fun σ Hz => σ = [some (.ref d), some (.int 28), some (.int 4), some (.ref na), some (.int st), some (.ref wa), some (.ref hl), some (.int (i : Nat)), some (.ref D), some (.int alone), some (.ref pl), some (.ref ha), some (.int (f1 : Nat)), x13, x14, x15] ∧ Kp d wa Hy Hz ∧ DrAt Hz d ∧
      ∃ hax hv' hs', WyAt Hz wa ⟨na, hax, ce⟩ ∧ Hz hax = some (.lst hv') ∧ HdsAt Hz hv' hs' ∧ hs'.length ≤ 100 ∧ ∀ g ∈ hs', g ∈ hs) (fun Cc hC => ?_) ?_
    · obtain ⟨wx, wy, wz, hwy⟩ := wy11
      refine ⟨_, rfl, _, _, rfl, rfl, _, rfl, ?_⟩
      refine ite2D (fun _ => ?_) (fun _ => ?_)
      · refine ⟨_, rfl, _, rfl, (i : Int), rfl, hl, hv, rfl, SqL.of hli, fun p nq => ?_⟩
        rw [cut_to hv (by omega)]
        have s12 := same_new (o := .lst (hv.take i)) nq
        refine ⟨_, rfl, wa, _, 4, 4, rfl, rfl, s12 _ _ hwy, rfl, ?_⟩
        have W11 : Wd Hy d wa ⟨na, hax0, ce⟩ ns [] → True := fun _ => trivial
        have npw : p ≠ wa := fun e => by rw [e, hwy] at nq; cases nq
        have nni : NI (hv.take i) := (show HdsAt Hy (hv.take i) (hs.take i) from paired_take i hhs11).ni
        have k12 : Kp d wa Hy (upd (upd Hy p (.lst (hv.take i))) wa (.lst [.int wx, .int wy, .int wz, .ref na, .ref p, .int ce])) := (Kp.of s12).trans Kp.upd2
        refine hC _ _ ⟨rfl, k12, (dr11.same s12).over wad, p, hv.take i, hs.take i, ⟨_, _, _, upd_same⟩, by rw [upd_ne npw]; exact upd_same, ?_, by rw [List.length_take]; omega, fun g hg => List.mem_of_mem_take hg⟩
        exact Paired.mapP (paired_take i hhs11) fun _ _ ⟨a, b, e, h1, h2⟩ => ⟨a, b, e, k12 a _ h1 (dr11.neT h1) (fun e => by rw [e, hwy] at h1; cases h1), k12 b _ h2 (dr11.ne (ni_str _) h2) (fun e => by
          rw [e, hwy] at h2
          injection h2 with e1
          injection e1 with e2
          exact ni_str _ _ _ e2.symm)⟩
      · refine ⟨_, rfl, _, rfl, wa, _, 4, 4, rfl, rfl, hwy, rfl, ?_⟩
        have k12 : Kp d wa Hy (upd Hy wa (.lst [.int wx, .int wy, .int wz, .ref na, .ref hl, .int ce])) := Kp.upd2
        have nlw : hl ≠ wa := fun e => by
          rw [e, hwy] at hli
          injection hli with e1
          injection e1 with e2
          exact hhs11.ni _ _ e2.symm
        refine hC _ _ ⟨rfl, k12, dr11.over wad, hl, hv, hs, ⟨_, _, _, upd_same⟩, by rw [upd_ne nlw]; exact hli, ?_, by omega, fun g hg => hg⟩
        exact Paired.mapP hhs11 fun _ _ ⟨a, b, e, h1, h2⟩ => ⟨a, b, e, k12 a _ h1 (dr11.neT h1) (fun e => by rw [e, hwy] at h1; cases h1), k12 b _ h2 (dr11.ne (ni_str _) h2) (fun e => by
          rw [e, hwy] at h2
          injection h2 with e1
          injection e1 with e2
          exact ni_str _ _ _ e2.symm)⟩
    rintro σ Hz ⟨rfl, k12, dr12, hax, hv', hs', wy12, hax12, hhs12, hsl12, hsub⟩
    have k712 := k711.trans k12
    have W12 : Wd Hz d wa ⟨na, hax, ce⟩ ns hs' := ⟨dr12, wy12, W7.lst k712 (ni_str _) hna7, ⟨hv', hax12, hhs12⟩, hce⟩
    obtain ⟨wx, wy, wz, hwy⟩ := wy12
    refine ⟨_, rfl, _, rfl, hl, hv, rfl, .inl (SqL.of (W7.lst k712 hhs7.ni hl7)), _, _, rfl, rfl, ⟨by omega, by omega⟩, _, rfl, wa, _, 2, 2, rfl, rfl, hwy, rfl, ?_⟩
    have k1213 : Kp wa wa Hz (upd Hz wa (.lst [.int wx, .int wy, .int (28 / (hv.length : Int)), .ref na, .ref hax, .int ce])) := Kp.upd1
    have W12b := W12.place k1213 ⟨_, _, _, upd_same⟩
    have e12 : upd Hz wa (.lst ([V.int wx, V.int wy, V.int wz, V.ref na, V.ref hax, V.int ce].set 2 (V.int (28 / (hv.length : Int))))) = upd Hz wa (.lst [.int wx, .int wy, .int (28 / (hv.length : Int)), .ref na, .ref hax, .int ce]) := rfl
    refine ⟨_, rfl, wa, ⟨na, hax, ce⟩, rfl, W12b.wy, fun yc pc qc H13 k13 wy13 plc ploc => ?_⟩
    have W13 := W12b.place k13 wy13
    have k713 : Kp d wa H7 H13 := (k712.trans k1213.wide2).trans k13.wide2
    have kyd : Kp d wa Hy H13 := (k12.trans k1213.wide2).trans k13.wide2
    have W11 : Wd Hy d wa ⟨na, hax0, ce⟩ ns [] → True := fun _ => trivial
    have hha13 := W7.kt k713 _ _ hha7
    have hhpa13 := W7.lst k713 (ni_str _) hhpa7
    have hD13 : H13 D = some (.lst (ps.map V.str)) := kyd D _ hDp nDd nDw
    have pl13 : H13 pl = some (.lst dv) := kyd pl _ pl11 pld plw
    have hfs13 : Paired (DfAt H13) dv fs := Paired.mapP hfs11 fun _ _ z => z.mono (kyd.kt dr11 wy11)
    have okW : WdOk ns hs' hs := ⟨nok, fun g hg => ⟨hokn g (hsub g hg), hok2 g (hsub g hg), by have := (hok g (hsub g hg)).2.2; omega⟩, hsl12, hsub⟩
    clear k12 k1213 W12 W12b e12 hwy
    -- the tree's call
    have treeQ : ∀ (Q' : VK) (HB : Hp) (zl : Addr) (ts : List Addr), Kp d wa H13 HB → Wd HB d wa ⟨na, hax, ce⟩ ns hs' → HB zl = some (.lst (ts.map V.ref)) → Paired (fun (t : Addr) (q : Str × Str) => HB t = some (.tup [V.str q.1, V.str q.2])) ts (ps.zip h.ks) →
        (∀ t v H', Kp d wa HB H' → Wd H' d wa ⟨na, hax, ce⟩ ns hs' → TAt H' t v → Good ns (Dh hs) 4 ps t → Q' v H') → spLawTree 4 [.ref d, .ref wa, .str h.kd, .ref zl, .int 4] HB Q' E0 := fun Q' HB zl ts kB WB hzl hts c => by
      have enr : (ps.zip h.ks).map Prod.fst = ps := List.map_fst_zip (by omega)
      refine ⟨d, wa, ⟨na, hax, ce⟩, ns, hs', hs, h.kd, .ref zl, ps.zip h.ks, 4, rfl, WB, okW, ⟨zl, _, rfl, hzl, ?_⟩, ?_, ?_, by decide, by decide, fun t v H' k20 W20 ht hg => c t v H' k20 W20 ht (by rw [enr] at hg; exact hg)⟩
      · exact paired_refs hts
      · rw [enr]; exact hpsn
      · rw [List.length_zip]; omega
    dsimp only [gName]
    refine seq_join (fun σ Hw => ∃ bv, σ = [some (.ref d), some (.int 28), some (.int 4), some (.ref na), some (.int st), some (.ref wa), some (.ref hl), some (.int (i : Nat)), some (.ref D), some (.int alone), some (.ref pl), some (.ref ha), some (.int (f1 : Nat)), some yc, some bv, x15] ∧ Kp d wa H13 Hw ∧ DrAt Hw d ∧ WyAt Hw wa ⟨na, hax, ce⟩ ∧
      ∃ t, TAt Hw t bv ∧ Good ns (Dh hs) 4 ps t) (fun Cc hC => ?_) ?_
    · have klen : (h.ks.map V.str).length = h.ks.length := List.length_map ..
      refine ⟨_, rfl, ha, _, _, _, rfl, rfl, SqT.of hha13, atI_nat (j := 1) rfl, 1, rfl, (-1), rfl, hpa, _, rfl, SqL.of hhpa13, fun pa1 npa1 => ⟨line9 (by show 1 ≤ 1000; decide), fun pa2 npa2 => ?_⟩⟩
      have s14 := (same_new (o := .lst (cutV (h.ks.map V.str) (some (-1)) none)) npa1).trans (same_new (o := .lst [V.str "l"]) npa2)
      have hc1 : upd (upd H13 pa1 (.lst (cutV (h.ks.map V.str) (some (-1)) none))) pa2 (.lst [V.str "l"]) pa1 = some (.lst (cutV (h.ks.map V.str) (some (-1)) none)) := same_new npa2 _ _ upd_same
      obtain ⟨cs, ecs, hcs⟩ := cut_strs h.ks (some (-1)) none
      rw [ecs] at hc1 s14
      have k14 : Kp d wa H13 _ := .of s14
      have W14 := W13.same s14
      refine ⟨.list (cs.map PyData.str), .list [.str "l"], dp_lstS (SqL.of (by rw [ecs]; exact hc1)), .lst (SqL.of upd_same) (.cons (.str _) .nil), shp_shaped (sh_lstS fun z hz => (oks z (hcs z hz)).str) (by decide), (by decide +kernel), _, rfl, ?_⟩
      rw [ecs]
      generalize upd (upd H13 pa1 (.lst (cs.map V.str))) pa2 (.lst [V.str "l"]) = H14 at s14 hc1 k14 W14
      by_cases hb : PyData.eqv (.list (cs.map PyData.str)) (.list [.str "l"]) = true
      · refine iteBT hb ?_
        have hks1 : 1 ≤ h.ks.length := by
          cases hk : h.ks with
          | nil =>
            cases cs with
            | nil => exact absurd hb (by decide +kernel)
            | cons c cs => exact absurd (hcs c List.mem_cons_self) (by rw [hk]; exact List.not_mem_nil)
          | cons a b => exact Nat.succ_le_succ (Nat.zero_le _)
        refine ⟨_, rfl, ha, _, _, _, rfl, rfl, SqT.of (W13.kt k14 _ _ hha13), atI_nat (j := 0) rfl, _, rfl, D, _, rfl, .inl (SqL.of (W13.lst k14 (ni_str _) hD13)), rfl, flat_str _, _, rfl, ?_⟩
        by_cases hm : h.nm ∈ ps
        · refine iteBF (by show (!inV (.str h.nm) _) = false; rw [inV_str, decide_eq_true hm]; rfl) (iteF ?_)
          refine ⟨_, rfl, _, rfl, _, rfl, ha, _, _, _, rfl, rfl, SqT.of (W13.kt k14 _ _ hha13), atI_nat (j := 2) rfl, _, rfl, _, rfl, ha, _, _, _, rfl, rfl, SqT.of (W13.kt k14 _ _ hha13), atI_nat (j := 1) rfl, D, hpa, ps, h.ks, rfl, SqL.of (W13.lst k14 (ni_str _) hD13), SqL.of (W13.lst k14 (ni_str _) hhpa13), hpsl, by omega, fun HB zl ts sB nzl hzl hts => ⟨_, rfl, treeQ _ HB zl ts ((k14).trans (.of sB)) ((W14).same sB) hzl hts fun t v H' k20 W20 ht hg => hC _ _ ⟨v, rfl, ((k14).trans (.of sB)).trans k20, W20.dr, W20.wy, t, ht, hg⟩⟩⟩
        · refine iteBT (by show (!inV (.str h.nm) _) = true; rw [inV_str, decide_eq_false hm]; rfl) ?_
          refine ⟨_, rfl, d, 2, rfl, W14.dr, by decide, by decide, fun r2 H15 r20 r21 k15 dr15 => ⟨rfl, _, rfl, ?_⟩⟩
          have k1315 := k14.trans k15.wide
          have W15 := W14.draw k15 dr15
          refine ite2D (fun _ => ?_) (fun _ => ?_)
          · refine ⟨_, rfl, _, rfl, _, rfl, _, rfl, d, wa, D, ⟨na, hax, ce⟩, ns, hs', hs, .ref ha, h, ps, rfl, W15, okW, W13.hdAt k1315 ⟨ha, hpa, rfl, hha13, hhpa13⟩, hhm, hokn h hhm, hok2 h hhm, W13.lst k1315 (ni_str _) hD13, hpsn, hpsl, by omega, by omega, hm, fun t v H' k20 W20 ht hg => ?_⟩
            exact hC _ _ ⟨v, rfl, k1315.trans k20, W20.dr, W20.wy, t, ht, hg⟩
          · refine ⟨_, rfl, _, rfl, _, rfl, ha, _, _, _, rfl, rfl, SqT.of (W13.kt k1315 _ _ hha13), atI_nat (j := 2) rfl, _, rfl, _, rfl, ha, _, _, _, rfl, rfl, SqT.of (W13.kt k1315 _ _ hha13), atI_nat (j := 1) rfl, D, hpa, ps, h.ks, rfl, SqL.of (W13.lst k1315 (ni_str _) hD13), SqL.of (W13.lst k1315 (ni_str _) hhpa13), hpsl, by omega, fun HB zl ts sB nzl hzl hts => ⟨_, rfl, treeQ _ HB zl ts ((k1315).trans (.of sB)) ((W15).same sB) hzl hts fun t v H' k20 W20 ht hg => hC _ _ ⟨v, rfl, ((k1315).trans (.of sB)).trans k20, W20.dr, W20.wy, t, ht, hg⟩⟩⟩
      · refine iteBF (Bool.eq_false_iff.mpr hb) (iteF ?_)
        refine ⟨_, rfl, _, rfl, _, rfl, ha, _, _, _, rfl, rfl, SqT.of (W13.kt k14 _ _ hha13), atI_nat (j := 2) rfl, _, rfl, _, rfl, ha, _, _, _, rfl, rfl, SqT.of (W13.kt k14 _ _ hha13), atI_nat (j := 1) rfl, D, hpa, ps, h.ks, rfl, SqL.of (W13.lst k14 (ni_str _) hD13), SqL.of (W13.lst k14 (ni_str _) hhpa13), hpsl, by omega, fun HB zl ts sB nzl hzl hts => ⟨_, rfl, treeQ _ HB zl ts ((k14).trans (.of sB)) ((W14).same sB) hzl hts fun t v H' k20 W20 ht hg => hC _ _ ⟨v, rfl, ((k14).trans (.of sB)).trans k20, W20.dr, W20.wy, t, ht, hg⟩⟩⟩
    · rintro σ Hw ⟨bv, rfl, k20, dr20, wy20, t, htb, hgt⟩
      have k720 := k713.trans k20
      have hpl20 := W13.lst k20 (df_ni hfs13) pl13
      have hfs20 : Paired (DfAt Hw) dv fs := Paired.mapP hfs13 fun _ _ z => z.mono (W13.kt k20)
      have hD20 := W13.lst k20 (ni_str _) hD13
      refine ⟨_, rfl, .inl ⟨rfl, _, SqL.of hpl20⟩, _, rfl, _, rfl, ha, _, _, _, rfl, rfl, SqT.of (W13.kt k20 _ _ hha13), atI_nat (j := 0) rfl, _, rfl, D, _, rfl, .inl ⟨SqL.of hD20, fun g ng => ⟨_, rfl, line9 (by show 5 ≤ 1000; decide), fun u nu => ?_⟩⟩⟩
      have s21 : Same Hw (upd (upd Hw g (.tup (ps.map V.str))) u (.tup [.str "def", yc, .str h.nm, .ref g, bv])) := same_two ng nu
      have hpl21 := s21 _ _ hpl20
      have hdf : DfAt (upd (upd Hw g (.tup (ps.map V.str))) u (.tup [.str "def", yc, .str h.nm, .ref g, bv])) (.ref u) ⟨pc, qc, h.nm, ps, t⟩ :=
        ⟨yc, .ref g, bv, Row.mono (KT.of s21) (Row.mono (W13.kt k20) plc), ⟨g, rfl, same_new nu _ _ upd_same⟩, htb.mono (KT.of s21), u, rfl, upd_same⟩
      have hfs21 : Paired (DfAt (upd (upd Hw g (.tup (ps.map V.str))) u (.tup [.str "def", yc, .str h.nm, .ref g, bv]))) dv fs := Paired.mapP hfs20 fun _ _ z => z.mono (KT.of s21)
      have k721 := k720.trans (.of s21)
      have dr21 := dr20.same s21
      have wy21 := wy20.same s21
      generalize upd (upd Hw g (.tup (ps.map V.str))) u (.tup [.str "def", yc, .str h.nm, .ref g, bv]) = H21 at s21 hpl21 hdf hfs21 k721 dr21 wy21
      refine ⟨pl, dv, _, rfl, rfl, hpl21, line9' (by omega), ⟨Kp.over npl k721, dr21.over pld, hax, wy21.over plw⟩, ⟨_, _, _, _, _, _, _, rfl⟩, dv ++ [.ref u], fs ++ [⟨pc, qc, h.nm, ps, t⟩], upd_same, by rw [List.length_append, hdl]; rfl, ?_, ?_, ?_, ?_⟩
      · exact paired_app (Paired.mapP hfs21 fun _ _ z => z.mono (kt_updL hpl21)) (.cons (hdf.mono (kt_updL hpl21)) .nil)
      · rw [List.map_append, hfn, List.take_add_one, hh, List.map_append]
        rfl
      · rw [List.map_append, hfk, List.take_add_one, hh, List.map_append]
        show _ ++ [ps.length] = _ ++ [h.ks.length]
        rw [hpsl]
      · intro f hf
        rcases List.mem_append.mp hf with e | e
        · exact hfa f e
        · rw [List.mem_singleton.mp e]
          exact ⟨ploc, hpsd, hpsn, by show ps.length ≤ 4; omega, hgt⟩
  · obtain ⟨⟨k8, dr8, hax0, wy8⟩, ⟨x7, x8, x11, x12, x13, x14, x15, rfl⟩, dv, fs, hpl, hdl, hfs, hfn, hfk, hfa⟩ := p
    have etk : hs.take hv.length = hs := by rw [hsl, List.take_length]
    rw [etk] at hfn hfk
    have hfl : fs.length = hv.length := by
      have e := congrArg List.length hfn
      rw [List.length_map, List.length_map] at e
      omega
    refine ⟨_, rfl, pl, dv, rfl, .inl ⟨SqL.of hpl, fun pt npt => ⟨_, rfl, line9 (by show 2 ≤ 1000; decide), fun r2 nr2 => ?_⟩⟩⟩
    have s9 := (same_new (o := .tup dv) npt).trans (same_new (o := .tup [.ref pt, .ref hl]) nr2)
    have hl9 := s9 _ _ (W7.lst k8 hhs7.ni hl7)
    have hhs9 : HdsAt (upd (upd Hk pt (.tup dv)) r2 (.tup [.ref pt, .ref hl])) hv hs := W7.hds (k8.trans (.of s9)) hhs7
    have kf : Kp d d H (upd (upd Hk pt (.tup dv)) r2 (.tup [.ref pt, .ref hl])) := fun b o hb h1 _ => by
      have h2 : b ≠ wa := fun e => by rw [e, nwa0] at hb; cases hb
      exact s9 b o (k8 b o (k07 b o hb h1 h1) h1 h2)
    refine q r2 pt hl hv fs hs ns _ kf (dr8.same s9) upd_same ⟨dv, ⟨pt, rfl, same_new nr2 _ _ upd_same⟩, Paired.mapP hfs fun _ _ z => z.mono (KT.of s9)⟩ hl9 hhs9 ⟨nok, by omega, ?_, hfn, hfk, hfa⟩
    rw [hnm, hfl, hvl]
end
end Tp
set_option Elab.async false
set_option linter.all false
set_option maxRecDepth 100000
set_option maxHeartbeats 4000000
/-! The law's looks at trees. -/
namespace Tp
open PySem PySem.Spec PyProof.Rows L2
abbrev sLawSubs : Stmt := topS 38
abbrev nLawSubs : List Str := ["tree", "part"]
theorem scLawSubs : FnScope nLawSubs ["tree"] (defScope sLawSubs) := ⟨rfl, rfl, rfl, by decide +kernel, rfl, by decide +kernel, by decide +kernel⟩
abbrev sLawAllTrees : Stmt := topS 39
abbrev nLawAllTrees : List Str := ["program", "found", "at", "one"]
theorem scLawAllTrees : FnScope nLawAllTrees ["program"] (defScope sLawAllTrees) := ⟨rfl, rfl, rfl, by decide +kernel, rfl, by decide +kernel, by decide +kernel⟩
abbrev sLawCount : Stmt := topS 40
abbrev nLawCount : List Str := ["tree", "one"]
theorem scLawCount : FnScope nLawCount ["tree"] (defScope sLawCount) := ⟨rfl, rfl, rfl, by decide +kernel, rfl, by decide +kernel, by decide +kernel⟩
abbrev sLawWith : Stmt := topS 41
abbrev nLawWith : List Str := ["tree", "trees"]
theorem scLawWith : FnScope nLawWith ["tree", "trees"] (defScope sLawWith) := ⟨rfl, rfl, rfl, by decide +kernel, rfl, by decide +kernel, by decide +kernel⟩
def refB : V → Bool
  | .ref _ => true
  | _ => false
def ItemOk (H : Hp) (x : V) : Prop := (∃ n, x = .int n) ∨ (∃ z, x = .str z) ∨ ∃ a xs, x = .ref a ∧ H a = some (.tup xs)
theorem tree_item {H : Hp} {t : T} {v : V} (h : TAt H t v) : ItemOk H v ∧ refB v = true := by
  obtain ⟨xs, a, rfl, ha⟩ := h.row
  exact ⟨.inr (.inr ⟨a, xs, rfl, ha⟩), rfl⟩
theorem trees_items {H : Hp} : ∀ {ts : List T} {cs : List V}, TsAt H ts cs → ∀ x ∈ cs, ItemOk H x ∧ refB x = true
  | [], cs, h, x, hx => by rw [tsat_nil] at h; rw [h] at hx; cases hx
  | t :: ts, cs, h, x, hx => by
    rw [tsat_cons] at h
    obtain ⟨v, r, rfl, h1, h2⟩ := h
    rcases List.mem_cons.mp hx with rfl | hx
    · exact tree_item h1
    · exact trees_items h2 x hx
/-- the trees among a node's things -/
theorem rest_trees {H : Hp} {d : Nd} {cs rest : List V} (h : RsAt H d cs rest) (hc : ∀ x ∈ cs, ItemOk H x ∧ refB x = true) (hu : ∀ z, d ≠ .use z) (hk : ∀ a b, d ≠ .cs a b) : rest.filter refB = cs ∧ rest.length ≤ 5 ∧ ∀ x ∈ rest, ItemOk H x := by
  cases d with
  | num n =>
    obtain ⟨rfl, rfl⟩ := h
    exact ⟨rfl, by show 1 ≤ 5; decide, fun x hx => by rw [List.mem_singleton.mp hx]; exact .inl ⟨n, rfl⟩⟩
  | nil =>
    obtain ⟨rfl, rfl⟩ := h
    exact ⟨rfl, by show 0 ≤ 5; decide, fun x hx => nomatch hx⟩
  | use z => exact absurd rfl (hu z)
  | op s =>
    obtain ⟨l, r, rfl, rfl⟩ := h
    have h1 := hc l (by simp)
    have h2 := hc r (by simp)
    refine ⟨?_, by show 3 ≤ 5; decide, fun x hx => ?_⟩
    · rw [List.filter_cons_of_neg (by show ¬ (false = true); decide), List.filter_cons_of_pos h1.2, List.filter_cons_of_pos h2.2, List.filter_nil]
    · rcases List.mem_cons.mp hx with rfl | hx
      · exact .inr (.inl ⟨s, rfl⟩)
      · exact (hc x hx).1
  | ite =>
    obtain ⟨c, y, n, rfl, rfl⟩ := h
    exact ⟨by rw [List.filter_cons_of_pos (hc c (by simp)).2, List.filter_cons_of_pos (hc y (by simp)).2, List.filter_cons_of_pos (hc n (by simp)).2, List.filter_nil], by show 3 ≤ 5; decide, fun x hx => (hc x hx).1⟩
  | lt z =>
    obtain ⟨l, r, rfl, rfl⟩ := h
    have h1 := hc l (by simp)
    have h2 := hc r (by simp)
    refine ⟨?_, by show 3 ≤ 5; decide, fun x hx => ?_⟩
    · rw [List.filter_cons_of_neg (by show ¬ (false = true); decide), List.filter_cons_of_pos h1.2, List.filter_cons_of_pos h2.2, List.filter_nil]
    · rcases List.mem_cons.mp hx with rfl | hx
      · exact .inr (.inl ⟨z, rfl⟩)
      · exact (hc x hx).1
  | cs a b => exact absurd rfl (hk a b)
section
variable {P : Program} {w : World} {K : PySem.W.Frag} {mg : Str → Option Value} {base : Heap} {ka oa : Addr} {tl tn tp td te : Tok}
def spLawSubs : Sp := fun vs H Q _ => ∃ (v : V) (t : T), vs = [v] ∧ TAt H t v ∧ ∀ l cs H', Same H H' → H l = none → H' l = some (.lst cs) → TsAt H' t.ts cs → Q (.ref l) H'
theorem dn_law_subs (A : At K mg "_law_subs" sLawSubs ["tree"]) (B : Bt mg) : Dn P w K mg base "_law_subs" 1 ["tree"] spLawSubs := by
  refine A.dn fun f fd F => F.ok scLawSubs (fun vs H Q E h => ?_) (fun cdv A outer s H vs Q E hr h => ?_)
  · obtain ⟨v, t, rfl, _⟩ := h
    rfl
  obtain ⟨v, t, rfl, ht, q⟩ := h
  obtain ⟨d, p0, q0, ts⟩ := t
  rw [tat_mk] at ht
  obtain ⟨y, cs, hp, hd, hts⟩ := ht
  obtain ⟨a, rest, rfl, ha, hr2⟩ := hd.row
  have q : ∀ l cs H', Same H H' → H l = none → H' l = some (.lst cs) → TsAt H' ts cs → Q (.ref l) H' := q
  refine ⟨_, (pss_cons (ps_if (pt_cmpR op_eq (pe_ix ix_tup (pv 0) pe_int (fun _ _ => rfl)) pe_str (nomark _))
   (pss_one (ps_ret (pe_callTy call_list_of (by rfl) B.list bi_list (pa_cons (pe_ix ix_tup (pv 0) pe_int (fun _ _ => rfl)) pa_nil))))
   pss_nil)
   (pss_cons (ps_if (pt_cmpR op_eq (pe_ix ix_tup (pv 0) pe_int (fun _ _ => rfl)) pe_str (nomark _))
   (pss_one (ps_ret (pe_lst (pa_cons (pe_ix ix_tup (pv 0) pe_int (fun _ _ => rfl)) (pa_cons (pe_ix ix_tup (pv 0) pe_int (fun _ _ => rfl)) (pa_cons (pe_ix ix_tup (pv 0) pe_int (fun _ _ => rfl)) pa_nil))))))
   pss_nil)
   (pss_one (ps_ret (pe_lc (own := [("part", 1)]) (g := gName 1) rfl scLawSubs.nd (pi_tup (pe_slice sl_tupA (pv 0) (po_some pe_int) po_none)) (blkOk_by (N := nLawSubs) (sc := defScope sLawSubs) (by decide +kernel)) (fun _ _ _ _ _ => (pg_name (i := 1) scLawSubs.nd rfl (.inl rfl))) (fun _ _ _ _ _ => (pts_one (pt_val (pe_callB (show CallR _ _ (rIsi K) from call_isi) (by rfl) B.isi bi_isi (pa_cons (pv 1) (pa_cons (pe_ty (by rfl) B.tuple bi_tuple) pa_nil)))))) (fun _ _ _ _ _ => (pv 1))))))), ?_⟩
  refine ⟨_, rfl, a, _, _, _, rfl, rfl, SqT.of ha, atI_nat (j := 0) rfl, rfl, _, rfl, ?_⟩
  by_cases hu : ∃ z, d = .use z
  · obtain ⟨z, rfl⟩ := hu
    obtain ⟨g, ⟨g, rfl, hg⟩, rfl⟩ := hr2
    refine iteBT rfl ⟨_, rfl, a, _, _, _, rfl, rfl, SqT.of ha, atI_nat (j := 3) rfl, g, _, rfl, .inr (SqT.of hg), fun l nl => ?_⟩
    exact q l cs _ (same_new nl) nl upd_same (TsAt.mono (KT.of (same_new nl)) hts)
  refine iteN (fun e => hu (ndW_use (V.str.inj e))) ?_
  refine ⟨_, rfl, a, _, _, _, rfl, rfl, SqT.of ha, atI_nat (j := 0) rfl, rfl, _, rfl, ?_⟩
  by_cases hk : ∃ x z, d = .cs x z
  · obtain ⟨x, z, rfl⟩ := hk
    obtain ⟨x1, x2, x3, rfl, rfl⟩ := hr2
    refine iteBT rfl ⟨_, rfl, a, _, _, _, rfl, rfl, SqT.of ha, atI_nat (j := 2) rfl, _, rfl, a, _, _, _, rfl, rfl, SqT.of ha, atI_nat (j := 3) rfl, _, rfl, a, _, _, _, rfl, rfl, SqT.of ha, atI_nat (j := 6) rfl, line9 (by show 3 ≤ 1000; decide), fun l nl => ?_⟩
    exact q l _ _ (same_new nl) nl upd_same (TsAt.mono (KT.of (same_new nl)) hts)
  refine iteN (fun e => hk (ndW_case (V.str.inj e))) ?_
  obtain ⟨hf, hl5, hit⟩ := rest_trees hr2 (trees_items hts) (fun z e => hu ⟨z, e⟩) (fun x z e => hk ⟨x, z, e⟩)
  refine ⟨_, rfl, 2, rfl, a, _, rfl, SqT.of ha, fun h => absurd h.1 (by show ¬ (min 2 (rest.length + 1 + 1) = 0); omega), fun _ b nb => ?_⟩
  have ecut : cutV (.str (ndW d) :: y :: rest) (some 2) none = rest := by
    unfold cutV
    rw [HT.sIx_none]
    show List.take (rest.length + 1 + 1 - min 2 (rest.length + 1 + 1)) (List.drop (min 2 (rest.length + 1 + 1)) (.str (ndW d) :: y :: rest)) = rest
    rw [show min 2 (rest.length + 1 + 1) = 2 by omega]
    show List.take (rest.length + 1 + 1 - 2) rest = rest
    rw [show rest.length + 1 + 1 - 2 = rest.length by omega, List.take_length]
  rw [ecut]
  have s1 := same_new (o := .tup rest) nb
  have hb1 : upd H b (.tup rest) b = some (.tup rest) := upd_same
  generalize upd H b (.tup rest) = H1 at s1 hb1
  refine ⟨b, rfl, ⟨_, SqT.of hb1⟩, fun D nD => lc_it (walk_tup (xs := rest)) (fun i Hc => Same H1 Hc ∧ Hc D = some (.lst ((rest.take i).filter refB))) ⟨same_new nD, upd_same⟩ (fun i Hc _ p => SqT.of (p.1 _ _ hb1)) (fun i x Hc Hd hi p y => ?_) fun Hc p => ?_⟩
  · obtain ⟨rfl, hx⟩ := y
    obtain ⟨s2, hD⟩ := p
    have step : (rest.take (i + 1)).filter refB = (rest.take i).filter refB ++ [x].filter refB := by
      rw [List.take_add_one, hx, List.filter_append]
      rfl
    have hlen : ((rest.take i).filter refB).length ≤ 5 := by
      have h1 := List.length_filter_le refB (rest.take i)
      rw [List.length_take] at h1
      omega
    rcases hit x (List.mem_of_getElem? hx) with ⟨n, rfl⟩ | ⟨z, rfl⟩ | ⟨c, xs, rfl, hc⟩
    · refine ⟨rfl, _, rfl, _, _, _, _, _, rfl, .ty _, .base (.int _), kit_ty kit_int_tup, _, rfl, iteF ⟨s2, ?_⟩⟩
      rw [step]
      show Hd D = some (.lst (_ ++ []))
      rw [List.append_nil]
      exact hD
    · refine ⟨rfl, _, rfl, _, _, _, _, _, rfl, .ty _, .base (.str _), kit_ty kit_str_tup, _, rfl, iteF ⟨s2, ?_⟩⟩
      rw [step]
      show Hd D = some (.lst (_ ++ []))
      rw [List.append_nil]
      exact hD
    · refine ⟨rfl, _, rfl, _, _, _, _, _, rfl, .ty _, .base (.tup (s2 _ _ (s1 _ _ hc))), kit_ty kit_tup_tup, _, rfl, iteT ⟨_, rfl, _, hD, line9' (by omega), same_over (o := .lst []) nD s2, ?_⟩⟩
      rw [upd_same, step]
      rfl
  · obtain ⟨s2, hD⟩ := p
    rw [List.take_length, hf] at hD
    exact q D cs Hc (s1.trans s2) (s1.none nD) hD (TsAt.mono (KT.of (s1.trans s2)) hts)
theorem sum_cnt : ∀ ts : List T, ((ts.map fun t => ((cnt t : Nat) : Int))).sum = ((cntL ts : Nat) : Int)
  | [] => by rw [cntL_nil]; rfl
  | t :: ts => by
    rw [List.map_cons, List.sum_cons, sum_cnt ts, cntL_cons]
    omega
def spLawCount (n : Nat) : Sp := fun vs H Q _ => ∃ (v : V) (t : T), vs = [v] ∧ TAt H t v ∧ TOk n t ∧ ∀ H', Same H H' → Q (.int ((cnt t : Nat) : Int)) H'
theorem dn_law_count (A : At K mg "_law_count" sLawCount ["tree"]) (B : Bt mg) (DLawSubs : Dn P w K mg base "_law_subs" 1 ["tree"] spLawSubs) : ∀ n, Dn P w K mg base "_law_count" (n + 1) ["tree"] (spLawCount n)
  | 0 => A.none fun vs H Q E h => by
    obtain ⟨v, t, _, _, h, _⟩ := h
    exact h
  | n + 1 => by
    have DLawCount := dn_law_count A B DLawSubs n
    refine A.dn fun f fd F => F.ok scLawCount (fun vs H Q E h => ?_) (fun cdv A outer s H vs Q E hr h => ?_)
    · obtain ⟨v, t, rfl, _⟩ := h
      rfl
    obtain ⟨v, t, rfl, ht, hk, q⟩ := h
    refine ⟨_, (pss_one (ps_ret (pe_op op_add pe_int (pe_callB (cr_sum rfl) (by rfl) B.sum bi_sum (pa_cons (pe_lc (own := [("one", 1)]) (g := gName 1) (tt := tYes) rfl scLawCount.nd (pi_list (pe_dn DLawSubs hr (by omega) (by rfl) (pa_cons (pv 0) pa_nil))) (blkOk_by (N := nLawCount) (sc := defScope sLawCount) (by decide +kernel)) (fun _ _ _ _ _ => (pg_name (i := 1) scLawCount.nd rfl (.inl rfl))) (fun _ _ _ _ _ => pts_nil) (fun _ _ _ _ _ => (pe_dn DLawCount hr (by omega) (by rfl) (pa_cons (pv 1) pa_nil)))) pa_nil))))), ?_⟩
    refine ⟨v, rfl, v, t, rfl, ht, fun l cs H1 s1 nl hl hcs => ?_⟩
    obtain ⟨d, p0, q0, ts⟩ := t
    have hcs : TsAt H1 ts cs := hcs
    have hcl := hcs.len
    obtain ⟨g1, g2, g3⟩ := hk
    have h4 := g2.le
    refine ⟨l, rfl, ⟨_, SqL.of hl⟩, fun D nD => lc_it (walk_list (xs := cs)) (fun i Hc => Same H1 Hc ∧ Hc D = some (.lst ((((ts.take i).map fun t => ((cnt t : Nat) : Int))).map V.int))) ⟨same_new nD, upd_same⟩ (fun i Hc _ p => SqL.of (p.1 _ _ hl)) (fun i x Hc Hd hi p y => ?_) fun Hc p => ?_⟩
    · obtain ⟨rfl, hx⟩ := y
      obtain ⟨s2, hD⟩ := p
      obtain ⟨u, hu, hua⟩ := hcs.get hx
      refine ⟨rfl, _, rfl, x, u, rfl, hua.mono (KT.of s2), g3 u (List.mem_of_getElem? hu), fun H3 s3 => ⟨_, s3 _ _ hD, ?_, same_over (o := .lst []) nD (s2.trans s3), ?_⟩⟩
      · rw [List.length_map, List.length_map, List.length_take]
        exact line9' (by omega)
      · rw [upd_same, List.take_add_one, hu, List.map_append, List.map_append]
        rfl
    · obtain ⟨s2, hD⟩ := p
      rw [hcl, List.take_length] at hD
      refine ⟨D, _, rfl, SqL.of hD, _, _, rfl, rfl, ?_⟩
      rw [sum_cnt]
      have e : (1 : Int) + ((cntL ts : Nat) : Int) = ((cnt (.mk d p0 q0 ts) : Nat) : Int) := by
        rw [cnt_mk]
        omega
      show Q (.int (1 + ((cntL ts : Nat) : Int))) Hc
      rw [e]
      exact q Hc (s1.trans s2)
/-- a node with other trees -/
def spLawWith : Sp := fun vs H Q _ => ∃ (v : V) (d : Nd) (y : V) (cs : List V) (L : Addr) (us : List V), vs = [v, .ref L] ∧ NdAt H d y cs v ∧ H L = some (.lst us) ∧ us.length = cs.length ∧ cs.length ≤ 4 ∧ ∀ v' H', Same H H' → NdAt H' d y us v' → Q v' H'
theorem dn_law_with (A : At K mg "_law_with" sLawWith ["tree", "trees"]) (B : Bt mg) : Dn P w K mg base "_law_with" 1 ["tree", "trees"] spLawWith := by
  refine A.dn fun f fd F => F.ok scLawWith (fun vs H Q E h => ?_) (fun cdv A outer s H vs Q E hr h => ?_)
  · obtain ⟨v, d, y, cs, L, us, rfl, _⟩ := h
    rfl
  obtain ⟨v, d, y, cs, L, us, rfl, hd, hL, hul, h4, q⟩ := h
  obtain ⟨a, rest, rfl, ha, hr2⟩ := hd.row
  refine ⟨_, (pss_cons (ps_if (pt_cmpR op_eq (pe_ix ix_tup (pv 0) pe_int (fun _ _ => rfl)) pe_str (nomark _))
   (pss_one (ps_ret (pe_op op_catA (pe_slice sl_tupA (pv 0) po_none (po_some pe_int)) (pe_tup (pa_cons (pe_callTy call_tuple_of (by rfl) B.tuple bi_tuple (pa_cons (pv 1) pa_nil)) pa_nil)))))
   pss_nil)
   (pss_cons (ps_if (pt_cmpR op_eq (pe_ix ix_tup (pv 0) pe_int (fun _ _ => rfl)) pe_str (nomark _))
   (pss_one (ps_ret (pe_op op_catA (pe_op op_catA (pe_op op_catA (pe_slice sl_tupA (pv 0) po_none (po_some pe_int)) (pe_tup (pa_cons (pe_ix ix_list (pv 1) pe_int (fun _ _ => rfl)) (pa_cons (pe_ix ix_list (pv 1) pe_int (fun _ _ => rfl)) pa_nil)))) (pe_slice sl_tupA (pv 0) (po_some pe_int) (po_some pe_int))) (pe_tup (pa_cons (pe_ix ix_list (pv 1) pe_int (fun _ _ => rfl)) pa_nil)))))
   pss_nil)
   (pss_one (ps_ret (pe_op op_catA (pe_slice sl_tupA (pv 0) po_none (po_some (pe_op op_sub (pe_callB call_len_seq (by rfl) B.len PySem.boot_len (pa_cons (pv 0) pa_nil)) (pe_callB call_len_seq (by rfl) B.len PySem.boot_len (pa_cons (pv 1) pa_nil))))) (pe_callTy call_tuple_of (by rfl) B.tuple bi_tuple (pa_cons (pv 1) pa_nil))))))), ?_⟩
  refine ⟨_, rfl, a, _, _, _, rfl, rfl, SqT.of ha, atI_nat (j := 0) rfl, rfl, _, rfl, ?_⟩
  by_cases hu : ∃ z, d = .use z
  · obtain ⟨z, rfl⟩ := hu
    obtain ⟨g, ⟨g, rfl, hg⟩, rfl⟩ := hr2
    refine iteBT rfl ⟨_, rfl, 3, rfl, a, _, rfl, SqT.of ha, fun h => absurd h.2 (by show ¬ ((3 : Nat) = 4); decide), fun _ b1 nb1 => ?_⟩
    have s1 := same_new (o := .tup [V.str "use", y, .str z]) nb1
    have hb1 : upd H b1 (.tup [V.str "use", y, .str z]) b1 = some (.tup [V.str "use", y, .str z]) := upd_same
    have e1 : upd H b1 (.tup (cutV [.str (ndW (.use z)), y, V.str z, .ref g] none (some 3))) = upd H b1 (.tup [V.str "use", y, .str z]) := rfl
    rw [e1]
    generalize upd H b1 (.tup [V.str "use", y, .str z]) = H1 at s1 hb1
    refine ⟨_, rfl, L, us, rfl, .inl ⟨SqL.of (s1 _ _ hL), fun b2 nb2 => ⟨line9 (by show 1 ≤ 1000; decide), fun b3 nb3 => ⟨b1, b3, _, _, rfl, rfl, SqT.of (same_new nb3 _ _ (same_new nb2 _ _ hb1)), SqT.of upd_same, line9 (by show 4 ≤ 1000; decide), fun e => (nomatch e), fun _ e => (nomatch e), fun _ _ b4 nb4 => ?_⟩⟩⟩⟩
    have s2 := ((same_new (o := .tup us) nb2).trans (same_new (o := .tup [.ref b2]) nb3)).trans (same_new (o := .tup [V.str "use", y, .str z, .ref b2]) nb4)
    exact q (.ref b4) _ (s1.trans s2) ⟨.ref b2, ⟨b2, rfl, same_new nb4 _ _ (same_new nb3 _ _ upd_same)⟩, b4, rfl, upd_same⟩
  refine iteN (fun e => hu (ndW_use (V.str.inj e))) ?_
  refine ⟨_, rfl, a, _, _, _, rfl, rfl, SqT.of ha, atI_nat (j := 0) rfl, rfl, _, rfl, ?_⟩
  by_cases hk : ∃ x z, d = .cs x z
  · obtain ⟨x, z, rfl⟩ := hk
    obtain ⟨x1, x2, x3, rfl, rfl⟩ := hr2
    obtain ⟨u1, u2, u3, rfl⟩ : ∃ u1 u2 u3, us = [u1, u2, u3] := by
      match us, hul with
      | [a, b, c], _ => exact ⟨a, b, c, rfl⟩
    refine iteBT rfl ⟨_, rfl, 2, rfl, a, _, rfl, SqT.of ha, fun h => absurd h.2 (by show ¬ ((2 : Nat) = 7); decide), fun _ b1 nb1 => ?_⟩
    have s1 := same_new (o := .tup [V.str "case", y]) nb1
    have hb1 : upd H b1 (.tup [V.str "case", y]) b1 = some (.tup [V.str "case", y]) := upd_same
    have e1 : upd H b1 (.tup (cutV [.str (ndW (.cs x z)), y, x1, x2, V.str x, .str z, x3] none (some 2))) = upd H b1 (.tup [V.str "case", y]) := rfl
    rw [e1]
    generalize upd H b1 (.tup [V.str "case", y]) = H1 at s1 hb1
    have hL1 := s1 _ _ hL
    refine ⟨_, rfl, L, _, _, _, rfl, rfl, SqL.of hL1, atI_nat (j := 0) rfl, _, rfl, L, _, _, _, rfl, rfl, SqL.of hL1, atI_nat (j := 1) rfl, line9 (by show 2 ≤ 1000; decide), fun b2 nb2 => ⟨b1, b2, _, _, rfl, rfl, SqT.of (same_new nb2 _ _ hb1), SqT.of upd_same, line9 (by show 4 ≤ 1000; decide), fun e => (nomatch e), fun _ e => (nomatch e), fun _ _ b3 nb3 => ?_⟩⟩
    have s3 := (same_new (o := .tup [u1, u2]) nb2).trans (same_new (o := .tup [V.str "case", y, u1, u2]) nb3)
    have hb3 : upd (upd H1 b2 (.tup [u1, u2])) b3 (.tup [V.str "case", y, u1, u2]) b3 = some (.tup [V.str "case", y, u1, u2]) := upd_same
    have e3 : upd (upd H1 b2 (.tup [u1, u2])) b3 (.tup ([V.str "case", y] ++ [u1, u2])) = upd (upd H1 b2 (.tup [u1, u2])) b3 (.tup [V.str "case", y, u1, u2]) := rfl
    rw [e3]
    generalize upd (upd H1 b2 (.tup [u1, u2])) b3 (.tup [V.str "case", y, u1, u2]) = H3 at s3 hb3
    have ha3 := s3 _ _ (s1 _ _ ha)
    have hL3 := s3 _ _ hL1
    refine ⟨_, rfl, 4, rfl, 6, rfl, a, _, rfl, SqT.of ha3, fun h => absurd h.1 (by show ¬ ((4 : Nat) = 0); decide), fun _ b4 nb4 => ?_⟩
    have e4 : upd H3 b4 (.tup (cutV [.str (ndW (.cs x z)), y, x1, x2, V.str x, .str z, x3] (some 4) (some 6))) = upd H3 b4 (.tup [V.str x, .str z]) := rfl
    rw [e4]
    refine ⟨b3, b4, _, _, rfl, rfl, SqT.of (same_new nb4 _ _ hb3), SqT.of upd_same, line9 (by show 6 ≤ 1000; decide), fun e => (nomatch e), fun _ e => (nomatch e), fun _ _ b5 nb5 => ?_⟩
    have s5 := (same_new (o := .tup [V.str x, .str z]) nb4).trans (same_new (o := .tup [V.str "case", y, u1, u2, .str x, .str z]) nb5)
    have hb5 : upd (upd H3 b4 (.tup [V.str x, .str z])) b5 (.tup [V.str "case", y, u1, u2, .str x, .str z]) b5 = some (.tup [V.str "case", y, u1, u2, .str x, .str z]) := upd_same
    have e5 : upd (upd H3 b4 (.tup [V.str x, .str z])) b5 (.tup ([V.str "case", y, u1, u2] ++ [V.str x, .str z])) = upd (upd H3 b4 (.tup [V.str x, .str z])) b5 (.tup [V.str "case", y, u1, u2, .str x, .str z]) := rfl
    rw [e5]
    generalize upd (upd H3 b4 (.tup [V.str x, .str z])) b5 (.tup [V.str "case", y, u1, u2, .str x, .str z]) = H5 at s5 hb5
    refine ⟨_, rfl, L, _, _, _, rfl, rfl, SqL.of (s5 _ _ hL3), atI_nat (j := 2) rfl, line9 (by show 1 ≤ 1000; decide), fun b6 nb6 => ⟨b5, b6, _, _, rfl, rfl, SqT.of (same_new nb6 _ _ hb5), SqT.of upd_same, line9 (by show 7 ≤ 1000; decide), fun e => (nomatch e), fun _ e => (nomatch e), fun _ _ b7 nb7 => ?_⟩⟩
    have s7 := (same_new (o := .tup [u3]) nb6).trans (same_new (o := .tup [V.str "case", y, u1, u2, .str x, .str z, u3]) nb7)
    exact q (.ref b7) _ (((s1.trans s3).trans s5).trans s7) ⟨u1, u2, u3, rfl, b7, rfl, upd_same⟩
  refine iteN (fun e => hk (ndW_case (V.str.inj e))) ?_
  cases d with
  | num n =>
    obtain ⟨rfl, rfl⟩ := hr2
    have eus : us = [] := List.length_eq_zero_iff.mp hul
    subst eus
    refine ⟨_, rfl, _, rfl, a, _, rfl, .inr (SqT.of ha), _, rfl, L, [], rfl, .inl (SqL.of hL), _, _, rfl, rfl, _, rfl, a, _, rfl, SqT.of ha, fun _ => ?_, fun h => absurd ⟨rfl, rfl⟩ h⟩
    refine ⟨_, rfl, L, [], rfl, .inl ⟨SqL.of hL, fun b nb => ⟨a, b, _, [], rfl, rfl, SqT.of (same_new nb _ _ ha), SqT.of upd_same, line9 (by show 3 ≤ 1000; decide), fun e => (nomatch e), fun _ _ => ?_, fun _ e => absurd rfl e⟩⟩⟩
    exact q (.ref a) _ (same_new nb) ⟨rfl, a, rfl, same_new nb _ _ ha⟩
  | nil =>
    obtain ⟨rfl, rfl⟩ := hr2
    have eus : us = [] := List.length_eq_zero_iff.mp hul
    subst eus
    refine ⟨_, rfl, _, rfl, a, _, rfl, .inr (SqT.of ha), _, rfl, L, [], rfl, .inl (SqL.of hL), _, _, rfl, rfl, _, rfl, a, _, rfl, SqT.of ha, fun _ => ?_, fun h => absurd ⟨rfl, rfl⟩ h⟩
    refine ⟨_, rfl, L, [], rfl, .inl ⟨SqL.of hL, fun b nb => ⟨a, b, _, [], rfl, rfl, SqT.of (same_new nb _ _ ha), SqT.of upd_same, line9 (by show 2 ≤ 1000; decide), fun e => (nomatch e), fun _ _ => ?_, fun _ e => absurd rfl e⟩⟩⟩
    exact q (.ref a) _ (same_new nb) ⟨rfl, a, rfl, same_new nb _ _ ha⟩
  | use z => exact absurd ⟨z, rfl⟩ hu
  | cs x z => exact absurd ⟨x, z, rfl⟩ hk
  | op s0 =>
    obtain ⟨l, r, rfl, rfl⟩ := hr2
    obtain ⟨u1, u2, rfl⟩ : ∃ u1 u2, us = [u1, u2] := by
      match us, hul with
      | [a, b], _ => exact ⟨a, b, rfl⟩
    refine ⟨_, rfl, _, rfl, a, _, rfl, .inr (SqT.of ha), _, rfl, L, _, rfl, .inl (SqL.of hL), _, _, rfl, rfl, _, rfl, a, _, rfl, SqT.of ha, fun h => absurd h.2 (by show ¬ ((3 : Nat) = 5); decide), fun _ b1 nb1 => ?_⟩
    have s1 := same_new (o := .tup [V.str "op", y, .str s0]) nb1
    have hb1 : upd H b1 (.tup [V.str "op", y, .str s0]) b1 = some (.tup [V.str "op", y, .str s0]) := upd_same
    refine ⟨_, rfl, L, _, rfl, .inl ⟨SqL.of (s1 _ _ hL), fun b2 nb2 => ⟨b1, b2, [V.str "op", y, .str s0], [u1, u2], rfl, rfl, SqT.of (same_new nb2 _ _ hb1), SqT.of upd_same, line9 (by show 5 ≤ 1000; decide), fun e => (nomatch e), fun _ e => (nomatch e), fun _ _ b3 nb3 => ?_⟩⟩⟩
    have s3 := (same_new (o := .tup [u1, u2]) nb2).trans (same_new (o := .tup [V.str "op", y, .str s0, u1, u2]) nb3)
    exact q (.ref b3) _ (s1.trans s3) ⟨u1, u2, rfl, b3, rfl, upd_same⟩
  | lt z =>
    obtain ⟨l, r, rfl, rfl⟩ := hr2
    obtain ⟨u1, u2, rfl⟩ : ∃ u1 u2, us = [u1, u2] := by
      match us, hul with
      | [a, b], _ => exact ⟨a, b, rfl⟩
    refine ⟨_, rfl, _, rfl, a, _, rfl, .inr (SqT.of ha), _, rfl, L, _, rfl, .inl (SqL.of hL), _, _, rfl, rfl, _, rfl, a, _, rfl, SqT.of ha, fun h => absurd h.2 (by show ¬ ((3 : Nat) = 5); decide), fun _ b1 nb1 => ?_⟩
    have s1 := same_new (o := .tup [V.str "let", y, .str z]) nb1
    have hb1 : upd H b1 (.tup [V.str "let", y, .str z]) b1 = some (.tup [V.str "let", y, .str z]) := upd_same
    refine ⟨_, rfl, L, _, rfl, .inl ⟨SqL.of (s1 _ _ hL), fun b2 nb2 => ⟨b1, b2, [V.str "let", y, .str z], [u1, u2], rfl, rfl, SqT.of (same_new nb2 _ _ hb1), SqT.of upd_same, line9 (by show 5 ≤ 1000; decide), fun e => (nomatch e), fun _ e => (nomatch e), fun _ _ b3 nb3 => ?_⟩⟩⟩
    have s3 := (same_new (o := .tup [u1, u2]) nb2).trans (same_new (o := .tup [V.str "let", y, .str z, u1, u2]) nb3)
    exact q (.ref b3) _ (s1.trans s3) ⟨u1, u2, rfl, b3, rfl, upd_same⟩
  | ite =>
    obtain ⟨c, y2, n, rfl, rfl⟩ := hr2
    obtain ⟨u1, u2, u3, rfl⟩ : ∃ u1 u2 u3, us = [u1, u2, u3] := by
      match us, hul with
      | [a, b, c], _ => exact ⟨a, b, c, rfl⟩
    refine ⟨_, rfl, _, rfl, a, _, rfl, .inr (SqT.of ha), _, rfl, L, _, rfl, .inl (SqL.of hL), _, _, rfl, rfl, _, rfl, a, _, rfl, SqT.of ha, fun h => absurd h.2 (by show ¬ ((2 : Nat) = 5); decide), fun _ b1 nb1 => ?_⟩
    have s1 := same_new (o := .tup [V.str "if", y]) nb1
    have hb1 : upd H b1 (.tup [V.str "if", y]) b1 = some (.tup [V.str "if", y]) := upd_same
    refine ⟨_, rfl, L, _, rfl, .inl ⟨SqL.of (s1 _ _ hL), fun b2 nb2 => ⟨b1, b2, [V.str "if", y], [u1, u2, u3], rfl, rfl, SqT.of (same_new nb2 _ _ hb1), SqT.of upd_same, line9 (by show 5 ≤ 1000; decide), fun e => (nomatch e), fun _ e => (nomatch e), fun _ _ b3 nb3 => ?_⟩⟩⟩
    have s3 := (same_new (o := .tup [u1, u2, u3]) nb2).trans (same_new (o := .tup [V.str "if", y, u1, u2, u3]) nb3)
    exact q (.ref b3) _ (s1.trans s3) ⟨u1, u2, u3, rfl, b3, rfl, upd_same⟩
def AllOf (fs : List Df) (al : List T) : Prop := (∀ f ∈ fs, f.b ∈ al) ∧ (∀ t ∈ al, ∀ u ∈ t.ts, u ∈ al) ∧ ∀ P : T → Prop, (∀ f ∈ fs, P f.b) → (∀ t, P t → ∀ u ∈ t.ts, P u) → ∀ t ∈ al, P t
theorem len_cnt : ∀ ts : List T, ts.length ≤ cntL ts
  | [] => Nat.zero_le _
  | t :: ts => by
    have h1 := len_cnt ts
    have h2 := cnt_pos t
    rw [List.length_cons, cntL_cons]
    omega
def spLawAllTrees : Sp := fun vs H Q _ => ∃ (v : V) (fs : List Df), vs = [v] ∧ PrAt H v fs ∧ fs.length ≤ 100 ∧ cntL (fs.map Df.b) ≤ 1000000 ∧ ∀ l us al H', Same H H' → H l = none → H' l = some (.lst us) → TsAt H' al us → al.length ≤ 1000000 → AllOf fs al → Q (.ref l) H'
def AllW (fs : List Df) (H : Hp) (a : Addr) : Nat → L2.St → Hp → Prop := fun m σ Hk => ∃ (l : Addr) (us : List V) (al : List T) (at_ : Nat), σ = [some (.ref a), some (.ref l), some (.int (at_ : Int)), none] ∧ Same H Hk ∧ H l = none ∧ Hk l = some (.lst us) ∧ TsAt Hk al us ∧ at_ ≤ al.length ∧ m = cntL (al.drop at_) ∧ at_ + cntL (al.drop at_) = cntL (fs.map Df.b) ∧ (∀ f ∈ fs, f.b ∈ al) ∧ (∀ i t, i < at_ → al[i]? = some t → ∀ u ∈ t.ts, u ∈ al) ∧
      ∀ P : T → Prop, (∀ f ∈ fs, P f.b) → (∀ t, P t → ∀ u ∈ t.ts, P u) → ∀ t ∈ al, P t
theorem dn_law_all_trees (A : At K mg "_law_all_trees" sLawAllTrees ["program"]) (B : Bt mg) (DLawSubs : Dn P w K mg base "_law_subs" 1 ["tree"] spLawSubs) : Dn P w K mg base "_law_all_trees" 2 ["program"] spLawAllTrees := by
  refine A.dn fun f fd F => F.ok scLawAllTrees (fun vs H Q E h => ?_) (fun cdv A outer s H vs Q E hr h => ?_)
  · obtain ⟨v, fs, rfl, _⟩ := h
    rfl
  obtain ⟨v, fs, rfl, ⟨ys, ⟨a, rfl, ha⟩, hfs⟩, h100, hcn, q⟩ := h
  have hl := paired_len hfs
  refine ⟨_, (pss_cons (ps_setLc (i := 1) (own := [("one", 3)]) (g := gName 3) (tt := tYes) rfl scLawAllTrees.nd rfl rfl (sw_true rfl rfl rfl (by decide +kernel)) (pi_tup (pv 0)) (blkOk_by (N := nLawAllTrees) (sc := defScope sLawAllTrees) (by decide +kernel)) (fun _ _ _ _ _ => (pg_name (i := 3) scLawAllTrees.nd rfl (.inl rfl))) (fun _ _ _ _ _ => pts_nil) (fun _ _ _ _ _ => (pe_ix (show IxR _ (rIxT K) from ix_tup) (pv 3) pe_int (fun _ _ => rfl))))
   (pss_cons (ps_set (i := 2) scLawAllTrees.nd rfl (.inl rfl) pe_int)
   (pss_cons (ps_while PassesOwn.never (pt_cmpR op_lt (pv 2) (pe_callB call_len_seq (by rfl) B.len PySem.boot_len (pa_cons (pv 1) pa_nil)) (nomark _))
   (pss_cons (ps_set (i := 1) scLawAllTrees.nd rfl (.inl rfl) (pe_op op_cat (pv 1) (pe_dn DLawSubs hr (by omega) (by rfl) (pa_cons (pe_ix ix_list (pv 1) (pv 2) (fun _ _ => rfl)) pa_nil))))
   (pss_one (ps_set (i := 2) scLawAllTrees.nd rfl (.inl rfl) (pe_op op_add (pv 2) pe_int)))))
   (pss_one (ps_ret (pv 1)))))), ?_⟩
  refine ⟨_, rfl, a, rfl, ⟨_, SqT.of ha⟩, fun D nD => lc_it (walk_tup (xs := ys)) (fun i Hc => Same H Hc ∧ ∃ us, Hc D = some (.lst us) ∧ us.length = i ∧ TsAt H ((fs.take i).map Df.b) us) ⟨same_new nD, [], upd_same, rfl, by rw [List.take_zero]; exact TsAt.nil⟩ (fun i Hc _ p => SqT.of (p.1 _ _ ha)) (fun i x Hc Hd hi p y => ?_) fun Hc p => ?_⟩
  · obtain ⟨rfl, hx⟩ := y
    obtain ⟨s1, us, hD, hul, hts⟩ := p
    obtain ⟨f, hf, y1, g, bv, hp1, hg, hb, b, rfl, hbt⟩ := Paired.get hfs hx
    refine ⟨rfl, _, rfl, b, _, _, _, rfl, rfl, SqT.of (s1 _ _ hbt), atI_nat (j := 4) rfl, us, hD, line9' (by omega), same_over (o := .lst []) nD s1, _, upd_same, by rw [List.length_append, hul]; rfl, ?_⟩
    rw [List.take_add_one, hf, List.map_append]
    exact TsAt.app hts (TsAt.cons hb TsAt.nil)
  obtain ⟨s1, us, hD, hul, hts⟩ := p
  rw [hl, List.take_length] at hts
  have hts1 := TsAt.mono (KT.of s1) hts
  -- the walk over what was found
  refine ⟨AllW fs H a, ⟨_, D, us, fs.map Df.b, 0, rfl, s1, nD, hD, hts1, Nat.zero_le _, rfl, by rw [List.drop_zero, Nat.zero_add], fun f hf => List.mem_map.mpr ⟨f, hf, rfl⟩, fun i t hi => absurd hi (Nat.not_lt_zero _), fun P h1 _ t ht => ?_⟩, fun m σ Hk hW => ?_⟩
  · obtain ⟨f, hf, rfl⟩ := List.mem_map.mp ht
    exact h1 f hf
  obtain ⟨l, us2, al, at_, rfl, s2, nl, hlu, hal, hat, rfl, hsum, hb, hcl, hher⟩ := hW
  have hul2 := hal.len
  refine ⟨_, rfl, _, rfl, l, us2, rfl, .inl (SqL.of hlu), _, _, rfl, rfl, _, rfl, ?_⟩
  have hlb := len_cnt (al.drop at_)
  rw [List.length_drop] at hlb
  refine ite2D (fun hlt => ?_) (fun hge => ?_)
  · have hlt' : at_ < al.length := by omega
    have hget : al[at_]? = some al[at_] := List.getElem?_eq_getElem hlt'
    obtain ⟨t, ht⟩ : ∃ t, al[at_]? = some t := ⟨_, hget⟩
    obtain ⟨x, hx, hxt⟩ : ∃ x, us2[at_]? = some x ∧ TAt Hk t x := by
      have hx : us2[at_]? = some (us2[at_]'(by omega)) := List.getElem?_eq_getElem (by omega)
      obtain ⟨t', ht', hta⟩ := hal.get hx
      rw [ht] at ht'
      rw [Option.some.inj ht']
      exact ⟨_, hx, hta⟩
    have hdrop : al.drop at_ = t :: al.drop (at_ + 1) := by
      rw [List.drop_eq_getElem_cons hlt']
      rw [hget] at ht
      rw [Option.some.inj ht]
    refine ⟨fun σ' H' => ∃ m', m' < cntL (al.drop at_) ∧ AllW fs H a m' σ' H', fun _ _ h => h, ?_⟩
    refine ⟨_, rfl, _, rfl, _, rfl, l, _, _, _, rfl, rfl, SqL.of hlu, atI_nat (j := at_) hx, x, t, rfl, hxt, fun l2 cs H3 s3 nl2 hl2 hcs => ?_⟩
    have h4 : t.ts.length ≤ cntL (al.drop at_) := by
      rw [hdrop, cntL_cons]
      obtain ⟨d, p0, q0, ts⟩ := t
      rw [cnt_mk]
      have := len_cnt ts
      show ts.length ≤ _
      omega
    have hcl2 := hcs.len
    have hlu3 := s3 _ _ hlu
    refine ⟨l, l2, us2, cs, rfl, rfl, hlu3, hl2, Nat.le_trans (m := 2000000) (by omega) (by decide), fun l3 nl3 => ?_⟩
    refine ⟨_, rfl, _, _, rfl, rfl, ?_⟩
    have s5 := s3.trans (same_new (o := .lst (us2 ++ cs)) nl3)
    have hsub : (al ++ t.ts).drop (at_ + 1) = al.drop (at_ + 1) ++ t.ts := List.drop_append_of_le_length (by omega)
    have hc1 : cntL (al.drop at_) = cnt t + cntL (al.drop (at_ + 1)) := by rw [hdrop, cntL_cons]
    have hc2 : cnt t = 1 + cntL t.ts := by
      obtain ⟨d, p0, q0, ts⟩ := t
      exact cnt_mk ..
    have hc3 : cntL ((al ++ t.ts).drop (at_ + 1)) = cntL (al.drop (at_ + 1)) + cntL t.ts := by rw [hsub, cntL_append]
    refine ⟨cntL ((al ++ t.ts).drop (at_ + 1)), by omega, l3, us2 ++ cs, al ++ t.ts, at_ + 1, rfl, s2.trans s5, (s2.trans s3).none nl3, upd_same, TsAt.app (TsAt.mono (KT.of s5) hal) (TsAt.mono (KT.of (same_new nl3)) hcs), ?_, rfl, by omega, fun f hf => List.mem_append_left _ (hb f hf), fun i t2 hi ht2 u hu => ?_, fun P h1 h2 t2 ht2 => ?_⟩
    · rw [List.length_append]
      omega
    · by_cases e : i < at_
      · rw [List.getElem?_append_left (by omega)] at ht2
        exact List.mem_append_left _ (hcl i t2 e ht2 u hu)
      · have e : i = at_ := by omega
        subst e
        rw [List.getElem?_append_left hlt', ht] at ht2
        rw [← Option.some.inj ht2] at hu
        exact List.mem_append_right _ hu
    · rcases List.mem_append.mp ht2 with h | h
      · exact hher P h1 h2 t2 h
      · exact h2 t (hher P h1 h2 t (List.mem_of_getElem? ht)) t2 h
  · have hat' : at_ = al.length := by omega
    refine ⟨_, rfl, q l us2 al Hk s2 nl hlu hal (by omega) ⟨hb, fun t ht u hu => ?_, hher⟩⟩
    obtain ⟨i, hi, e⟩ := List.mem_iff_getElem.mp ht
    exact hcl i t (by omega) (by rw [List.getElem?_eq_getElem hi, e]) u hu
end
end Tp
set_option Elab.async false
set_option linter.all false
set_option maxRecDepth 100000
set_option maxHeartbeats 4000000
/-! A lambda of one parameter, handed to a def: things that are known for the time of a call. -/
namespace Tp
open PySem PySem.Spec PyProof.Rows L2 LamX NdefX
/-- a thing known to the object -/
def fz (o : Obj) : HO := .frz o (.own 0)
theorem fz_inj {o o' : Obj} (h : fz o = fz o') : o = o' := by
  unfold fz at h
  injection h
def Tr (L : List (Addr × Obj)) (H : Hp) : Hp := fun b => match L.lookup b with
  | some o => some (fz o)
  | none => H b
def Ut (L : List (Addr × Obj)) (H : Hp) : Hp := fun b => match L.lookup b with
  | some _ => none
  | none => H b
section
variable {L : List (Addr × Obj)} {H H' : Hp} {b : Addr} {o : Obj}
theorem tr_in (h : L.lookup b = some o) : Tr L H b = some (fz o) := by unfold Tr; rw [h]
theorem tr_out (h : L.lookup b = none) : Tr L H b = H b := by unfold Tr; rw [h]
theorem ut_in (h : L.lookup b = some o) : Ut L H b = none := by unfold Ut; rw [h]
theorem ut_out (h : L.lookup b = none) : Ut L H b = H b := by unfold Ut; rw [h]
variable {P : Program} {w : World} {K : PySem.W.Frag} {mg : Str → Option Value} {base : Heap} {A : Around} {outer : List Env} {s s' : Shared} {Q Q' : VK} {u : Value}
theorem fz_at {h : Heap} (ok : HOk P w H h) (e : H b = some (fz o)) : h.get? b = some o := by
  obtain ⟨z, _⟩ := ok b _ e
  exact z
theorem hok_fz {h : Heap} (e : h.get? b = some o) : ObjOk P w H h b (fz o) := ⟨e, o, e⟩
/-- known for a call: the state ahead of it -/
theorem tr_env0 (e0 : Env0 P w K mg base A outer s H) (hL : ∀ b o, L.lookup b = some o → s.heap.get? b = some o ∧ H b = none ∧ base.get? b = none ∧ b ∉ frs outer) : Env0 P w K mg base A outer s (Tr L H) := by
  have out : ∀ {b : Addr} {u : HO}, H b = some u → L.lookup b = none := fun {b u} e => by
    cases q : L.lookup b with
    | none => rfl
    | some o =>
      have := (hL _ _ q).2.1
      rw [this] at e
      cases e
  refine ⟨e0.frames, e0.mod, fun b o e => ⟨(e0.bs b o e).1, ?_⟩, e0.bsz, e0.funs, fun b hb => ?_, fun b o e => ?_, e0.bare⟩
  · cases q : L.lookup b with
    | none => rw [tr_out q]; exact (e0.bs b o e).2
    | some o' =>
      have := (hL _ _ q).2.2.1
      rw [this] at e
      cases e
  · cases q : L.lookup b with
    | none => rw [tr_out q]; exact e0.frf b hb
    | some o' => exact absurd hb (hL _ _ q).2.2.2
  · cases q : L.lookup b with
    | none =>
      rw [tr_out q] at e
      refine (e0.hok b o e).stay (fun _ _ _ z => z) (fun c z => ?_) (fun c xs z => ?_)
      · rw [tr_out (out z)]; exact z
      · rw [tr_out (out z)]; exact z
    | some o' =>
      rw [tr_in q] at e
      cases e
      exact hok_fz (hL _ _ q).1
/-- .. behind it -/
theorem ut_ce (hL : ∀ b o, L.lookup b = some o → s.heap.get? b = some o ∧ H b = none ∧ base.get? b = none ∧ b ∉ frs outer) (h : CE outer P w (Tr L H) s Q' u s') (q : ∀ v H', (∀ b o, L.lookup b = some o → H' b = some (fz o)) → Q' v H' → Q v (Ut L H')) : CE outer P w H s Q u s' := by
  obtain ⟨v, H', os, bare, un, hok, r, qq⟩ := h
  have hin : ∀ b o, L.lookup b = some o → H' b = some (fz o) := fun b o e => un.frzs b _ _ (tr_in e)
  have out : ∀ {b : Addr} {u : HO}, H b = some u → L.lookup b = none := fun {b u} e => by
    cases q : L.lookup b with
    | none => rfl
    | some o =>
      have := (hL _ _ q).2.1
      rw [this] at e
      cases e
  have out' : ∀ {b : Addr} {u : HO}, H' b = some u → (∀ o, u ≠ fz o) → L.lookup b = none := fun {b u} e n => by
    cases q : L.lookup b with
    | none => rfl
    | some o =>
      rw [hin b o q] at e
      exact absurd (Option.some.inj e).symm (n o)
  have kpt : ∀ {b : Addr} {o o' : Obj}, L.lookup b = some o' → s.heap.get? b = some o → s'.heap.get? b = some o := fun {b o o'} q e => by
    rw [(hL _ _ q).1] at e
    cases e
    exact fz_at hok (hin b _ q)
  refine ⟨v, Ut L H', os, bare, ⟨fun b o e n h1 h2 => ?_, fun b o e n h1 h2 => ?_, fun b o e n h2 => ?_, un.there, fun b xs e => ?_, fun b o x e => ?_, fun b ps e => ?_⟩, fun b o e => ?_, r, q v H' hin qq⟩
  · cases q : L.lookup b with
    | none => exact un.keep b o e (by rw [tr_out q]; exact n) h1 h2
    | some o' => exact kpt q e
  · cases q : L.lookup b with
    | none => exact un.slot b o e (by rw [tr_out q]; exact n) h1 h2
    | some o' => exact ⟨o.slots, kpt q e⟩
  · cases q : L.lookup b with
    | none => rw [ut_out q]; exact un.free b o e (by rw [tr_out q]; exact n) h2
    | some o' => exact ut_in q
  · rw [ut_out (out e)]
    exact un.tups b xs (by rw [tr_out (out e)]; exact e)
  · rw [ut_out (out e)]
    exact un.frzs b o x (by rw [tr_out (out e)]; exact e)
  · rw [ut_out (out e)]
    exact un.tbls b ps (by rw [tr_out (out e)]; exact e)
  · cases q : L.lookup b with
    | none =>
      rw [ut_out q] at e
      refine (hok b o e).stay (fun _ _ _ z => z) (fun c z => ?_) (fun c xs z => ?_)
      · rw [ut_out (out' z fun o => by unfold fz; exact fun e => nomatch e)]; exact z
      · rw [ut_out (out' z fun o => by unfold fz; exact fun e => nomatch e)]; exact z
    | some o' => rw [ut_in q] at e; cases e
/-- what is known is forgotten for a call: the state ahead of it -/
theorem ut_env0 (e0 : Env0 P w K mg base A outer s H) (hL : ∀ b o, L.lookup b = some o → H b = some (fz o)) : Env0 P w K mg base A outer s (Ut L H) := by
  have none_ : ∀ {b : Addr}, H b = none → Ut L H b = none := fun {b} e => by
    cases q : L.lookup b with
    | none => rw [ut_out q]; exact e
    | some o => exact ut_in q
  have out : ∀ {b : Addr} {u : HO}, H b = some u → (∀ o, u ≠ fz o) → L.lookup b = none := fun {b u} e n => by
    cases q : L.lookup b with
    | none => rfl
    | some o =>
      rw [hL b o q] at e
      exact absurd (Option.some.inj e).symm (n o)
  refine ⟨e0.frames, e0.mod, fun b o e => ⟨(e0.bs b o e).1, none_ (e0.bs b o e).2⟩, e0.bsz, e0.funs, fun b hb => none_ (e0.frf b hb), fun b o e => ?_, e0.bare⟩
  cases q : L.lookup b with
  | none =>
    rw [ut_out q] at e
    refine (e0.hok b o e).stay (fun _ _ _ z => z) (fun c z => ?_) (fun c xs z => ?_)
    · rw [ut_out (out z fun o => by unfold fz; exact fun e => nomatch e)]; exact z
    · rw [ut_out (out z fun o => by unfold fz; exact fun e => nomatch e)]; exact z
  | some o' => rw [ut_in q] at e; cases e
/-- .. behind it -/
theorem tr_ce (e0 : Env0 P w K mg base A outer s H) (hL : ∀ b o, L.lookup b = some o → H b = some (fz o)) (h : CE outer P w (Ut L H) s Q' u s') (q : ∀ v H', (∀ b o, L.lookup b = some o → H' b = none) → Q' v H' → Q v (Tr L H')) : CE outer P w H s Q u s' := by
  obtain ⟨v, H', os, bare, un, hok, r, qq⟩ := h
  have none_ : ∀ {b : Addr}, H b = none → L.lookup b = none := fun {b} e => by
    cases q : L.lookup b with
    | none => rfl
    | some o =>
      rw [hL b o q] at e
      cases e
  have out : ∀ {b : Addr} {u : HO}, H b = some u → (∀ o, u ≠ fz o) → L.lookup b = none := fun {b u} e n => by
    cases q : L.lookup b with
    | none => rfl
    | some o =>
      rw [hL b o q] at e
      exact absurd (Option.some.inj e).symm (n o)
  have hin : ∀ b o, L.lookup b = some o → H' b = none := fun b o e => un.free b o (fz_at e0.hok (hL b o e)) (ut_in e) (by simp)
  have out' : ∀ {b : Addr} {u : HO}, H' b = some u → L.lookup b = none := fun {b u} e => by
    cases q : L.lookup b with
    | none => rfl
    | some o =>
      rw [hin b o q] at e
      cases e
  refine ⟨v, Tr L H', os, bare, ⟨fun b o e n h1 h2 => ?_, fun b o e n h1 h2 => ?_, fun b o e n h2 => ?_, un.there, fun b xs e => ?_, fun b o x e => ?_, fun b ps e => ?_⟩, fun b o e => ?_, r, q v H' hin qq⟩
  · exact un.keep b o e (by rw [ut_out (none_ n)]; exact n) h1 h2
  · exact un.slot b o e (by rw [ut_out (none_ n)]; exact n) h1 h2
  · rw [tr_out (none_ n)]
    exact un.free b o e (by rw [ut_out (none_ n)]; exact n) h2
  · have z := out e fun o => by unfold fz; exact fun e => nomatch e
    rw [tr_out z]
    exact un.tups b xs (by rw [ut_out z]; exact e)
  · cases z : L.lookup b with
    | none =>
      rw [tr_out z]
      exact un.frzs b o x (by rw [ut_out z]; exact e)
    | some o' =>
      rw [tr_in z]
      rw [hL b o' z] at e
      exact e
  · have z := out e fun o => by unfold fz; exact fun e => nomatch e
    rw [tr_out z]
    exact un.tbls b ps (by rw [ut_out z]; exact e)
  · cases z : L.lookup b with
    | none =>
      rw [tr_out z] at e
      refine (hok b o e).stay (fun _ _ _ z => z) (fun c z => ?_) (fun c xs z => ?_)
      · rw [tr_out (out' z)]; exact z
      · rw [tr_out (out' z)]; exact z
    | some o' =>
      rw [tr_in z] at e
      cases e
      refine hok_fz (un.keep b o' (fz_at e0.hok (hL b o' z)) (ut_in z) (fun hb => ?_) (by simp))
      have := hL b o' z
      rw [e0.frf b hb] at this
      cases this
end

/-! ### lambda tree: ('use', (9999, 7), name, args) -/
abbrev lamN : List Str := ["tree", "name", "args"]
def tLamB : TE := tTup (tCons (tC (.str "use")) (tCons (tTup (tCons (tC (.int 9999)) (tCons (tC (.int 7)) tNil))) (tCons (tVar 1) (tCons (tVar 2) tNil))))
/-- the words of the lambda -/
structure LamW (params : Arguments) (body : Expr) (scope : Scope) : Prop where
  sc : NScope lamN ["tree"] ["name", "args"] scope
  bind : ∀ (q : Str) (cl : List (Str × Addr)) (pm cv ctv u : Value), bindArgs (PySem.W.kla_fn "<lambda>" q params body scope cl pm cv ctv) ⟨[u], []⟩ = pure [(("tree" : Str), u)]
  run : ∀ X : Cx, X.N = lamN → X.env.scope = scope → PE X body tLamB
/-- a lambda's object at f, made where name is z, args the trees ts -/
def Deed (H : Hp) (f : Addr) (z : Str) (ts : List T) : Prop := ∃ (q : Str) (params : Arguments) (body : Expr) (scope : Scope) (cl : List (Str × Addr)) (pm ctv : Value) (c' nc ac aa : Addr) (on oa : Obj) (tz : Tok) (xs : List V),
  LamW params body scope ∧ H f = some (fz (PySem.W.kla_obj "<lambda>" q params body scope cl pm c' ctv)) ∧ H c' = some (CodeO c' q) ∧ cl.lookup ("name" : Str) = some nc ∧ cl.lookup ("args" : Str) = some ac ∧ (∀ y c, cl.lookup y = some c → y = ("name" : Str) ∨ y = ("args" : Str)) ∧ nc ≠ ac ∧
  H nc = some (fz on) ∧ on.data = .cell (some (.str z tz)) ∧ H ac = some (fz oa) ∧ oa.data = .cell (some (.ref aa)) ∧ H aa = some (.tup xs) ∧ TsAt H ts xs
theorem Deed.same {H H' : Hp} {f : Addr} {z : Str} {ts : List T} (d : Deed H f z ts) (s : Same H H') : Deed H' f z ts := by
  obtain ⟨q, params, body, scope, cl, pm, ctv, c', nc, ac, aa, on, oa, tz, xs, h1, h2, h3, h4, h5, h6, h7, h8, h9, h10, h11, h12, h13⟩ := d
  exact ⟨q, params, body, scope, cl, pm, ctv, c', nc, ac, aa, on, oa, tz, xs, h1, s _ _ h2, s _ _ h3, h4, h5, h6, h7, s _ _ h8, h9, s _ _ h10, h11, s _ _ h12, TsAt.mono (KT.of s) h13⟩
section
variable {P : Program} {w : World} {K : PySem.W.Frag} {mg : Str → Option Value} {base : Heap} {A : Around} {outer : List Env} {s s' : Shared} {Q Q' : VK} {u : Value} {H : Hp} {f : Addr} {z : Str} {ts : List T} {k : Nat} {E : XK}
theorem Deed.fn (d : Deed H f z ts) (ok : HOk P w H s.heap) : PySem.W.FnAt f s.heap := by
  obtain ⟨q, params, body, scope, cl, pm, ctv, c', nc, ac, aa, on, oa, tz, xs, h1, h2, _⟩ := d
  exact ⟨_, _, _, _, fz_at ok h2⟩
theorem deed_run (hr : Room (k + 1) A) (e0 : Env0 P w K mg base A outer s H) (d : Deed H f z ts) {v : V} (rv : L2.RelV v u) (hq : ∀ v' H', Same H H' → TAt H' (.mk (.use z) 9999 7 ts) v' → Q v' H') : codeAny (model P w) A (.call (.ref f) ⟨[u], []⟩) (CR CX0 outer P w H s Q E) s := by
  obtain ⟨q, params, body, scope, cl, pm, ctv, c', nc, ac, aa, on, oa, tz, xs, W, h2, h3, h4, h5, h6, h7, h8, h9, h10, h11, h12, h13⟩ := d
  have hL : ∀ b o, [(nc, on), (ac, oa)].lookup b = some o → H b = some (fz o) := fun b o e => by
    by_cases e1 : b = nc
    · rw [e1, List.lookup_cons_self] at e
      cases e
      rw [e1]
      exact h8
    · rw [List.lookup_cons, beq_false_of_ne e1] at e
      by_cases e2 : b = ac
      · rw [e2] at e
        have e : List.lookup ac [(ac, oa)] = some o := e
        rw [List.lookup_cons_self] at e
        cases e
        rw [e2]
        exact h10
      · have e : List.lookup b [(ac, oa)] = some o := e
        rw [List.lookup_cons, beq_false_of_ne e2] at e
        cases e
  have neF : ∀ {b : Addr} {u : HO}, H b = some u → (∀ o, u ≠ fz o) → [(nc, on), (ac, oa)].lookup b = none := fun {b u} e n => by
    cases q : [(nc, on), (ac, oa)].lookup b with
    | none => rfl
    | some o =>
      rw [hL b o q] at e
      exact absurd (Option.some.inj e).symm (n o)
  have e1 := ut_env0 e0 hL
  have of1 := fz_at e0.hok h2
  have un : ∀ b, b = nc ∨ b = ac → Ut [(nc, on), (ac, oa)] H b = none := fun b hb => by
    rcases hb with rfl | rfl
    · exact ut_in (o := on) List.lookup_cons_self
    · by_cases e : b = nc
      · exact absurd e.symm h7
      · exact ut_in (o := oa) (by rw [List.lookup_cons, beq_false_of_ne e]; exact List.lookup_cons_self)
  have hcn : s.heap.IsCell nc (some (.str z tz)) := ⟨on, fz_at e0.hok h8, h9⟩
  have hca : s.heap.IsCell ac (some (.ref aa)) := ⟨oa, fz_at e0.hok h10, h11⟩
  have nameargs : ∀ y c, cl.lookup y = some c → (y = ("name" : Str) ∧ c = nc) ∨ (y = ("args" : Str) ∧ c = ac) := fun y c e => by
    rcases h6 y c e with r | r
    · subst r; rw [h4] at e; cases e; exact .inl ⟨rfl, rfl⟩
    · subst r; rw [h5] at e; cases e; exact .inr ⟨rfl, rfl⟩
  have C : CellsAt cl ["name", "args"] [some (.str z), some (.ref aa)] s.heap (Ut [(nc, on), (ac, oa)] H) := by
    refine ⟨rfl, fun y c e => ?_, fun x y c ex ey => ?_, fun i y e => ?_⟩
    · rcases nameargs y c e with ⟨_, rfl⟩ | ⟨_, rfl⟩
      · exact ⟨un _ (.inl rfl), _, hcn⟩
      · exact ⟨un _ (.inr rfl), _, hca⟩
    · rcases nameargs x c ex with ⟨rfl, h⟩ | ⟨rfl, h⟩ <;> rcases nameargs y c ey with ⟨rfl, h'⟩ | ⟨rfl, h'⟩
      · rfl
      · exact absurd (h.symm.trans h') h7
      · exact absurd (h'.symm.trans h) h7
      · rfl
    · match i, e with
      | 0, e =>
        cases e
        exact ⟨nc, h4, fun v e => by cases e; exact ⟨.str z tz, ⟨tz, rfl⟩, hcn⟩⟩
      | 1, e =>
        cases e
        exact ⟨ac, h5, fun v e => by cases e; exact ⟨.ref aa, rfl, hca⟩⟩
  have rc : codeAny (model P w) A (.call (.ref f) ⟨[u], []⟩) (CR CX0 outer P w (Ut [(nc, on), (ac, oa)] H) s (fun v' H' => Same (Ut [(nc, on), (ac, oa)] H) H' ∧ TAt H' (.mk (.use z) 9999 7 ts) v') E) s := by
    refine PySem.W.kla_callFunE hr.depth of1 rfl W.sc.co W.sc.gen rfl (codeO_at e0.hok h3) ?_
    rw [W.bind]
    have lim : s.heap.NoLimit := e0.mod.nolimit.keeps fun b o e => (e0.bs b o e).1
    refine wpAny_pure (wpAny_newFunctionEnv W.sc.nocell (fun ⟨n, _⟩ hy => W.sc.par n (by cases List.mem_singleton.mp hy; exact List.mem_cons_self)) (fun h₁ hns hsb => ⟨lim.fresh _ hsb, ?_⟩) W.sc.kind)
    have kp : ∀ b o, s.heap.get? b = some o → h₁.get? b = some o := fun b o e => hsb.extBut b o (Nat.ne_of_lt (Heap.lt_size e)) (Heap.get?_push_of_some _ e)
    show codeAny _ _ (.expr body (envF ⟨"<lambda>", q, params, [], scope, cl, c'⟩ f s.heap.objs.size)) _ _
    have I := inv_startN (CX := CX0) (F := ⟨"<lambda>", q, params, [], scope, cl, c'⟩) (f := f) (E := E) (vs := [v]) (us := [u]) (N := lamN) (tk := s.toks + ([("tree", u)] : List (Str × Value)).length) W.sc hr.hd e1 rfl (.cons rv .nil) C hns kp
    refine PySem.W.kla_codeExpr (wpAny_mono ((W.run _ rfl rfl).run [] _ _ _ (fun v' H' => Same (Ut [(nc, on), (ac, oa)] H) H' ∧ TAt H' (.mk (.use z) 9999 7 ts) v') I ?_) (fun u' s' hq => ?_) fun e s' hq => hq)
    · have haa : Ut [(nc, on), (ac, oa)] H aa = some (.tup xs) := by
        rw [ut_out (neF h12 fun o => by unfold fz; exact fun e => nomatch e)]
        exact h12
      have hts : TsAt (Ut [(nc, on), (ac, oa)] H) ts xs := TsAt.mono (fun b ys e => by
        rw [ut_out (neF e fun o => by unfold fz; exact fun e => nomatch e)]
        exact e) h13
      generalize Ut [(nc, on), (ac, oa)] H = H0 at haa hts
      refine ⟨line9 (by show 2 ≤ 1000; decide), fun b1 nb1 => ⟨_, rfl, _, rfl, line9 (by show 4 ≤ 1000; decide), fun b2 nb2 => ?_⟩⟩
      have s1 := same_new (o := .tup [V.int 9999, .int 7]) nb1
      have s2 := same_new (o := .tup [V.str "use", .ref b1, .str z, .ref aa]) nb2
      exact ⟨s1.trans s2, TAt.mk (pv := .ref b1) (vs := xs) ⟨b1, rfl, s2 _ _ upd_same⟩ ⟨.ref aa, ⟨aa, rfl, s2 _ _ (s1 _ _ haa)⟩, b2, rfl, upd_same⟩ (TsAt.mono (KT.of (s1.trans s2)) hts)⟩
    · obtain ⟨w', H', J, rv, qq⟩ := hq
      exact ⟨w', H', J.os, J.bare, J.base, J.hok, rv, qq⟩
  refine codeAny_mono rc fun r s' hq' => ?_
  cases r with
  | error e => exact (show False from hq').elim
  | ok fl =>
    cases fl with
    | ret u =>
      refine tr_ce e0 hL hq' fun v' H' hn ⟨ss, ta⟩ => hq v' _ (fun b o e => ?_) (TAt.mono (fun b xs e => ?_) ta)
      · cases q : [(nc, on), (ac, oa)].lookup b with
        | none =>
          rw [tr_out q]
          exact ss b o (by rw [ut_out q]; exact e)
        | some o' =>
          rw [tr_in q]
          rw [hL b o' q] at e
          exact e
      · cases q : [(nc, on), (ac, oa)].lookup b with
        | none => rw [tr_out q]; exact e
        | some o' => rw [hn b o' q] at e; cases e
    | next => exact False.elim hq'
    | brk => exact False.elim hq'
    | cont => exact False.elim hq'
end
/-- deed(tree) -/
def tDeed (i : Nat) (t : TA) : TE := fun σ H Q => ∃ f z ts, σ[i]? = some (some (.ref f)) ∧ Deed H f z ts ∧ t σ H fun vs H1 => ∃ v, vs = [v] ∧ Deed H1 f z ts ∧ ∀ v' H', Same H1 H' → TAt H' (.mk (.use z) 9999 7 ts) v' → Q v' H'
theorem pe_deed {X : Cx} {i k : Nat} {x : Str} {e : Expr} {t : TA} {p pos : Pos} (hr : Room k X.A) (hk : 1 ≤ k) (hN : X.N[i]? = some x) (hv : Vis X.env.scope x) (ha : PA X [e] t) (hd : (x == ("__debug__" : Str)) = false := by decide) (hcd : (x == ("__classdict__" : Str)) = false := by decide)
    (he : starEach [e] X.env = (false, eval e X.env) :: starEach [] X.env := by rfl) (hpl : (backTo pos (starEach ([] : List Expr) X.env)).any (·.1) = false := by rfl) : PE X (.Call (.Name x p) [e] [] pos) (tDeed i t) := by
  refine ⟨fun pins s σ H Q I h => ?_⟩
  obtain ⟨f, z, ts, hs, D, ht⟩ := h
  refine wpAny_Call_Name_kw (thn ((pe_var (pos := p) hN hv hd hcd).run pins s σ H (fun v H1 => v = .ref f ∧ H1 = H) I ⟨.ref f, hs, rfl, rfl⟩) fun u s1 ⟨v, H1, I1, r1, q1⟩ => ?_)
  obtain ⟨ev, eH⟩ := q1
  subst ev
  rw [eH] at I1
  obtain rfl : u = Value.ref f := r1
  refine PySem.W.callWith_F (first := []) (D.fn I1.hok) (thn (ha.run pos pins s1 σ H _ I1 ht) fun us s2 ⟨vs, H2, I2, r, v2, ev, D2, q⟩ => ⟨D2.fn I2.hok, ?_⟩) he hpl
  subst ev
  obtain ⟨u2, us2, rfl, rv, rn⟩ : ∃ u2 us2, us = u2 :: us2 ∧ L2.RelV v2 u2 ∧ Vals [] us2 := by
    cases r with
    | cons a b => exact ⟨_, _, rfl, a, b⟩
  cases rn
  show wpAny _ _ (call (.ref f) [u2]) _ _ _
  refine wpAny_call (codeAny_mono (deed_run (k := 0) (E := E0) (hr.mono hk) I2.env0 D2 rv q) fun r s' hq => ?_)
  cases r with
  | error e => exact (show False from hq).elim
  | ok fl =>
    cases fl with
    | ret u => exact I2.after hq
    | next => exact False.elim hq
    | brk => exact False.elim hq
    | cont => exact False.elim hq
end Tp
set_option Elab.async false
set_option linter.all false
set_option maxRecDepth 100000
set_option maxHeartbeats 4000000
/-! The law's change of a tree at a number. -/
namespace Tp
open PySem PySem.Spec PyProof.Rows L2
abbrev sLawChanged : Stmt := topS 42
abbrev nLawChanged : List Str := ["tree", "at", "deed", "trees", "first", "one", "many"]
theorem scLawChanged : FnScope nLawChanged ["tree", "at", "deed"] (defScope sLawChanged) := ⟨rfl, rfl, rfl, by decide +kernel, rfl, by decide +kernel, by decide +kernel⟩
theorem chgL_get (r : T) : ∀ {ts : List T} {i k : Nat} {t : T}, ts[i]? = some t → (chgL r ts k)[i]? = some (if cntL (ts.take i) ≤ k ∧ k < cntL (ts.take i) + cnt t then chg r t (k - cntL (ts.take i)) else t)
  | [], i, k, t, h => by simp at h
  | u :: ts, 0, k, t, h => by
    obtain rfl : u = t := Option.some.inj h
    rw [chgL_cons, List.take_zero, cntL_nil, Nat.zero_add, Nat.sub_zero]
    by_cases e : k < cnt u
    · rw [if_pos e, if_pos ⟨Nat.zero_le _, e⟩] <;> rfl
    · rw [if_neg e, if_neg fun h => e h.2] <;> rfl
  | u :: ts, i + 1, k, t, h => by
    have h : ts[i]? = some t := h
    rw [chgL_cons, List.take_succ_cons, cntL_cons]
    by_cases e : k < cnt u
    · rw [if_pos e, if_neg (fun z => by omega)]
      exact h
    · rw [if_neg e]
      show (chgL r ts (k - cnt u))[i]? = _
      rw [chgL_get r h]
      by_cases e2 : cntL (ts.take i) ≤ k - cnt u ∧ k - cnt u < cntL (ts.take i) + cnt t
      · rw [if_pos e2, if_pos (by omega), show k - (cnt u + cntL (ts.take i)) = k - cnt u - cntL (ts.take i) by omega]
      · rw [if_neg e2, if_neg (by omega)]
section
variable {P : Program} {w : World} {K : PySem.W.Frag} {mg : Str → Option Value} {base : Heap} {ka oa : Addr} {tl tn tp td te : Tok}
def spLawChanged (n : Nat) : Sp := fun vs H Q _ => ∃ (v : V) (t : T) (k : Nat) (f : Addr) (z : Str) (ts : List T), vs = [v, .int (k : Int), .ref f] ∧ TAt H t v ∧ TOk n t ∧ k < cnt t ∧ Deed H f z ts ∧ ∀ v' H', Same H H' → TAt H' (chg (.mk (.use z) 9999 7 ts) t k) v' → Q v' H'
theorem dn_law_changed (A : At K mg "_law_changed" sLawChanged ["tree", "at", "deed"]) (B : Bt mg) (DLawSubs : Dn P w K mg base "_law_subs" 1 ["tree"] spLawSubs) (hC : ∀ n, Dn P w K mg base "_law_count" (n + 1) ["tree"] (spLawCount n)) (DLawWith : Dn P w K mg base "_law_with" 1 ["tree", "trees"] spLawWith) : ∀ n, Dn P w K mg base "_law_changed" (n + 2) ["tree", "at", "deed"] (spLawChanged n)
  | 0 => A.none fun vs H Q E h => by
    obtain ⟨v, t, k, f, z, ts, _, _, h, _⟩ := h
    exact h
  | n + 1 => by
    have DLawChanged := dn_law_changed A B DLawSubs hC DLawWith n
    have DLawCount := hC n
    refine A.dn fun f fd F => F.ok scLawChanged (fun vs H Q E h => ?_) (fun cdv A outer s H vs Q E hr h => ?_)
    · obtain ⟨v, t, k, f, z, ts, rfl, _⟩ := h
      rfl
    obtain ⟨v, t, k, g, z, rs, rfl, ht, hk, hkc, D, q⟩ := h
    refine ⟨_, (pss_cons (ps_if (pt_cmpR op_eq (pv 1) pe_int (nomark _))
     (pss_one (ps_ret (pe_deed (i := 2) hr (by omega) (by rfl) (.inl rfl) (pa_cons (pv 0) pa_nil))))
     pss_nil)
     (pss_cons (ps_set (i := 3) scLawChanged.nd rfl (.inl rfl) (pe_lst pa_nil))
     (pss_cons (ps_set (i := 4) scLawChanged.nd rfl (.inl rfl) pe_int)
     (pss_cons (ps_for PassesOwn.never rfl (pi_list (pe_dn DLawSubs hr (by omega) (by rfl) (pa_cons (pv 0) pa_nil))) (pg_name (i := 5) scLawChanged.nd rfl (.inl rfl))
     (pss_cons (ps_set (i := 6) scLawChanged.nd rfl (.inl rfl) (pe_dn DLawCount hr (by omega) (by rfl) (pa_cons (pv 5) pa_nil)))
     (pss_cons (ps_expr (pe_bm PySem.F.plainAttrs_list PySem.F.slot_list_append PySem.F.type_list_append mt_append (pv 3) (pa_cons (pe_ifExp (PW.pt (pw_and (pt_cmpR op_le (pv 4) (pv 1) (nomark _)) (pw_and1 (pt_cmpR op_lt (pv 1) (pe_op op_add (pv 4) (pv 6)) (nomark _))))) (pe_dn DLawChanged hr (by omega) (by rfl) (pa_cons (pv 5) (pa_cons (pe_op op_sub (pv 1) (pv 4)) (pa_cons (pv 2) pa_nil)))) (pv 5)) pa_nil)))
     (pss_one (ps_set (i := 4) scLawChanged.nd rfl (.inl rfl) (pe_op op_add (pv 4) (pv 6)))))))
     (pss_one (ps_ret (pe_dn DLawWith hr (by omega) (by rfl) (pa_cons (pv 0) (pa_cons (pv 3) pa_nil))))))))), ?_⟩
    refine ⟨_, rfl, rfl, _, rfl, ?_⟩
    cases k with
    | zero =>
      refine iteD rfl ⟨g, z, rs, rfl, D, _, rfl, v, rfl, D, fun v' H' ss ta => q v' H' ss ?_⟩
      rw [chg_zero]
      exact ta
    | succ k =>
      obtain ⟨d, p0, q0, ts⟩ := t
      refine iteN (fun e => by simp at e; omega) ?_
      have ht0 := ht
      rw [tat_mk] at ht0
      obtain ⟨y, cs0, hp, hd, hts⟩ := ht0
      have hl0 := hts.len
      obtain ⟨g1, g2, g3⟩ := hk
      have h4 := g2.le
      rw [cnt_mk] at hkc
      have hall : ∀ i t, ts[i]? = some t → cntL (ts.take i) + cnt t ≤ cntL ts := fun i t e => by
        have h1 : ts.take (i + 1) = ts.take i ++ [t] := by rw [List.take_add_one, e]; rfl
        have h2 : cntL (ts.take (i + 1)) + cntL (ts.drop (i + 1)) = cntL ts := by rw [← cntL_append, List.take_append_drop]
        rw [h1, cntL_append, cntL_cons, cntL_nil] at h2
        omega
      refine ⟨line9 (by show 0 ≤ 1000; decide), fun D0 nD => ⟨_, rfl, v, _, rfl, TAt.mono (KT.of (same_new nD)) ht, fun l cs H2 s2 nl hl hcs => ?_⟩⟩
      have hcs : TsAt H2 ts cs := hcs
      have hcl := hcs.len
      have s1 := same_new (o := .lst []) nD
      have hD2 := s2 _ _ (upd_same (H := H) (a := D0) (o := .lst []))
      have nlD : l ≠ D0 := fun e => by rw [e, upd_same] at nl; cases nl
      have nlH : H l = none := s1.none nl
      refine ⟨l, rfl, ⟨cs, SqL.of hl⟩, ?_⟩
      refine for_list (xs := cs) (fun i σ Hc => ∃ us x5 x6, σ = [some v, some (.int ((k + 1 : Nat) : Int)), some (.ref g), some (.ref D0), some (.int ((1 + cntL (ts.take i) : Nat) : Int)), x5, x6] ∧ Same H Hc ∧ KT H2 Hc ∧ Hc l = some (.lst cs) ∧ Hc D0 = some (.lst us) ∧ TsAt Hc ((chgL (.mk (.use z) 9999 7 rs) ts k).take i) us) ?_ (fun i σ Hc _ p => ?_) (fun i x σ Hc hx p => ?_) fun σ Hc p => ?_
      · exact ⟨[], none, none, rfl, s1.trans s2, fun _ _ h => h, hl, hD2, by rw [List.take_zero]; exact TsAt.nil⟩
      · obtain ⟨_, _, _, _, _, _, hlc, _⟩ := p
        exact SqL.of hlc
      · obtain ⟨us, x5, x6, rfl, s3, k3, hlc, hDc, hus⟩ := p
        have hul := hus.len
        rw [List.length_take, chgL_len] at hul
        obtain ⟨t, ht1, hta⟩ := hcs.get hx
        have htc := hta.mono k3
        have hsum := hall i t ht1
        have htk := g3 t (List.mem_of_getElem? ht1)
        have hget := chgL_get (.mk (.use z) 9999 7 rs) (k := k) ht1
        have ha := cnt_pos t
        refine ⟨_, rfl, x, t, rfl, htc, htk, fun H4 s4 => ⟨_, rfl, .inl ⟨rfl, _, SqL.of (s4 _ _ hDc)⟩, ?_⟩⟩
        have fin : ∀ (v2 : V) (H5 : Hp), Same H4 H5 → TAt H5 (if cntL (ts.take i) ≤ k ∧ k < cntL (ts.take i) + cnt t then chg (.mk (.use z) 9999 7 rs) t (k - cntL (ts.take i)) else t) v2 → ∃ us' x5 x6, [some v, some (.int ((k + 1 : Nat) : Int)), some (.ref g), some (.ref D0), some (.int (((1 + cntL (ts.take i) : Nat) : Int) + ((cnt t : Nat) : Int))), some x, some (.int ((cnt t : Nat) : Int))] = [some v, some (.int ((k + 1 : Nat) : Int)), some (.ref g), some (.ref D0), some (.int ((1 + cntL (ts.take (i + 1)) : Nat) : Int)), x5, x6] ∧ Same H (upd H5 D0 (.lst (us ++ [v2]))) ∧ KT H2 (upd H5 D0 (.lst (us ++ [v2]))) ∧ upd H5 D0 (.lst (us ++ [v2])) l = some (.lst cs) ∧ upd H5 D0 (.lst (us ++ [v2])) D0 = some (.lst us') ∧ TsAt (upd H5 D0 (.lst (us ++ [v2]))) ((chgL (.mk (.use z) 9999 7 rs) ts k).take (i + 1)) us' := fun v2 H5 s5 hv2 => by
          have hD5 := s5 _ _ (s4 _ _ hDc)
          have k5 := kt_updL (o := .lst (us ++ [v2])) hD5
          have e1 : ((1 + cntL (ts.take i) : Nat) : Int) + ((cnt t : Nat) : Int) = ((1 + cntL (ts.take (i + 1)) : Nat) : Int) := by
            rw [List.take_add_one, ht1]
            show _ = ((1 + cntL (ts.take i ++ [t]) : Nat) : Int)
            rw [cntL_append, cntL_cons, cntL_nil]
            omega
          refine ⟨us ++ [v2], _, _, by rw [e1], same_over (o := .lst []) nD ((s3.trans s4).trans s5), fun b ys e => k5 b ys (s5 _ _ (s4 _ _ (k3 b ys e))), ?_, upd_same, ?_⟩
          · rw [upd_ne nlD]
            exact s5 _ _ (s4 _ _ hlc)
          · rw [List.take_add_one, hget]
            exact TsAt.mono k5 (TsAt.app (TsAt.mono (KT.of (s4.trans s5)) hus) (TsAt.cons hv2 TsAt.nil))
        have sm : ∀ o : HO, Same H4 H4 := fun _ _ _ h => h
        refine ⟨_, rfl, _, rfl, _, _, rfl, rfl, _, rfl, ite2D (fun h1 => ⟨_, rfl, _, rfl, _, rfl, _, _, rfl, rfl, _, _, rfl, rfl, _, rfl, ite2D (fun h2 => ?_) fun h2 => ?_⟩) fun h1 => iteF ?_⟩
        · refine ⟨_, rfl, _, rfl, _, rfl, _, _, rfl, rfl, _, rfl, x, t, k - cntL (ts.take i), g, z, rs, ?_, htc.mono (KT.of s4), htk, by omega, D.same (s3.trans s4), fun v2 H5 s5 hv2 => ?_⟩
          · have e : ((k + 1 : Nat) : Int) - ((1 + cntL (ts.take i) : Nat) : Int) = ((k - cntL (ts.take i) : Nat) : Int) := by omega
            rw [← e]
          · refine ⟨D0, us, _, rfl, rfl, s5 _ _ (s4 _ _ hDc), line9' (by omega), _, rfl, _, rfl, _, _, rfl, rfl, fin v2 H5 s5 ?_⟩
            rw [if_pos (by omega)]
            exact hv2
        · refine ⟨_, rfl, D0, us, _, rfl, rfl, s4 _ _ hDc, line9' (by omega), _, rfl, _, rfl, _, _, rfl, rfl, fin x H4 (fun _ _ h => h) ?_⟩
          rw [if_neg (by omega)]
          exact htc.mono (KT.of s4)
        · refine ⟨_, rfl, D0, us, _, rfl, rfl, s4 _ _ hDc, line9' (by omega), _, rfl, _, rfl, _, _, rfl, rfl, fin x H4 (fun _ _ h => h) ?_⟩
          rw [if_neg (by omega)]
          exact htc.mono (KT.of s4)
      · obtain ⟨us, x5, x6, rfl, s3, k3, hlc, hDc, hus⟩ := p
        rw [hcl, List.take_of_length_le (by rw [chgL_len]; exact Nat.le_refl _)] at hus
        have hul := hus.len
        rw [chgL_len] at hul
        refine ⟨_, rfl, _, rfl, v, d, y, cs0, D0, us, rfl, hd.mono (KT.of s3), hDc, by omega, by omega, fun v' H' s4 nd => q v' H' (s3.trans s4) ?_⟩
        rw [chg_succ]
        exact TAt.mk (Row.mono (KT.of (s3.trans s4)) hp) nd (TsAt.mono (KT.of s4) hus)
end
end Tp
set_option Elab.async false
set_option linter.all false
set_option maxRecDepth 100000
set_option maxHeartbeats 4000000
/-! in of a tuple with texts, numbers and tuples; the lambda made and handed over. -/
namespace Tp
open PySem PySem.Spec PyProof.Rows L2 LamX NdefX
/-! ### a text in a mixed tuple -/
def isS (z : Str) : V → Bool
  | .str y => y == z
  | _ => false
def isSV (z : Str) : Value → Bool
  | .str y _ => y == z
  | _ => false
def rInM : R2 := fun x y H Q => ∃ z p xs, x = .str z ∧ y = .ref p ∧ H p = some (.tup xs) ∧ (∀ v ∈ xs, ItemOk H v) ∧ Q (.bl (xs.any (isS z))) H
theorem any_mix {H : Hp} {z : Str} : ∀ {xs : List V} {us : List Value}, Vals xs us → (∀ v ∈ xs, ItemOk H v) → us.any (isSV z) = xs.any (isS z)
  | _, _, .nil, _ => rfl
  | x :: xs, u :: us, .cons r t, h => by
    rw [List.any_cons, List.any_cons, any_mix t fun v hv => h v (List.mem_cons_of_mem _ hv)]
    congr 1
    rcases h x List.mem_cons_self with ⟨n, rfl⟩ | ⟨y, rfl⟩ | ⟨a, ys, rfl, _⟩
    · obtain ⟨t, rfl⟩ := r; rfl
    · obtain ⟨t, rfl⟩ := r; rfl
    · cases r; rfl
theorem op_inM {X : Cx} (hu : X.A.units + 1 < cLine) : OpR X (compareOp .In) rInM := by
  intro pins s σ H x y v u Q I rx ry h
  obtain ⟨z, p, xs, rfl, rfl, hp, hi, q⟩ := h
  cases ry
  obtain ⟨t, rfl⟩ := rx
  obtain ⟨its, r, pl, hz⟩ := I.tuple (SqT.of hp)
  refine SeqAt.in_tupleAt (isSV z) pl (fun w hw => ?_) ⟨.bl _, H, I, rfl, ?_⟩
  · have hw : w ∈ its := by simpa using hw
    have key : ∀ {xs : List V} {us : List Value}, Vals xs us → (∀ v ∈ xs, ItemOk H v) → ∀ w ∈ us, SeqAt.EqAt X.A.in1 s w (.str z t) (isSV z w) := by
      intro xs us r
      induction r with
      | nil => intro _ w hw; cases hw
      | cons r1 r2 ih =>
        intro hi w hw
        rcases List.mem_cons.mp hw with rfl | hw
        · rcases hi _ List.mem_cons_self with ⟨n, rfl⟩ | ⟨y, rfl⟩ | ⟨a, ys, rfl, ha⟩
          · obtain ⟨t2, rfl⟩ := r1
            exact SeqAt.EqAt.int_str n t2 z t
          · obtain ⟨t2, rfl⟩ := r1
            exact SeqAt.EqAt.str_str y t2 z t
          · cases r1
            obtain ⟨its2, _, pl2, _⟩ := I.tuple (SqT.of ha)
            exact SeqAt.EqAt.tuple_str z t pl2 hu
        · exact ih (fun v hv => hi v (List.mem_cons_of_mem _ hv)) w hw
    exact key r hi w hw
  · rw [show its.toArray.any (isSV z) = its.any (isSV z) by simp, any_mix r hi]
    exact q
/-! ### the lambda is made -/
section
variable {X : Cx} {pins : List (Addr × Obj)} {σ : L2.St} {H : Hp} {s : Shared}
theorem inv_lam {o : Obj} {t' : Nat} (I : Inv X pins σ H s) (hf : o.isFreed = false) : Inv X pins σ (upd H s.heap.objs.size (fz o)) { s with heap := s.heap.push o, toks := t' } :=
  I.laid (a := s.heap.objs.size) (fun b u e => Heap.get?_push_of_some _ e) (Nat.le_refl _) (hok_fz (Heap.get?_push_size _ hf))
theorem lam_make3 {T : List (Addr × Str)} {c P : Addr} {params : Arguments} {body : Expr} {scope : Scope} {pos : Pos} {E : Value → Shared → Prop} {Q : Value → Shared → Prop} (I : Inv X pins σ H s) (TB : TabB X.base X.mg c P) (hcode : X.env.code = .ref c)
    (hm : (P, X.env.qual ++ "<lambda>") ∈ T) (hu : ∀ p ∈ T, p.1 = P → p.2 = X.env.qual ++ "<lambda>") (hT : Tabs T H) (hdef : defaultsOf params X.env = ([], [])) (hfree : ∀ y ∈ scope.names, y.2 = .free → ∃ c, X.env.cells.lookup y.1 = some c)
    (h : ∀ (f c' : Addr) (pm ctv : Value) (H1 : Hp) (s' : Shared), Inv X pins σ H1 s' → ExtN H H1 → Tabs T H1 →
      H1 f = some (fz (PySem.W.kla_obj "<lambda>" (X.env.qual ++ "<lambda>") params body scope (cloFrom X.env.cells scope.names []) pm c' ctv)) → H1 c' = some (CodeO c' (X.env.qual ++ "<lambda>")) → Q (.ref f) s') :
    wpAny (model X.prog X.w) X.A (eval (.Lambda params body scope pos) X.env) Q E s := by
  obtain ⟨ps, hP, ht, ha⟩ := hT _ hm
  refine PySem.W.kla_eval hdef ?_
  have bP : s.heap.BuiltinsAt X.mg P := TB.bm.keeps I.bk
  have hP' : s.heap.get? P = some { cls := .none, data := .fields ps } := I.hok P _ hP
  cases hc : codeAmong pos ps.toList with
  | none =>
    refine PySem.W.kla_makeFunction (mg := X.mg) (c := c) (P := P) (ps := ps) (closure_ok hfree) I.ok.glob (I.mod.glob.keeps I.bk) hcode (TB.code.keeps I.bk) hP' ht hc TB.gP bP fun c' ctv h' tk hx hge hlt hrec htb => ?_
    obtain ⟨c2, oc, vs, t, e2, hoc, hd, hv⟩ := hrec
    cases e2
    have nC : H c' = none := I.hok.fresh hge
    have I1 := inv_table (t' := tk) (more := #[rawInt pos.line, rawInt pos.col, .ref c']) (h' := h') I hP (fun b o hb e => hx b o hb e) htb hge ⟨oc, vs, t, hoc, hd, hv⟩
    have hE : ExtN H (upd (upd H P (.tbl (ps ++ #[rawInt pos.line, rawInt pos.col, .ref c']))) c' (CodeO c' (X.env.qual ++ "<lambda>"))) := fun b o e n => by
      rw [upd_ne (ne_of_none e nC), upd_ne (fun z => n ps (Option.some.inj (e.symm.trans (by rw [z]; exact hP))))]
      exact e
    have eL : (ps ++ #[rawInt pos.line, rawInt pos.col, .ref c']).toList = ps.toList ++ [rawInt pos.line, rawInt pos.col, .ref c'] := by simp
    have T1 : Tabs T (upd (upd H P (.tbl (ps ++ #[rawInt pos.line, rawInt pos.col, .ref c']))) c' (CodeO c' (X.env.qual ++ "<lambda>"))) := fun p hp => by
      by_cases hb : p.1 = P
      · rw [hu p hp hb, hb]
        refine ⟨_, by rw [upd_ne (ne_of_none hP nC), upd_same], by rw [eL]; exact PySem.TriplesOk_snoc _ _ _ _ ht, fun p' cv hcv => ?_⟩
        rw [eL] at hcv
        rcases among_app _ ht hcv with z | z
        · obtain ⟨c0, e1, e2⟩ := ha p' cv z
          exact ⟨c0, e1, hE _ _ e2 codeO_ne⟩
        · exact ⟨c', z, upd_same⟩
      · obtain ⟨ps', a1, a2, a3⟩ := hT p hp
        refine ⟨ps', by rw [upd_ne (ne_of_none a1 nC), upd_ne hb]; exact a1, a2, fun p' cv hcv => ?_⟩
        obtain ⟨c0, e1, e2⟩ := a3 p' cv hcv
        exact ⟨c0, e1, hE _ _ e2 codeO_ne⟩
    have nF := I1.hok.fresh (Nat.le_refl _)
    have I2 := inv_lam (t' := tk) (o := PySem.W.kla_obj "<lambda>" (X.env.qual ++ "<lambda>") params body scope (cloFrom X.env.cells scope.names []) ((X.mg "__name__").getD .none) c' ctv) I1 rfl
    refine h h'.objs.size c' _ _ _ _ I2 (fun b o e n => ?_) (T1.ext fun b o e => ?_) upd_same ?_
    · have e1 := hE b o e n
      exact (upd_ne (ne_of_none e1 nF)).trans e1
    · exact (upd_ne (ne_of_none e nF)).trans e
    · exact (upd_ne (Nat.ne_of_lt hlt)).trans upd_same
  | some cv =>
    obtain ⟨c', e, hco⟩ := ha pos cv hc
    subst e
    refine PySem.W.kla_makeFunctionHit (mg := X.mg) (c := c) (P := P) (ps := ps) (closure_ok hfree) I.ok.glob (I.mod.glob.keeps I.bk) hcode (TB.code.keeps I.bk) hP' ht hc bP fun ctv h' tk hx hsz => ?_
    have I1 : Inv X pins σ H { s with heap := h', toks := tk } := I.kept hx
    have nF : H h'.objs.size = none := I1.hok.fresh (Nat.le_refl _)
    have I2 := inv_lam (t' := tk) (o := PySem.W.kla_obj "<lambda>" (X.env.qual ++ "<lambda>") params body scope (cloFrom X.env.cells scope.names []) ((X.mg "__name__").getD .none) c' ctv) I1 rfl
    refine h h'.objs.size c' _ _ _ _ I2 (fun b o e n => ?_) (hT.ext fun b o e => ?_) upd_same ?_
    · exact (upd_ne (ne_of_none e nF)).trans e
    · exact (upd_ne (ne_of_none e nF)).trans e
    · exact (upd_ne (ne_of_none hco nF)).trans hco
end
/-- what a lambda made here is -/
def LamAt (X : Cx) (H : Hp) (f : Addr) (scope : Scope) (params : Arguments) (body : Expr) : Prop := ∃ (c' : Addr) (pm ctv : Value), H f = some (fz (PySem.W.kla_obj "<lambda>" (X.env.qual ++ "<lambda>") params body scope (cloFrom X.env.cells scope.names []) pm c' ctv)) ∧ H c' = some (CodeO c' (X.env.qual ++ "<lambda>"))
def tLamP (X : Cx) (T : List (Addr × Str)) (scope : Scope) (params : Arguments) (body : Expr) : TE := fun σ H Q => Tabs T H ∧ ∀ f H1, ExtN H H1 → Tabs T H1 → LamAt X H1 f scope params body → Q (.ref f) H1
theorem pe_lamP {X : Cx} {T : List (Addr × Str)} {c P : Addr} {params : Arguments} {body : Expr} {scope : Scope} {pos : Pos} (TB : TabB X.base X.mg c P) (hcode : X.env.code = .ref c)
    (hm : (P, X.env.qual ++ "<lambda>") ∈ T) (hu : ∀ p ∈ T, p.1 = P → p.2 = X.env.qual ++ "<lambda>") (hdef : defaultsOf params X.env = ([], [])) (hfree : ∀ y ∈ scope.names, y.2 = .free → X.env.scope.names.lookup y.1 = some .cell ∨ X.env.scope.names.lookup y.1 = some .free) :
    PE X (.Lambda params body scope pos) (tLamP X T scope params body) := by
  refine ⟨fun pins s σ H Q I h => ?_⟩
  obtain ⟨hT, h⟩ := h
  exact lam_make3 I TB hcode hm hu hT hdef (fun y hy e => (hfree y hy e).elim (fun z => I.ok.has _ (.inl z)) fun z => I.ok.has _ (.inr z)) fun f c' pm ctv H1 s' I1 eN T1 e1 e2 => ⟨.ref f, H1, I1, rfl, h f H1 eN T1 ⟨c', pm, ctv, e1, e2⟩⟩
/-- the change asked of a lambda made here -/
def tChg (X : Cx) (n : Nat) (scope : Scope) (params : Arguments) (body : Expr) (jn ja : Nat) (t : TA) : TE := fun σ H Q => t σ H fun vs H1 => ∃ (v : V) (tr : T) (k : Nat) (f : Addr) (z : Str) (aa : Addr) (xs : List V) (ts : List T), vs = [v, .int (k : Int), .ref f] ∧ TAt H1 tr v ∧ TOk n tr ∧ k < cnt tr ∧ LamAt X H1 f scope params body ∧
  σ[jn]? = some (some (.str z)) ∧ σ[ja]? = some (some (.ref aa)) ∧ H1 aa = some (.tup xs) ∧ TsAt H1 ts xs ∧ ∀ v' H', Same H1 H' → TAt H' (chg (.mk (.use z) 9999 7 ts) tr k) v' → Q v' H'
theorem pe_chg {X : Cx} {k j n jn ja : Nat} {scope : Scope} {params : Arguments} {body : Expr} {p pos lpos : Pos} {e e2 : Expr} {t : TA} (D : Dn X.prog X.w X.K X.mg X.base "_law_changed" k ["tree", "at", "deed"] (spLawChanged n)) (hr : Room j X.A) (hk : k ≤ j) (W : LamW params body scope) (hfn : X.fn = fun _ => true)
    (hfree : ∀ y ∈ scope.names, y.2 = .free → X.env.scope.names.lookup y.1 = some .cell ∨ X.env.scope.names.lookup y.1 = some .free) (hcn : X.env.scope.names.lookup ("name" : Str) = some .cell) (hca : X.env.scope.names.lookup ("args" : Str) = some .cell)
    (hjn : X.N[jn]? = some ("name" : Str)) (hja : X.N[ja]? = some ("args" : Str))
    (hg : Gl X "_law_changed") (ha : PA X (e :: [e2, .Lambda params body scope lpos]) t) (hdb : (("_law_changed" : Str) == ("__debug__" : Str)) = false := by decide) (he : starEach (e :: [e2, .Lambda params body scope lpos]) X.env = (false, eval e X.env) :: starEach [e2, .Lambda params body scope lpos] X.env := by rfl) (hpl : (backTo pos (starEach [e2, .Lambda params body scope lpos] X.env)).any (·.1) = false := by rfl) :
    PE X (.Call (.Name "_law_changed" p) (e :: [e2, .Lambda params body scope lpos]) [] pos) (tChg X n scope params body jn ja t) := by
  obtain ⟨g, fd, F, m, kp, b⟩ := D.ex
  refine ⟨fun pins s σ H Q I h => ?_⟩
  refine wpAny_Call_Name_kw (ld_glob I hg m ?_ hdb)
  refine PySem.W.callWith_K (h₀ := X.base) I.ok.mod.kin kp (thn (ha.run pos pins s σ H _ I h) fun us s1 ⟨vs, H1, I1, r, q⟩ => ⟨I1.kIn, ?_⟩) he hpl
  obtain ⟨v, tr, kk, f, z, aa, xs, ts, rfl, htr, hok, hkc, ⟨c', pm, ctv, hf, hco⟩, hsn, hsa, haa, hts, q⟩ := q
  -- the cells
  obtain ⟨mm, hns, hl⟩ := id I1.loc
  have cellOf : ∀ {i : Nat} {x : Str} {vv : V}, X.N[i]? = some x → σ[i]? = some (some vv) → X.env.scope.names.lookup x = some .cell → ∃ c o u, X.env.cells.lookup x = some c ∧ s1.heap.get? c = some o ∧ o.data = .cell (some u) ∧ L2.RelV vv u := fun {i x vv} e1 e2 e3 => by
    obtain ⟨u, ru, look⟩ := hl i x vv e1 e2 (.inr (.inl e3))
    rcases look with ⟨k1, _⟩ | ⟨_, c, e4, o, e5, e6⟩
    · have k1 : X.env.scope.names.lookup x = some .local := k1
      rw [e3] at k1
      cases k1
    · exact ⟨c, o, u, e4, e5, e6, ru⟩
  obtain ⟨nc, on, un, hn1, hn2, hn3, tz, rfl⟩ := cellOf hjn hsn hcn
  obtain ⟨ac, oa, ua, ha1, ha2, ha3, ra⟩ := cellOf hja hsa hca
  cases ra
  have nac : nc ≠ ac := fun e => by
    rw [e] at hn1
    have := I.ok.inj _ _ _ hn1 ha1
    exact absurd this (by decide)
  have cfact : ∀ {x : Str} {c : Addr}, X.env.cells.lookup x = some c → H1 c = none ∧ X.base.get? c = none ∧ c ∉ frs X.stack := fun {x c} e => by
    have hc := I.ok.cab x c (by rw [hfn]) e
    refine ⟨I1.freeC x c e, ?_, fun hb => ?_⟩
    · cases q : X.base.get? c with
      | none => rfl
      | some o => exact absurd (Heap.lt_size q) (Nat.not_lt.mpr (Nat.le_trans I.ok.bsz hc))
    · rcases List.mem_cons.mp (I1.stkSub c hb) with e2 | e2
      · exact I1.cne x c e e2
      · obtain ⟨_, o, ho, _⟩ := I.ok.funs.mem e2
        exact absurd (Heap.lt_size ho) (Nat.not_lt.mpr hc)
  have hL : ∀ b o, [(nc, on), (ac, oa)].lookup b = some o → s1.heap.get? b = some o ∧ H1 b = none ∧ X.base.get? b = none ∧ b ∉ frs X.stack := fun b o e => by
    by_cases e1 : b = nc
    · rw [e1, List.lookup_cons_self] at e
      cases e
      rw [e1]
      exact ⟨hn2, cfact hn1⟩
    · rw [List.lookup_cons, beq_false_of_ne e1] at e
      by_cases e2 : b = ac
      · rw [e2] at e
        have e : List.lookup ac [(ac, oa)] = some o := e
        rw [List.lookup_cons_self] at e
        cases e
        rw [e2]
        exact ⟨ha2, cfact ha1⟩
      · have e : List.lookup b [(ac, oa)] = some o := e
        rw [List.lookup_cons, beq_false_of_ne e2] at e
        cases e
  have out : ∀ {b : Addr} {u : HO}, H1 b = some u → [(nc, on), (ac, oa)].lookup b = none := fun {b u} e => by
    cases q : [(nc, on), (ac, oa)].lookup b with
    | none => rfl
    | some o =>
      rw [(hL b o q).2.1] at e
      cases e
  have sT : Same H1 (Tr [(nc, on), (ac, oa)] H1) := fun b o e => by rw [tr_out (out e)]; exact e
  have hfr : ∀ y ∈ scope.names, y.2 = .free → ∃ c, X.env.cells.lookup y.1 = some c := fun y hy e => (hfree y hy e).elim (fun z => I.ok.has _ (.inl z)) fun z => I.ok.has _ (.inr z)
  have inn : ∀ {x : Str} {c : Addr}, x ∈ (["name", "args"] : List Str) → X.env.cells.lookup x = some c → (cloFrom X.env.cells scope.names []).lookup x = some c := fun {x c} hx e => clo_has hfr (mem_of_lookup_some (W.sc.frk x hx)) e
  have dd : Deed (Tr [(nc, on), (ac, oa)] H1) f z ts := by
    refine ⟨X.env.qual ++ "<lambda>", params, body, scope, cloFrom X.env.cells scope.names [], pm, ctv, c', nc, ac, aa, on, oa, tz, xs, W, sT _ _ hf, sT _ _ hco, inn List.mem_cons_self hn1, inn (List.mem_cons_of_mem _ List.mem_cons_self) ha1, fun y c e => ?_, nac, tr_in List.lookup_cons_self, hn3, tr_in ?_, ha3, sT _ _ haa, TsAt.mono (KT.of sT) hts⟩
    · rcases cloFrom_mem (PySem.mem_of_lookup e) with hm | ⟨h1, h2⟩
      · cases hm
      · have := W.sc.free _ h1 rfl
        rcases List.mem_cons.mp this with e | e
        · exact .inl e
        · exact .inr (List.mem_singleton.mp e)
    · rw [List.lookup_cons, beq_false_of_ne (Ne.symm nac)]
      exact List.lookup_cons_self
  refine wpAny_call (codeAny_mono (F.run X.A X.stack s1 (Tr [(nc, on), (ac, oa)] H1) ⟨us, []⟩ us _ (fun v' H' => Same (Tr [(nc, on), (ac, oa)] H1) H' ∧ TAt H' (chg (.mk (.use z) 9999 7 ts) tr kk) v') E0 (hr.mono hk) (tr_env0 I1.env0 hL) ?_ r ⟨v, tr, kk, f, z, ts, rfl, TAt.mono (KT.of sT) htr, hok, hkc, dd, fun v' H' ss ta => ⟨ss, ta⟩⟩) fun r s' hq => ?_)
  · have := b s1 us I1.kIn (by rw [List.append_nil, ← r.length]; rfl)
    rw [List.append_nil] at this
    exact this
  · cases r with
    | error e => exact (show False from hq).elim
    | ok fl =>
      cases fl with
      | ret u =>
        refine I1.after (ut_ce hL hq fun v' H' hin ⟨ss, ta⟩ => q v' _ (fun b o e => ?_) (TAt.mono (fun b ys e => ?_) ta))
        · rw [ut_out (out e)]
          exact ss b o (sT _ _ e)
        · cases q : [(nc, on), (ac, oa)].lookup b with
          | none => rw [ut_out q]; exact e
          | some o' =>
            rw [hin b o' q] at e
            unfold fz at e
            cases e
      | next => exact False.elim hq
      | brk => exact False.elim hq
      | cont => exact False.elim hq
end Tp
set_option Elab.async false
set_option linter.all false
set_option maxRecDepth 100000
set_option maxHeartbeats 4000000
/-! The plain law: a sound program has no fault, the changed one has that one, the completed ones none. -/
namespace Tp
open PySem PySem.Spec PyProof.Rows L2
theorem tabOf_none {fs : List Df} {z : Str} (h : z ∉ fs.map Df.nm) : tabOf fs z = none := by
  induction fs with
  | nil => rfl
  | cons f fs ih =>
    rw [List.map_cons, List.mem_cons, not_or] at h
    show (if z = f.nm then _ else _) = _
    rw [if_neg h.1]
    exact ih h.2
theorem tabOf_at {fs : List Df} {f : Df} (nd : (fs.map Df.nm).Nodup) (hf : f ∈ fs) : tabOf fs f.nm = some f.ps.length := by
  induction fs with
  | nil => cases hf
  | cons g fs ih =>
    rw [List.map_cons, List.nodup_cons] at nd
    show (if f.nm = g.nm then _ else _) = _
    rcases List.mem_cons.mp hf with rfl | hf
    · rw [if_pos rfl]
    · have : f.nm ≠ g.nm := fun e => nd.1 (by rw [← e]; exact List.mem_map.mpr ⟨f, hf, rfl⟩)
      rw [if_neg this]
      exact ih nd.2 hf
/-- the table depends on names and counts -/
theorem tabOf_congr {z : Str} : ∀ {fs gs : List Df}, fs.map (fun f => (f.nm, f.ps.length)) = gs.map (fun f => (f.nm, f.ps.length)) → tabOf fs z = tabOf gs z
  | [], [], _ => rfl
  | [], g :: gs, h => by simp at h
  | f :: fs, [], h => by simp at h
  | f :: fs, g :: gs, h => by
    rw [List.map_cons, List.map_cons] at h
    injection h with h1 h2
    injection h1 with h3 h4
    show (if z = f.nm then some f.ps.length else tabOf fs z) = (if z = g.nm then some g.ps.length else tabOf gs z)
    rw [h3, h4, tabOf_congr h2]
theorem tabOf_app {z : Str} {gs : List Df} : ∀ {fs : List Df}, tabOf (fs ++ gs) z = (match tabOf fs z with
    | some m => some m
    | none => tabOf gs z)
  | [] => rfl
  | f :: fs => by
    show (if z = f.nm then some f.ps.length else tabOf (fs ++ gs) z) = (match (if z = f.nm then some f.ps.length else tabOf fs z) with
      | some m => some m
      | none => tabOf gs z)
    by_cases e : z = f.nm
    · rw [if_pos e, if_pos e]
    · rw [if_neg e, if_neg e, tabOf_app]
theorem pflTo_nil_of {tab : Str → Option Nat} : ∀ {fs : List Df}, (∀ f ∈ fs, flt tab f.b f.ps = []) → pflTo tab fs = []
  | [], _ => rfl
  | f :: fs, h => by
    show flt tab f.b f.ps ++ pflTo tab fs = []
    rw [h f List.mem_cons_self, pflTo_nil_of fun g hg => h g (List.mem_cons_of_mem _ hg)]
    rfl
theorem pflTo_set {tab : Str → Option Nat} {g : Df} {x : List Flt} (hx : flt tab g.b g.ps = x) : ∀ {fs : List Df} {i : Nat}, i < fs.length → (∀ f ∈ fs, flt tab f.b f.ps = []) → pflTo tab (fs.take i ++ g :: fs.drop (i + 1)) = x
  | [], i, hi, _ => by simp at hi
  | f :: fs, 0, _, h => by
    rw [List.take_zero, List.nil_append]
    show flt tab g.b g.ps ++ pflTo tab fs = x
    rw [pflTo_nil_of fun f hf => h f (List.mem_cons_of_mem _ hf), List.append_nil, hx]
  | f :: fs, i + 1, hi, h => by
    rw [List.take_succ_cons, List.cons_append]
    show flt tab f.b f.ps ++ pflTo tab (fs.take i ++ g :: fs.drop (i + 1)) = x
    rw [h f List.mem_cons_self, List.nil_append]
    exact pflTo_set hx (by rw [List.length_cons] at hi; omega) fun f hf => h f (List.mem_cons_of_mem _ hf)
/-! ### what is put in -/
def argsT (m : Nat) : List T := (List.range m).map fun (j : Nat) => T.mk (.num (j : Int)) 5 (j : Int) []
theorem argsT_len (m : Nat) : (argsT m).length = m := by
  unfold argsT
  rw [List.length_map, List.length_range]
def newT (z : Str) (m : Nat) : T := .mk (.use z) 9999 7 (argsT m)
theorem argsT_flt {tab : Str → Option Nat} {d : Nd} {near : List Str} {m i : Nat} : fltL tab d near (argsT m) i = [] := fltL_nil_of fun j t h => by
  obtain ⟨k, _, rfl⟩ := List.mem_map.mp (List.mem_of_getElem? h)
  rw [flt_mk, fltL_nil]
  rfl
theorem newT_unknown {tab : Str → Option Nat} {z : Str} {m : Nat} (h : tab z = none) {near : List Str} (hn : z ∉ near) : flt tab (newT z m) near = [⟨9999, 7, "unknown", z⟩] := by
  unfold newT
  rw [flt_mk, argsT_flt, List.append_nil]
  show (if z ∈ near then _ else match tab z with
    | none => _
    | some m => _) = _
  rw [if_neg hn, h]
theorem newT_known {tab : Str → Option Nat} {z : Str} {m : Nat} (h : tab z = some m) {near : List Str} (hn : z ∉ near) : flt tab (newT z m) near = [] := by
  unfold newT
  rw [flt_mk, argsT_flt, List.append_nil, argsT_len]
  show (if z ∈ near then _ else match tab z with
    | none => _
    | some n => _) = _
  rw [if_neg hn, h]
  show (if m = m then _ else _) = _
  rw [if_pos rfl]
theorem newT_ok {z : Str} {m : Nat} (hz : NameOk z) (hm : m ≤ 4) (n : Nat) : TOk (n + 2) (newT z m) := by
  refine TOk.mk ⟨by decide, by decide, by decide, by decide⟩ ⟨hz, by rw [argsT_len]; exact hm⟩ fun t ht => ?_
  obtain ⟨j, hj, rfl⟩ := List.mem_map.mp ht
  have hj := List.mem_range.mp hj
  exact TOk.mk ⟨by decide, by decide, by omega, by omega⟩ ⟨by omega, by omega, rfl⟩ fun t ht => nomatch ht
def moreD (z : Str) (m : Nat) : Df := ⟨9, 9, z, (["a", "b", "c", "d"] : List Str).take m, .mk .nil 1 2 []⟩
theorem abcd_ok : ∀ z ∈ (["a", "b", "c", "d"] : List Str), NameOk z := by
  have h : ∀ z ∈ (["a", "b", "c", "d"] : List Str), 1 ≤ z.length ∧ z.length ≤ 8 ∧ z ∉ keysL ∧ ∀ c ∈ z.cps.toList, c ∈ lettersS.cps.toList := by decide +kernel
  exact fun z hz => ⟨(h z hz).1, (h z hz).2.1, (h z hz).2.2.1, (h z hz).2.2.2⟩
theorem moreD_len {z : Str} {m : Nat} (hm : m ≤ 4) : (moreD z m).ps.length = m := by
  show ((["a", "b", "c", "d"] : List Str).take m).length = m
  rw [List.length_take]
  show min m 4 = m
  omega
theorem moreD_ok {z : Str} {m : Nat} (hz : NameOk z) (hm : m ≤ 4) : DfOk (moreD z m) :=
  ⟨⟨by show (0 : Int) ≤ 9; decide, by show (9 : Int) ≤ 9999; decide, by show (0 : Int) ≤ 9; decide, by show (9 : Int) ≤ 9999; decide⟩, hz, by rw [moreD_len hm]; exact hm, fun y hy => abcd_ok y (List.mem_of_mem_take hy), TOk.mk ⟨by decide, by decide, by decide, by decide⟩ rfl fun t ht => nomatch ht⟩
theorem moreD_nd {z : Str} {m : Nat} : (moreD z m).ps.Nodup := (show (["a", "b", "c", "d"] : List Str).Nodup by decide +kernel).sublist (List.take_sublist _ _)
theorem moreD_flt {tab : Str → Option Nat} {z : Str} {m : Nat} : flt tab (moreD z m).b (moreD z m).ps = [] := by
  show flt tab (.mk .nil 1 2 []) _ = []
  rw [flt_mk, fltL_nil]
  rfl
section
variable {ns : List Str} {hs : List Hd} {fs : List Df} {z : Str} {m at_ k : Nat} {f : Df}
theorem ProgOk.nd (G : ProgOk ns hs fs) : (fs.map Df.nm).Nodup := by
  rw [G.fn, G.hn]
  exact G.nm.nd.sublist (List.take_sublist _ _)
theorem ProgOk.inn (G : ProgOk ns hs fs) : ∀ f ∈ fs, f.nm ∈ ns := fun f hf => by
  have : f.nm ∈ fs.map Df.nm := List.mem_map.mpr ⟨f, hf, rfl⟩
  rw [G.fn, G.hn] at this
  exact List.mem_of_mem_take this
theorem ProgOk.dfok (G : ProgOk ns hs fs) : ∀ f ∈ fs, DfOk f := fun f hf => by
  obtain ⟨h1, h2, h3, h4, h5⟩ := G.each f hf
  exact ⟨h1, G.nm.ok _ (G.inn f hf), h4, fun z hz => G.nm.ok z (h3 z hz), h5.tok.mono (by decide)⟩
theorem ProgOk.prok (G : ProgOk ns hs fs) : PrOk fs := ⟨by have := G.len.2; omega, G.dfok⟩
theorem ProgOk.hD (G : ProgOk ns hs fs) : ∀ z m, Dh hs z m → tabOf fs z = some m := fun z m ⟨h, hh, e1, e2⟩ => by
  obtain ⟨i, hi, e⟩ := List.mem_iff_getElem.mp hh
  have l1 : fs.length = hs.length := by
    have := congrArg List.length G.fn
    rw [List.length_map, List.length_map] at this
    exact this
  have hi' : i < fs.length := by omega
  have e3 : fs[i].nm = h.nm := by
    have := congrArg (fun l => l[i]?) G.fn
    simp only [List.getElem?_map, List.getElem?_eq_getElem hi, List.getElem?_eq_getElem hi', Option.map_some] at this
    rw [← e]
    exact Option.some.inj this
  have e4 : fs[i].ps.length = h.ks.length := by
    have := congrArg (fun l => l[i]?) G.lk
    simp only [List.getElem?_map, List.getElem?_eq_getElem hi, List.getElem?_eq_getElem hi', Option.map_some] at this
    rw [← e]
    exact Option.some.inj this
  rw [← e1, ← e2, ← e3, ← e4]
  exact tabOf_at G.nd (List.getElem_mem hi')
theorem ProgOk.clean (G : ProgOk ns hs fs) : pfl fs = [] := pflTo_nil_of fun f hf => (G.each f hf).2.2.2.2.flt G.hD
/-- the changed program -/
def chgP (fs : List Df) (at_ : Nat) (f : Df) (t : T) : List Df := fs.take at_ ++ ⟨f.p, f.q, f.nm, f.ps, t⟩ :: fs.drop (at_ + 1)
theorem chgP_map {α : Type} (F : Df → α) {t : T} (h : fs[at_]? = some f) (hF : F ⟨f.p, f.q, f.nm, f.ps, t⟩ = F f) : (chgP fs at_ f t).map F = fs.map F := by
  unfold chgP
  have hi : at_ < fs.length := by
    by_cases e : at_ < fs.length
    · exact e
    · rw [List.getElem?_eq_none (by omega)] at h; cases h
  have e : fs = fs.take at_ ++ f :: fs.drop (at_ + 1) := by
    have e1 : fs.drop at_ = f :: fs.drop (at_ + 1) := by
      rw [List.drop_eq_getElem_cons hi]
      rw [List.getElem?_eq_getElem hi] at h
      rw [Option.some.inj h]
    rw [← e1, List.take_append_drop]
  conv => rhs; rw [e]
  rw [List.map_append, List.map_append, List.map_cons, List.map_cons, hF]
theorem chgP_len {t : T} (h : fs[at_]? = some f) : (chgP fs at_ f t).length = fs.length := by
  have := congrArg List.length (chgP_map (fun f => f.nm) (t := t) h rfl)
  rw [List.length_map, List.length_map] at this
  exact this
/-- what holds of the draws of one turn -/
structure TurnOk (ns : List Str) (hs : List Hd) (fs : List Df) (at_ : Nat) (f : Df) (z : Str) (m k : Nat) : Prop where
  g : ProgOk ns hs fs
  at_ : fs[at_]? = some f
  nz : z ∉ hs.map Hd.nm
  ok : NameOk z
  np : z ∉ f.ps
  ub : Unb z 4 f.b
  hm : m ≤ 4
  hk : k < cnt f.b
def TurnOk.other (_ : TurnOk ns hs fs at_ f z m k) : List Df := chgP fs at_ f (chg (newT z m) f.b k)
variable (U : TurnOk ns hs fs at_ f z m k)
include U
theorem TurnOk.lt : at_ < fs.length := by
  have h := U.at_
  by_cases e : at_ < fs.length
  · exact e
  · rw [List.getElem?_eq_none (by omega)] at h; cases h
theorem TurnOk.fin : f ∈ fs := List.mem_of_getElem? U.at_
theorem TurnOk.nn : z ∉ fs.map Df.nm := by
  rw [U.g.fn]
  exact U.nz
theorem TurnOk.names : U.other.map Df.nm = fs.map Df.nm := chgP_map _ U.at_ rfl
theorem TurnOk.nd : (U.other.map Df.nm).Nodup := by
  rw [U.names]
  exact U.g.nd
theorem TurnOk.tab (y : Str) : tabOf U.other y = tabOf fs y := tabOf_congr (chgP_map _ U.at_ rfl)
theorem TurnOk.mem {g : Df} (h : g ∈ U.other) : g ∈ fs ∨ g = ⟨f.p, f.q, f.nm, f.ps, chg (newT z m) f.b k⟩ := by
  rcases List.mem_append.mp h with h | h
  · exact .inl (List.mem_of_mem_take h)
  · rcases List.mem_cons.mp h with h | h
    · exact .inr h
    · exact .inl (List.mem_of_mem_drop h)
theorem TurnOk.prok : PrOk U.other := by
  refine ⟨?_, fun g hg => ?_⟩
  · have : U.other.length = fs.length := chgP_len U.at_
    rw [this]
    exact U.g.prok.1
  · rcases U.mem hg with h | rfl
    · exact U.g.dfok g h
    · obtain ⟨h1, h2, h3, h4, h5⟩ := U.g.dfok f U.fin
      exact ⟨h1, h2, h3, h4, (chg_tok (newT_ok U.ok U.hm) (U.g.each f U.fin).2.2.2.2.tok U.hk).mono (by decide)⟩
theorem TurnOk.psnd : ∀ g ∈ U.other, g.ps.Nodup := fun g hg => by
  rcases U.mem hg with h | rfl
  · exact (U.g.each g h).2.1
  · exact (U.g.each f U.fin).2.1
theorem TurnOk.pflTo {tab : Str → Option Nat} {x : List Flt} (hD : ∀ y n, Dh hs y n → tab y = some n) (hx : ∀ near, z ∉ near → flt tab (newT z m) near = x) : pflTo tab U.other = x :=
  pflTo_set (g := ⟨f.p, f.q, f.nm, f.ps, chg (newT z m) f.b k⟩) (chg_flt hD hx (U.g.each f U.fin).2.2.2.2 U.ub U.np U.hk) U.lt fun g hg => (U.g.each g hg).2.2.2.2.flt hD
theorem TurnOk.bad : pfl U.other = [⟨9999, 7, "unknown", z⟩] :=
  U.pflTo (fun y n h => by rw [U.tab]; exact U.g.hD y n h) fun near hn => newT_unknown (by rw [U.tab]; exact tabOf_none U.nn) hn
theorem TurnOk.dne {y : Str} {n : Nat} (h : Dh hs y n) : y ≠ z := by
  obtain ⟨h, hh, e, _⟩ := h
  rw [← e]
  exact fun e => U.nz (by rw [← e]; exact List.mem_map.mpr ⟨h, hh, rfl⟩)
theorem TurnOk.more1 : pfl (U.other ++ [moreD z m]) = [] := by
  unfold pfl
  rw [pflTo_app]
  have hD : ∀ y n, Dh hs y n → tabOf (U.other ++ [moreD z m]) y = some n := fun y n h => by
    rw [tabOf_app, U.tab, U.g.hD y n h]
  rw [U.pflTo hD (x := []) fun near hn => newT_known (by
    rw [tabOf_app, U.tab, tabOf_none U.nn]
    show (if z = (moreD z m).nm then some (moreD z m).ps.length else none) = some m
    rw [moreD_len U.hm]
    exact if_pos rfl) hn, List.nil_append]
  exact pflTo_nil_of fun g hg => by rw [List.mem_singleton.mp hg]; exact moreD_flt
theorem TurnOk.more2 : pfl ([moreD z m] ++ U.other) = [] := by
  unfold pfl
  rw [pflTo_app]
  have hD : ∀ y n, Dh hs y n → tabOf ([moreD z m] ++ U.other) y = some n := fun y n h => by
    show (if y = (moreD z m).nm then _ else tabOf U.other y) = some n
    rw [if_neg (show ¬ y = (moreD z m).nm from U.dne h), U.tab, U.g.hD y n h]
  rw [U.pflTo hD (x := []) fun near hn => newT_known (by
    show (if z = (moreD z m).nm then some (moreD z m).ps.length else _) = some m
    rw [moreD_len U.hm]
    exact if_pos rfl) hn, List.append_nil]
  exact pflTo_nil_of fun g hg => by rw [List.mem_singleton.mp hg]; exact moreD_flt
theorem TurnOk.nd1 : ((U.other ++ [moreD z m]).map Df.nm).Nodup := by
  rw [List.map_append, U.names, List.nodup_append]
  refine ⟨U.g.nd, by simp, fun a ha b hb => ?_⟩
  have : b = z := List.mem_singleton.mp hb
  rw [this]
  exact fun e => U.nn (by rw [← e]; exact ha)
theorem TurnOk.nd2 : (([moreD z m] ++ U.other).map Df.nm).Nodup := by
  show (z :: U.other.map Df.nm).Nodup
  rw [U.names, List.nodup_cons]
  exact ⟨U.nn, U.g.nd⟩
theorem TurnOk.prok1 : PrOk (U.other ++ [moreD z m]) := by
  refine ⟨?_, fun g hg => ?_⟩
  · have : U.other.length = fs.length := chgP_len U.at_
    rw [List.length_append, this]
    have := U.g.len.2
    show fs.length + 1 ≤ 8
    omega
  · rcases List.mem_append.mp hg with h | h
    · exact U.prok.2 g h
    · rw [List.mem_singleton.mp h]; exact moreD_ok U.ok U.hm
theorem TurnOk.prok2 : PrOk ([moreD z m] ++ U.other) := by
  refine ⟨?_, fun g hg => ?_⟩
  · have : U.other.length = fs.length := chgP_len U.at_
    rw [List.length_append, this]
    have := U.g.len.2
    show 1 + fs.length ≤ 8
    omega
  · rcases List.mem_append.mp hg with h | h
    · rw [List.mem_singleton.mp h]; exact moreD_ok U.ok U.hm
    · exact U.prok.2 g h
end
/-! ### the trees of a sound program -/
theorem good_uses {ns : List Str} {hs : List Hd} {fs : List Df} {al : List T} (G : ProgOk ns hs fs) (A : AllOf fs al) : ∀ t ∈ al, NmIn ns t.nd := by
  have key := A.2.2 (fun t => ∃ n near, Good ns (Dh hs) n near t) (fun f hf => ⟨4, f.ps, (G.each f hf).2.2.2.2⟩) fun t ⟨n, near, h⟩ u hu => by
    cases n with
    | zero => exact h.elim
    | succ n =>
      obtain ⟨d, p, q, ts⟩ := t
      obtain ⟨i, hi⟩ := List.getElem?_of_mem hu
      exact ⟨n, _, h.2.2.2.2 i u hi⟩
  intro t ht
  obtain ⟨n, near, h⟩ := key t ht
  cases n with
  | zero => exact h.elim
  | succ n =>
    obtain ⟨d, p, q, ts⟩ := t
    exact h.2.2.1
theorem unb_of {name : Str} {al : List T} (hc : ∀ t ∈ al, ∀ u ∈ t.ts, u ∈ al) (hb : ∀ t ∈ al, Unb1 name t.nd) : ∀ {n : Nat} {t : T}, TOk n t → t ∈ al → Unb name n t
  | 0, _, h, _ => h.elim
  | n + 1, .mk d p q ts, h, ht => ⟨hb _ ht, fun u hu => unb_of hc hb (h.2.2 u hu) (hc _ ht u hu)⟩
end Tp
set_option Elab.async false
set_option linter.all false
set_option maxRecDepth 100000
set_option maxHeartbeats 4000000
/-! Small readings for the law. -/
namespace Tp
open PySem PySem.Spec PyProof.Rows L2 LamX
section
variable {K : PySem.W.Frag} {H H' : Hp} {Q : VK}
theorem catA_run {a b : Addr} {xs ys : List V} (ha : H a = some (.tup xs)) (hb : H b = some (.tup ys)) (hl : xs.length + ys.length ≤ 1000) (q : ∀ c H', Same H H' → H' c = some (.tup (xs ++ ys)) → Q (.ref c) H') : rCatA K (.ref a) (.ref b) H Q := by
  refine ⟨a, b, xs, ys, rfl, rfl, SqT.of ha, SqT.of hb, line9 hl, fun e => ?_, fun _ e => ?_, fun _ _ p np => q p _ (same_new np) upd_same⟩
  · subst e
    exact q b H (fun _ _ h => h) hb
  · subst e
    exact q a H (fun _ _ h => h) (by rw [List.append_nil]; exact ha)
theorem cut_whole (xs : List V) {lo hi : Option Int} (h : HT.sIx xs.length 0 lo = 0 ∧ HT.sIx xs.length xs.length hi = xs.length) : cutV xs lo hi = xs := by
  unfold cutV
  rw [h.1, h.2, List.drop_zero, Nat.sub_zero, List.take_length]
theorem slA_run {a : Addr} {xs : List V} {lo hi : Option Int} (ha : H a = some (.tup xs)) (q : ∀ c H', Same H H' → H' c = some (.tup (cutV xs lo hi)) → Q (.ref c) H') : rSlA K (.ref a) lo hi H Q := by
  refine ⟨a, xs, rfl, SqT.of ha, fun h => ?_, fun _ p np => q p _ (same_new np) upd_same⟩
  exact q a H (fun _ _ h => h) (by rw [cut_whole xs h]; exact ha)
theorem cut_from (xs : List V) (k : Nat) : cutV xs (some (k : Int)) none = xs.drop k := by
  unfold cutV
  rw [HT.sIx_nat, HT.sIx_none]
  by_cases h : k ≤ xs.length
  · rw [Nat.min_eq_left h, List.take_of_length_le (by rw [List.length_drop]; exact Nat.le_refl _)]
  · rw [Nat.min_eq_right (by omega), List.drop_eq_nil_of_le (Nat.le_refl _), List.drop_eq_nil_of_le (by omega), List.take_nil]
theorem paired_drop {α β : Type} {F : α → β → Prop} : ∀ {xs : List α} {ys : List β} (n : Nat), Paired F xs ys → Paired F (xs.drop n) (ys.drop n)
  | _, _, 0, h => h
  | _, _, n + 1, .nil => .nil
  | _, _, n + 1, .cons r rs => paired_drop n rs
theorem SqL.same {l : Addr} {xs : List V} (h : SqL K H l xs) (s : Same H H') : SqL K H' l xs := by
  rcases h with (h | ⟨o, h⟩) | h
  · exact .inl (.inl (s _ _ h))
  · exact .inl (.inr ⟨o, s _ _ h⟩)
  · exact .inr h
theorem SqL.ext {l : Addr} {xs : List V} (h : SqL K H l xs) (s : ExtN H H') : SqL K H' l xs := by
  rcases h with (h | ⟨o, h⟩) | h
  · exact .inl (.inl (s _ _ h fun ps e => nomatch e))
  · exact .inl (.inr ⟨o, s _ _ h fun ps e => nomatch e⟩)
  · exact .inr h
theorem kp_same {H0 : Hp} {d : Addr} (nd : H0 d = none) (s : Same H0 H) (k : Kp d d H H') : Same H0 H' := fun b o e => k b o (s b o e) (ne_of_none e nd) (ne_of_none e nd)
theorem extN_kt (s : ExtN H H') : KT H H' := fun b xs e => s b _ e fun ps e => nomatch e
/-! ### trees as data -/
theorem dp_row {v : V} {xs : List V} {ds : List PyData} (h : Row H v xs) (d : DpAll K H xs ds) : Dp K H v (.tuple ds) := by
  obtain ⟨a, rfl, ha⟩ := h
  exact .tup (SqT.of ha) d
theorem dp_pl {v : V} {p q : Int} (h : PlAt H v p q) : Dp K H v (.tuple [.int p, .int q]) := dp_row h (.cons (.int p) (.cons (.int q) .nil))
theorem sh_pl (p q : Int) : Shp 1 (.tuple [.int p, .int q]) := shp_tup fun d hd => by
  rcases List.mem_cons.mp hd with rfl | hd
  · exact shp_int p
  · rw [List.mem_singleton.mp hd]; exact shp_int q
theorem dp_trees {m : Nat} : ∀ {ts : List T} {cs : List V}, (∀ t ∈ ts, ∀ v, TAt H t v → ∃ d, Dp K H v d ∧ Shp m d) → TsAt H ts cs → ∃ ds, DpAll K H cs ds ∧ ds.length = ts.length ∧ ∀ d ∈ ds, Shp m d
  | [], cs, _, h => by
    rw [tsat_nil] at h
    subst h
    exact ⟨[], .nil, rfl, fun d hd => nomatch hd⟩
  | t :: ts, cs, hh, h => by
    rw [tsat_cons] at h
    obtain ⟨v, r, rfl, h1, h2⟩ := h
    obtain ⟨d, d1, d2⟩ := hh t List.mem_cons_self v h1
    obtain ⟨ds, e1, e2, e3⟩ := dp_trees (fun t ht => hh t (List.mem_cons_of_mem _ ht)) h2
    refine ⟨d :: ds, .cons d1 e1, by rw [List.length_cons, List.length_cons, e2], fun x hx => ?_⟩
    rcases List.mem_cons.mp hx with rfl | hx
    · exact d2
    · exact e3 x hx
theorem ops_str : ∀ s ∈ opsL, PyData.strOk s = true := by decide +kernel
theorem sh_node {m : Nat} {z : Str} {dp : PyData} {ds : List PyData} (hz : PyData.strOk z = true) (h1 : Shp m dp) (h : ∀ d ∈ ds, Shp m d) : Shp (m + 1) (.tuple (.str z :: dp :: ds)) := shp_tup fun d hd => by
  rcases List.mem_cons.mp hd with rfl | hd
  · exact shp_str hz
  · rcases List.mem_cons.mp hd with rfl | hd
    · exact h1
    · exact h d hd
theorem dp_tree : ∀ {n : Nat} {t : T} {v : V}, TOk n t → TAt H t v → ∃ d, Dp K H v d ∧ Shp (2 * n + 1) d
  | 0, _, _, h, _ => h.elim
  | n + 1, .mk d p q ts, v, h, ha => by
    obtain ⟨_, g2, g3⟩ := h
    rw [tat_mk] at ha
    obtain ⟨y, cs, hp, hd, hts⟩ := ha
    obtain ⟨ds, e1, e2, e3⟩ := dp_trees (K := K) (m := 2 * n + 1) (fun t ht v hv => dp_tree (g3 t ht) hv) hts
    have hpl : Shp (2 * n + 2) (.tuple [.int p, .int q]) := shp_mono (sh_pl p q) (by omega)
    have e4 : ∀ d ∈ ds, Shp (2 * n + 2) d := fun d hd => shp_mono (e3 d hd) (by omega)
    show ∃ d, Dp K H v d ∧ Shp (2 * n + 2 + 1) d
    cases d with
    | num k =>
      exact ⟨_, dp_row hd.2 (.cons (.str _) (.cons (dp_pl hp) (.cons (.int k) .nil))), sh_node (by decide +kernel) hpl fun d hd => by rw [List.mem_singleton.mp hd]; exact shp_int k⟩
    | nil => exact ⟨_, dp_row hd.2 (.cons (.str _) (.cons (dp_pl hp) .nil)), sh_node (by decide +kernel) hpl fun d hd => nomatch hd⟩
    | use z =>
      obtain ⟨g, hg, hr⟩ := hd
      refine ⟨_, dp_row hr (.cons (.str _) (.cons (dp_pl hp) (.cons (.str z) (.cons (dp_row hg e1) .nil)))), sh_node (by decide +kernel) hpl fun d hd => ?_⟩
      rcases List.mem_cons.mp hd with rfl | hd
      · exact shp_str g2.1.str
      · rw [List.mem_singleton.mp hd]
        exact shp_tup e3
    | op s =>
      obtain ⟨l, r, rfl, hr⟩ := hd
      refine ⟨_, dp_row hr (.cons (.str _) (.cons (dp_pl hp) (.cons (.str s) e1))), sh_node (by decide +kernel) hpl fun d hd => ?_⟩
      rcases List.mem_cons.mp hd with rfl | hd
      · exact shp_str (ops_str s g2.1)
      · exact e4 d hd
    | ite =>
      obtain ⟨c, y2, n2, rfl, hr⟩ := hd
      exact ⟨_, dp_row hr (.cons (.str _) (.cons (dp_pl hp) e1)), sh_node (by decide +kernel) hpl e4⟩
    | lt z =>
      obtain ⟨l, r, rfl, hr⟩ := hd
      refine ⟨_, dp_row hr (.cons (.str _) (.cons (dp_pl hp) (.cons (.str z) e1))), sh_node (by decide +kernel) hpl fun d hd => ?_⟩
      rcases List.mem_cons.mp hd with rfl | hd
      · exact shp_str g2.1.str
      · exact e4 d hd
    | cs x z =>
      obtain ⟨c, y2, n2, rfl, hr⟩ := hd
      cases e1 with
      | cons a1 r1 =>
        cases r1 with
        | cons a2 r2 =>
          cases r2 with
          | cons a3 r3 =>
            cases r3
            refine ⟨_, dp_row hr (.cons (.str _) (.cons (dp_pl hp) (.cons a1 (.cons a2 (.cons (.str x) (.cons (.str z) (.cons a3 .nil))))))), sh_node (by decide +kernel) hpl fun d hd => ?_⟩
            rcases List.mem_cons.mp hd with rfl | hd
            · exact e4 _ (by simp)
            rcases List.mem_cons.mp hd with rfl | hd
            · exact e4 _ (by simp)
            rcases List.mem_cons.mp hd with rfl | hd
            · exact shp_str g2.1.str
            rcases List.mem_cons.mp hd with rfl | hd
            · exact shp_str g2.2.1.str
            · rw [List.mem_singleton.mp hd]
              exact e4 _ (by simp)
/-! ### the things of a node -/
def nmB (nm : Str) : Nd → Bool
  | .use z => z == nm
  | .op s => s == nm
  | .lt z => z == nm
  | .cs a b => a == nm || b == nm
  | _ => false
theorem nmB_unb {nm : Str} {d : Nd} (h : nmB nm d = false) : Unb1 nm d := by
  cases d with
  | lt z =>
    intro e
    rw [e] at h
    have h : (nm == nm) = false := h
    rw [beq_self_eq_true] at h
    cases h
  | cs a b =>
    have h : (a == nm || b == nm) = false := h
    rw [Bool.or_eq_false_iff] at h
    refine ⟨fun e => ?_, fun e => ?_⟩
    · rw [e, beq_self_eq_true] at h; cases h.1
    · rw [e, beq_self_eq_true] at h; cases h.2
  | num _ => trivial
  | nil => trivial
  | use _ => trivial
  | op _ => trivial
  | ite => trivial
theorem ref_no {nm : Str} {v : V} (h : refB v = true) : isS nm v = false := by
  cases v with
  | ref a => rfl
  | _ => cases h
theorem rest_any {nm : Str} {d : Nd} {cs rest : List V} (h : RsAt H d cs rest) (hc : ∀ x ∈ cs, ItemOk H x ∧ refB x = true) : rest.any (isS nm) = nmB nm d ∧ ∀ x ∈ rest, ItemOk H x := by
  have no : cs.any (isS nm) = false := by
    rw [List.any_eq_false]
    intro x hx
    rw [ref_no (hc x hx).2]
    decide
  cases d with
  | num n =>
    obtain ⟨rfl, rfl⟩ := h
    exact ⟨rfl, fun x hx => by rw [List.mem_singleton.mp hx]; exact .inl ⟨n, rfl⟩⟩
  | nil =>
    obtain ⟨rfl, rfl⟩ := h
    exact ⟨rfl, fun x hx => nomatch hx⟩
  | use z =>
    obtain ⟨g, ⟨g, rfl, hg⟩, rfl⟩ := h
    refine ⟨?_, fun x hx => ?_⟩
    · show (z == nm || (false || false)) = (z == nm)
      rw [Bool.or_false, Bool.or_false]
    · rcases List.mem_cons.mp hx with rfl | hx
      · exact .inr (.inl ⟨z, rfl⟩)
      · rw [List.mem_singleton.mp hx]
        exact .inr (.inr ⟨g, cs, rfl, hg⟩)
  | op s =>
    obtain ⟨l, r, rfl, rfl⟩ := h
    refine ⟨?_, fun x hx => ?_⟩
    · show (s == nm || [l, r].any (isS nm)) = (s == nm)
      rw [no, Bool.or_false]
    · rcases List.mem_cons.mp hx with rfl | hx
      · exact .inr (.inl ⟨s, rfl⟩)
      · exact (hc x hx).1
  | ite =>
    obtain ⟨c, y, n, rfl, rfl⟩ := h
    exact ⟨no, fun x hx => (hc x hx).1⟩
  | lt z =>
    obtain ⟨l, r, rfl, rfl⟩ := h
    refine ⟨?_, fun x hx => ?_⟩
    · show (z == nm || [l, r].any (isS nm)) = (z == nm)
      rw [no, Bool.or_false]
    · rcases List.mem_cons.mp hx with rfl | hx
      · exact .inr (.inl ⟨z, rfl⟩)
      · exact (hc x hx).1
  | cs a b =>
    obtain ⟨x1, x2, x3, rfl, rfl⟩ := h
    have n1 := ref_no (nm := nm) (hc x1 (by simp)).2
    have n2 := ref_no (nm := nm) (hc x2 (by simp)).2
    have n3 := ref_no (nm := nm) (hc x3 (by simp)).2
    refine ⟨?_, fun x hx => ?_⟩
    · show (isS nm x1 || (isS nm x2 || (a == nm || (b == nm || (isS nm x3 || false))))) = (a == nm || b == nm)
      rw [n1, n2, n3, Bool.false_or, Bool.false_or, Bool.or_false, Bool.or_false]
    · rcases List.mem_cons.mp hx with rfl | hx
      · exact (hc _ (by simp)).1
      rcases List.mem_cons.mp hx with rfl | hx
      · exact (hc _ (by simp)).1
      rcases List.mem_cons.mp hx with rfl | hx
      · exact .inr (.inl ⟨a, rfl⟩)
      rcases List.mem_cons.mp hx with rfl | hx
      · exact .inr (.inl ⟨b, rfl⟩)
      · rw [List.mem_singleton.mp hx]
        exact (hc _ (by simp)).1
theorem cut2 (w y : V) (rest : List V) : cutV (w :: y :: rest) (some 2) none = rest := cut_from (w :: y :: rest) 2
/-! ### the faults asked -/
theorem dp_flt {u : V} {f : Flt} (h : FlAt H u f) : Dp K H u (.tuple [.tuple [.int f.p, .int f.q], .str f.word, .str f.name]) := by
  obtain ⟨pv, h1, h2⟩ := h
  exact dp_row h2 (.cons (dp_pl h1) (.cons (.str _) (.cons (.str _) .nil)))
theorem fl_ne {v : V} {fs : List Df} {σ : L2.St} (hpr : PrAt H v fs) (ok : PrOk fs) (nd : (fs.map Df.nm).Nodup) (pn : ∀ f ∈ fs, f.ps.Nodup) (hp : pfl fs = []) (q : ∀ H', Same H H' → Q (.bl false) H') :
    spFaults [v] H (fun x H1 => tLst tNil σ H1 fun y H2 => rNeD K x y H2 Q) E0 := by
  refine ⟨v, fs, rfl, hpr, ok, nd, pn, by rw [hp]; exact Nat.zero_le _, fun l us H' s' nl hl hf => ?_⟩
  rw [hp] at hf
  cases hf
  refine ⟨line9 (by decide), fun b nb => ⟨.list [], .list [], .lst (SqL.of (same_new nb _ _ hl)) .nil, .lst (SqL.of upd_same) .nil, shaped_nil, shaped_nil, ?_⟩⟩
  rw [eqv_nil]
  exact q _ (s'.trans (same_new nb))
theorem fl_eq {v : V} {fs : List Df} {σ : L2.St} (hpr : PrAt H v fs) (ok : PrOk fs) (nd : (fs.map Df.nm).Nodup) (pn : ∀ f ∈ fs, f.ps.Nodup) (hp : pfl fs = []) (q : ∀ H', Same H H' → Q (.bl true) H') :
    spFaults [v] H (fun x H1 => tLst tNil σ H1 fun y H2 => rEqD K x y H2 Q) E0 := by
  refine ⟨v, fs, rfl, hpr, ok, nd, pn, by rw [hp]; exact Nat.zero_le _, fun l us H' s' nl hl hf => ?_⟩
  rw [hp] at hf
  cases hf
  refine ⟨line9 (by decide), fun b nb => ⟨.list [], .list [], .lst (SqL.of (same_new nb _ _ hl)) .nil, .lst (SqL.of upd_same) .nil, shaped_nil, shaped_nil, ?_⟩⟩
  rw [eqv_nil]
  exact q _ (s'.trans (same_new nb))
theorem eqv_one (p q : Int) (w z : Str) : PyData.eqv (.list [.tuple [.tuple [.int p, .int q], .str w, .str z]]) (.list [.tuple [.tuple [.int p, .int q], .str w, .str z]]) = true := by
  simp [PyData.eqv, PyData.eqvAll]
theorem sh_one {p q : Int} {w z : Str} (hw : PyData.strOk w = true) (hz : PyData.strOk z = true) : SeqAt.shaped (.list [.tuple [.tuple [.int p, .int q], .str w, .str z]]) = true := by
  refine shp_shaped (m := 3) (shp_list fun d hd => ?_) (by decide)
  rw [List.mem_singleton.mp hd]
  refine shp_tup fun d hd => ?_
  rcases List.mem_cons.mp hd with rfl | hd
  · exact sh_pl p q
  rcases List.mem_cons.mp hd with rfl | hd
  · exact shp_str hw
  · rw [List.mem_singleton.mp hd]; exact shp_str hz
theorem fl_one {v : V} {fs : List Df} {σ : L2.St} {z : Str} (hpr : PrAt H v fs) (ok : PrOk fs) (nd : (fs.map Df.nm).Nodup) (pn : ∀ f ∈ fs, f.ps.Nodup) (hp : pfl fs = [⟨9999, 7, "unknown", z⟩]) (hz : NameOk z) (hs : σ[17]? = some (some (.str z))) (q : ∀ H', Same H H' → Q (.bl false) H') :
    spFaults [v] H (fun x H1 => tLst (tCons (tTup (tCons (tTup (tCons (tC (.int 9999)) (tCons (tC (.int 7)) tNil))) (tCons (tC (.str "unknown")) (tCons (tVar 17) tNil)))) tNil) σ H1 fun y H2 => rNeD K x y H2 Q) E0 := by
  refine ⟨v, fs, rfl, hpr, ok, nd, pn, by rw [hp]; exact Nat.le_refl _, fun l us H' s' nl hl hf => ?_⟩
  rw [hp] at hf
  cases hf with
  | cons h1 h2 =>
    cases h2
    refine ⟨line9 (by show 2 ≤ 1000; decide), fun b1 n1 => ⟨_, hs, line9 (by show 3 ≤ 1000; decide), fun b2 n2 => ⟨line9 (by show 1 ≤ 1000; decide), fun b3 n3 => ?_⟩⟩⟩
    have s1 := same_new (o := .tup [V.int 9999, .int 7]) n1
    have s2 := same_new (o := .tup [V.ref b1, .str "unknown", .str z]) n2
    have s3 := same_new (o := .lst [V.ref b2]) n3
    have sa := (s1.trans s2).trans s3
    have d1 : Dp K (upd (upd (upd H' b1 (.tup [V.int 9999, .int 7])) b2 (.tup [V.ref b1, .str "unknown", .str z])) b3 (.lst [V.ref b2])) (.ref l) (.list [.tuple [.tuple [.int 9999, .int 7], .str "unknown", .str z]]) :=
      .lst (SqL.of (sa _ _ hl)) (.cons (dp_flt (h1.mono (KT.of sa))) .nil)
    have d2 : Dp K (upd (upd (upd H' b1 (.tup [V.int 9999, .int 7])) b2 (.tup [V.ref b1, .str "unknown", .str z])) b3 (.lst [V.ref b2])) (.ref b3) (.list [.tuple [.tuple [.int 9999, .int 7], .str "unknown", .str z]]) :=
      .lst (SqL.of upd_same) (.cons (.tup (SqT.of (s3 _ _ upd_same)) (.cons (.tup (SqT.of (s3 _ _ (s2 _ _ upd_same))) (.cons (.int _) (.cons (.int _) .nil))) (.cons (.str _) (.cons (.str _) .nil)))) .nil)
    refine ⟨_, _, d1, d2, sh_one (by decide +kernel) hz.str, sh_one (by decide +kernel) hz.str, ?_⟩
    rw [eqv_one]
    exact q _ (s'.trans sa)
end
end Tp
set_option Elab.async false
set_option linter.all false
set_option maxRecDepth 100000
set_option maxHeartbeats 4000000
/-! The law. -/
namespace Tp
open PySem PySem.Spec PyProof.Rows L2 LamX NdefX
abbrev sLaw : Stmt := topS 43
abbrev nLaw : List Str := ["script", "k", "draws", "good", "heads", "at", "word", "place", "own", "params", "body", "others", "count", "other", "program", "more", "args", "name", "tree", "j", "head"]
theorem scLaw : FnScope nLaw ["script"] (defScope sLaw) := ⟨rfl, rfl, rfl, by decide +kernel, rfl, by decide +kernel, by decide +kernel⟩
/-- the name of the law's lambda -/
def lamQ : Str := (envOfC "law" (defScope sLaw) 0 0 .none).qual ++ "<lambda>"
section
variable {P : Program} {w : World} {K : PySem.W.Frag} {mg : Str → Option Value} {base : Heap}
def spLaw (K : PySem.W.Frag) (Pt : Addr) : Sp := fun vs H Q _ => ∃ (l : Addr) (ns : List Int), vs = [.ref l] ∧ SqL K H l (ns.map V.int) ∧ Tabs [(Pt, lamQ)] H ∧ ∀ H', Q (.bl true) H'
def WhW (F : Str → L2.St) (H4 : Hp) (b : Str) (nms : List Str) : Nat → L2.St → Hp → Prop := fun m σ Hk => Same H4 Hk ∧ ∃ nm, σ = F nm ∧ ((m = 1 ∧ nm = b) ∨ (m = 0 ∧ nm = b ++ ("x" : Str) ∧ b ∈ nms))
theorem pick_b : ∀ (j : Nat) (v : V), [V.str "nosuch", V.str "nosucha", V.str "nosu"][j]? = some v → ∃ b : Str, v = .str b ∧ b ∈ basesL
  | 0, v, h => ⟨_, (Option.some.inj h).symm, List.mem_cons_self⟩
  | 1, v, h => ⟨_, (Option.some.inj h).symm, List.mem_cons_of_mem _ List.mem_cons_self⟩
  | 2, v, h => ⟨_, (Option.some.inj h).symm, List.mem_cons_of_mem _ (List.mem_cons_of_mem _ List.mem_cons_self)⟩
  | n + 3, v, h => by simp at h
theorem fn_law {f c Pt : Addr} {oc : Value} {od an : Option Addr} {osl : Array (Option Value)} {kV doc pm ct : Value} (lk : K.lookup f = some ⟨oc, od, .func (PySem.W.fnOf "law" "law" (defArgs sLaw) (defBody sLaw) (defScope sLaw) .none kV doc pm an (.ref c) ct), osl⟩) (hcd : PySem.W.codeIn K (.ref c) "law" = true) (TB : TabB base mg c Pt) (B : Bt mg)
    (DLawDraws : Dn P w K mg base "_law_draws" 1 ["script", "k"] (spLawDraws (K := K))) (DLawProgram : Dn P w K mg base "_law_program" 12 ["draws", "size", "deep"] spLawProgram) (DLawDraw : Dn P w K mg base "_law_draw" 1 ["draws", "many"] spLawDraw) (DLawAllTrees : Dn P w K mg base "_law_all_trees" 2 ["program"] spLawAllTrees)
    (DFaults : Dn P w K mg base "faults" 18 ["program"] spFaults) (DLawCount : Dn P w K mg base "_law_count" 5 ["tree"] (spLawCount 4)) (DLawChanged : Dn P w K mg base "_law_changed" 6 ["tree", "at", "deed"] (spLawChanged 4)) :
    FnOk P w K mg base CX0 19 f (PySem.W.fnOf "law" "law" (defArgs sLaw) (defBody sLaw) (defScope sLaw) .none kV doc pm an (.ref c) ct) ["script"] (spLaw K Pt) := by
  refine fn_of lk hcd scLaw (fun vs H Q E h => ?_) fun A outer s H vs Q E hr h => ?_
  · obtain ⟨l, ns, rfl, _⟩ := h
    rfl
  have key : ∃ t, PSs (cxOf CX0 P w K mg base nLaw "law" (defScope sLaw) f (.ref c) A outer s H E).nox (defBody sLaw) t ∧ t { nx := fun _ H' => Q .non H', rt := Q } (start nLaw vs) H := by
    obtain ⟨l, ns, rfl, hl, hT, q⟩ := h
    refine ⟨_, (pss_cons (ps_for PassesOwn.never rfl (pi_range1 (by rfl) B.range (pa_cons (pe_callB (call_max2 rfl) (by rfl) B.max bi_max (pa_cons pe_int (pa_cons (pe_callB (call_min2 rfl) (by rfl) B.min bi_min (pa_cons pe_int (pa_cons (pe_callB call_len_seq (by rfl) B.len PySem.boot_len (pa_cons (pv 0) pa_nil)) pa_nil))) pa_nil))) pa_nil)) (pg_name (i := 1) scLaw.nd rfl (.inl rfl))
     (pss_cons (ps_set (i := 2) scLaw.nd rfl (.inl rfl) (pe_dn DLawDraws hr (by omega) (by rfl) (pa_cons (pv 0) (pa_cons (pv 1) pa_nil))))
     (pss_cons (ps_asg (pe_dn DLawProgram hr (by omega) (by rfl) (pa_cons (pv 2) (pa_cons pe_int (pa_cons pe_int pa_nil)))) (pg_tup rfl (pgs_cons (pg_name (i := 3) scLaw.nd rfl (.inl rfl)) (pgs_cons (pg_name (i := 4) scLaw.nd rfl (.inl rfl)) pgs_nil))))
     (pss_cons (ps_set (i := 17) scLaw.nd rfl (.inr rfl) (pe_ix ix_list (pe_lst (pa_cons pe_str (pa_cons pe_str (pa_cons pe_str pa_nil)))) (pe_dn DLawDraw hr (by omega) (by rfl) (pa_cons (pv 2) (pa_cons pe_int pa_nil))) (fun _ _ => rfl)))
     (pss_cons (ps_while PassesOwn.never (pt_cmpR op_in_seq (pv 17) (pe_op op_cat (pe_lc (own := [("head", 20)]) (g := gName 20) (tt := tYes) rfl scLaw.nd (pi_list (pv 4)) (blkOk_by (N := nLaw) (sc := defScope sLaw) (by decide +kernel)) (fun _ _ _ _ _ => (pg_name (i := 20) scLaw.nd rfl (.inl rfl))) (fun _ _ _ _ _ => pts_nil) (fun _ _ _ _ _ => (pe_ix (show IxR _ (rIxT K) from ix_tup) (pv 20) pe_int (fun _ _ => rfl)))) (pe_lc (own := [("tree", 18)]) (g := gName 18) rfl scLaw.nd (pi_list (pe_dn DLawAllTrees hr (by omega) (by rfl) (pa_cons (pv 3) pa_nil))) (blkOk_by (N := nLaw) (sc := defScope sLaw) (by decide +kernel)) (fun _ _ _ _ _ => (pg_name (i := 18) scLaw.nd rfl (.inl rfl))) (fun _ _ _ _ _ => (pts_one (pt_cmpR op_eq (pe_ix (show IxR _ (rIxT K) from ix_tup) (pv 18) pe_int (fun _ _ => rfl)) pe_str (nomark _)))) (fun _ _ _ _ _ => (pe_ix (show IxR _ (rIxT K) from ix_tup) (pv 18) pe_int (fun _ _ => rfl))))) (by rfl))
     (pss_one (ps_set (i := 17) scLaw.nd rfl (.inr rfl) (pe_op op_add_str (pv 17) pe_str))))
     (pss_cons (ps_set (i := 5) scLaw.nd rfl (.inl rfl) (pe_dn DLawDraw hr (by omega) (by rfl) (pa_cons (pv 2) (pa_cons (pe_callB call_len_seq (by rfl) B.len PySem.boot_len (pa_cons (pv 3) pa_nil)) pa_nil))))
     (pss_cons (ps_set (i := 16) scLaw.nd rfl (.inr rfl) (pe_callTy call_tuple_of (by rfl) B.tuple bi_tuple (pa_cons (pe_lc (own := [("j", 19)]) (g := gName 19) (tt := tYes) rfl scLaw.nd (pi_range1 (by rfl) B.range (pa_cons (pe_dn DLawDraw hr (by omega) (by rfl) (pa_cons (pv 2) (pa_cons pe_int pa_nil))) pa_nil)) (blkOk_by (N := nLaw) (sc := defScope sLaw) (by decide +kernel)) (fun _ _ _ _ _ => (pg_name (i := 19) scLaw.nd rfl (.inl rfl))) (fun _ _ _ _ _ => pts_nil) (fun _ _ _ _ _ => (pe_tup (pa_cons pe_str (pa_cons (pe_tup (pa_cons pe_int (pa_cons (pv 19) pa_nil))) (pa_cons (pv 19) pa_nil)))))) pa_nil)))
     (pss_cons (ps_asg (pe_ix ix_tup (pv 3) (pv 5) (fun _ _ => rfl)) (pg_tup rfl (pgs_cons (pg_name (i := 6) scLaw.nd rfl (.inl rfl)) (pgs_cons (pg_name (i := 7) scLaw.nd rfl (.inl rfl)) (pgs_cons (pg_name (i := 8) scLaw.nd rfl (.inl rfl)) (pgs_cons (pg_name (i := 9) scLaw.nd rfl (.inl rfl)) (pgs_cons (pg_name (i := 10) scLaw.nd rfl (.inl rfl)) pgs_nil)))))))
     (pss_cons (ps_setLc (i := 11) (own := [("tree", 18)]) (g := gName 18) rfl scLaw.nd rfl rfl (sw_true rfl rfl rfl (by decide +kernel)) (pi_list (pe_dn DLawAllTrees hr (by omega) (by rfl) (pa_cons (pv 3) pa_nil))) (blkOk_by (N := nLaw) (sc := defScope sLaw) (by decide +kernel)) (fun _ _ _ _ _ => (pg_name (i := 18) scLaw.nd rfl (.inl rfl))) (fun _ _ _ _ _ => (pts_one (PW.pt (pw_and (pt_cmpR (op_inM (hu1 hr)) (pv 17) (pe_slice (show SlR _ (rSlA K) from sl_tupA) (pv 18) (po_some pe_int) po_none) (by rfl)) (pw_and1 (pt_cmpR op_ne (pe_ix (show IxR _ (rIxT K) from ix_tup) (pv 18) pe_int (fun _ _ => rfl)) pe_str (nomark _))))))) (fun _ _ _ _ _ => (pv 18)))
     (pss_cons (ps_if (PW.pt (pw_or (pt_cmpR op_in_seq (pv 17) (pv 9) (by rfl)) (pw_or1 (pt_cmpR (op_neD hr.units) (pv 11) (pe_lst pa_nil) (nomark _)))))
     (pss_one (ps_ret (pe_cmpR (op_eqD hr.units) (pe_dn DFaults hr (by omega) (by rfl) (pa_cons (pv 3) pa_nil)) (pe_lst pa_nil) (nomark _))))
     pss_nil)
     (pss_cons (ps_set (i := 12) scLaw.nd rfl (.inl rfl) (pe_dn DLawCount hr (by omega) (by rfl) (pa_cons (pv 10) pa_nil)))
     (pss_cons (ps_set (i := 13) scLaw.nd rfl (.inl rfl) (pe_chg (jn := 17) (ja := 16) DLawChanged hr (by omega) ⟨nscope_by (by decide +kernel), by (intros; rfl), by (intro X hN hs; exact pe_tup (pa_cons pe_str (pa_cons (pe_tup (pa_cons pe_int (pa_cons pe_int pa_nil))) (pa_cons (pe_var (i := 1) (by rw [hN]; rfl) (by rw [hs]; exact .inr (.inr rfl))) (pa_cons (pe_var (i := 2) (by rw [hN]; rfl) (by rw [hs]; exact .inr (.inr rfl))) pa_nil)))))⟩ rfl (ndef_free (sc := defScope sLaw) (fr := []) (by decide +kernel)) rfl rfl rfl rfl (by rfl) (pa_cons (pv 10) (pa_cons (pe_dn DLawDraw hr (by omega) (by rfl) (pa_cons (pv 2) (pa_cons (pv 12) pa_nil))) (pa_cons (pe_lamP TB rfl (List.mem_cons_self : (Pt, lamQ) ∈ [(Pt, lamQ)]) (fun p hp _ => by rw [List.mem_singleton.mp hp] <;> rfl) (by rfl) (ndef_free (sc := defScope sLaw) (fr := []) (by decide +kernel))) pa_nil)))))
     (pss_cons (ps_set (i := 14) scLaw.nd rfl (.inl rfl) (pe_op op_catA (pe_op op_catA (pe_slice sl_tupA (pv 3) po_none (po_some (pv 5))) (pe_tup (pa_cons (pe_tup (pa_cons (pv 6) (pa_cons (pv 7) (pa_cons (pv 8) (pa_cons (pv 9) (pa_cons (pv 13) pa_nil)))))) pa_nil))) (pe_slice sl_tupA (pv 3) (po_some (pe_op op_add (pv 5) pe_int)) po_none)))
     (pss_cons (ps_if (PW.pt (pw_or (pt_cmpR (op_neD hr.units) (pe_dn DFaults hr (by omega) (by rfl) (pa_cons (pv 3) pa_nil)) (pe_lst pa_nil) (nomark _)) (pw_or1 (pt_cmpR (op_neD hr.units) (pe_dn DFaults hr (by omega) (by rfl) (pa_cons (pv 14) pa_nil)) (pe_lst (pa_cons (pe_tup (pa_cons (pe_tup (pa_cons pe_int (pa_cons pe_int pa_nil))) (pa_cons pe_str (pa_cons (pv 17) pa_nil)))) pa_nil)) (nomark _)))))
     (pss_one (ps_ret pe_bl))
     pss_nil)
     (pss_cons (ps_set (i := 15) scLaw.nd rfl (.inl rfl) (pe_tup (pa_cons pe_str (pa_cons (pe_tup (pa_cons pe_int (pa_cons pe_int pa_nil))) (pa_cons (pv 17) (pa_cons (pe_slice sl_tupA (pe_tup (pa_cons pe_str (pa_cons pe_str (pa_cons pe_str (pa_cons pe_str pa_nil))))) po_none (po_some (pe_callB call_len_seq (by rfl) B.len PySem.boot_len (pa_cons (pv 16) pa_nil)))) (pa_cons (pe_tup (pa_cons pe_str (pa_cons (pe_tup (pa_cons pe_int (pa_cons pe_int pa_nil))) pa_nil))) pa_nil)))))))
     (pss_one (ps_if (PW.pt (pw_or (pt_cmpR (op_neD hr.units) (pe_dn DFaults hr (by omega) (by rfl) (pa_cons (pe_op op_catA (pv 14) (pe_tup (pa_cons (pv 15) pa_nil))) pa_nil)) (pe_lst pa_nil) (nomark _)) (pw_or1 (pt_cmpR (op_neD hr.units) (pe_dn DFaults hr (by omega) (by rfl) (pa_cons (pe_op op_catA (pe_tup (pa_cons (pv 15) pa_nil)) (pv 14)) pa_nil)) (pe_lst pa_nil) (nomark _)))))
     (pss_one (ps_ret pe_bl))
     pss_nil)))))))))))))))))
     (pss_one (ps_ret pe_bl))), ?_⟩
    refine ⟨_, rfl, l, _, rfl, .inl hl, _, _, rfl, _, _, rfl, _, rfl, ?_⟩
    generalize (List.map V.int ns).length = nn
    generalize hE : (if (if (nn : Int) < 12 then (nn : Int) else 12) > 1 then (if (nn : Int) < 12 then (nn : Int) else 12) else 1) = r
    have hr12 : 1 ≤ r ∧ r ≤ 12 := by
      subst hE
      split <;> split <;> omega
    refine ⟨by omega, by omega, ?_⟩
    refine for_it (walk_range (n := r.toNat)) (fun i σ Hk => (∃ x1 x2 x3 x4 x5 x6 x7 x8 x9 x10 x11 x12 x13 x14 x15 x16 x17 x18 x19 x20, σ = [some (.ref l), x1, x2, x3, x4, x5, x6, x7, x8, x9, x10, x11, x12, x13, x14, x15, x16, x17, x18, x19, x20]) ∧ SqL K Hk l (ns.map V.int) ∧ Tabs [(Pt, lamQ)] Hk) ?_ (fun _ _ _ _ _ => trivial) (fun i x σ HZ H0 hi p y => ?_) fun σ Hk p => q Hk
    · exact ⟨⟨none, none, none, none, none, none, none, none, none, none, none, none, none, none, none, none, none, none, none, none, rfl⟩, hl, hT⟩
    obtain ⟨rfl, rfl⟩ := y
    obtain ⟨⟨x1, x2, x3, x4, x5, x6, x7, x8, x9, x10, x11, x12, x13, x14, x15, x16, x17, x18, x19, x20, rfl⟩, hl0, hT0⟩ := p
    -- the draws, the program
    refine ⟨_, rfl, _, rfl, l, ns, i, ?_, hl0, fun d H1 s1 nd dr1 => ?_⟩
    · show [V.ref l, V.int (0 + (i : Int))] = _
      rw [Int.zero_add]
    refine ⟨_, rfl, d, rfl, dr1, fun rt pt hla hv fs hs nms H2 k2 dr2 hrt hpr hhl hhs G => ?_⟩
    refine ⟨rt, _, rfl, SqT.of hrt, rfl, _, _, rfl, _, _, rfl, rfl, ?_⟩
    -- the name
    refine ⟨line9 (by show 3 ≤ 1000; decide), fun pn npn => ?_⟩
    have hpn : upd H2 pn (.lst [V.str "nosuch", V.str "nosucha", V.str "nosu"]) pn = some (.lst [V.str "nosuch", V.str "nosucha", V.str "nosu"]) := upd_same
    refine ⟨_, rfl, d, 3, rfl, dr2.new npn, by decide, by decide, fun r3 H4 r30 r31 k4 dr4 => ?_⟩
    have k24 := (Kp.of (d := d) (w := d) (same_new (o := .lst [V.str "nosuch", V.str "nosucha", V.str "nosu"]) npn)).trans k4
    have hpn4 := k4.lstD (dr2.new npn) (ni_s _ _) hpn
    obtain ⟨j3, v3, rfl, hj3⟩ := at_some (xs := [V.str "nosuch", V.str "nosucha", V.str "nosu"]) r30 r31
    obtain ⟨b, rfl, hb⟩ := pick_b j3 v3 hj3
    refine ⟨pn, _, _, _, rfl, rfl, SqL.of hpn4, atI_nat hj3, ?_⟩
    have kt24 := k24.ktD dr2
    have hpr4 := hpr.mono kt24
    have hhl4 := k24.lstD dr2 hhs.ni hhl
    have hhs4 : HdsAt H4 hv hs := Paired.mapP hhs fun v h hvh => by
      obtain ⟨a, pa, e, h1, h2⟩ := hvh
      exact ⟨a, pa, e, kt24 _ _ h1, k24.lstD dr2 (ni_str _) h2⟩
    have hvl : hv.length = hs.length := paired_len hhs
    have hl12 : hs.length ≤ 4 := by
      have h1 := congrArg List.length G.fn
      rw [List.length_map, List.length_map] at h1
      have := G.len.2
      omega
    have hcn : cntL (fs.map Df.b) ≤ 1000000 := by
      have key : ∀ gs : List Df, (∀ f ∈ gs, f ∈ fs) → cntL (gs.map Df.b) ≤ gs.length * 625 := by
        intro gs
        induction gs with
        | nil => intro _; rw [List.map_nil, cntL_nil]; exact Nat.zero_le _
        | cons g gs ih =>
          intro h
          have h1 := ih fun f hf => h f (List.mem_cons_of_mem _ hf)
          have h2 := cnt_le (G.each g (h g List.mem_cons_self)).2.2.2.2.tok
          rw [List.map_cons, cntL_cons, List.length_cons]
          omega
      have h1 := key fs fun f hf => hf
      have := G.len.2
      omega
    have bok := bases_ok b hb
    have s14 : Same H0 H4 := fun b o e => k24 b o (k2 b o (s1 b o e) (ne_of_none e nd) (ne_of_none e nd)) (ne_of_none e nd) (ne_of_none e nd)
    refine ⟨WhW (fun nm => [some (.ref l), some (.int (0 + (i : Int))), some (.ref d), some (.ref pt), some (.ref hla), x5, x6, x7, x8, x9, x10, x11, x12, x13, x14, x15, x16, some (.str nm), x18, x19, x20]) H4 b nms, ⟨1, fun _ _ h => h, b, rfl, .inl ⟨rfl, rfl⟩⟩, fun m σ Hk hW => ?_⟩
    obtain ⟨s5, nm, rfl, hm⟩ := hW
    have hnm : NameOk nm := by
      rcases hm with ⟨_, rfl⟩ | ⟨_, rfl, _⟩
      · exact bok.1
      · exact bok.2
    refine ⟨_, rfl, _, rfl, hla, rfl, ⟨_, SqL.of (s5 _ _ hhl4)⟩, fun D1 nD1 => lc_it (walk_list (xs := hv)) (fun j Hc => Same Hk Hc ∧ Hc D1 = some (.lst (((hs.take j).map Hd.nm).map V.str))) ⟨same_new nD1, upd_same⟩ (fun j Hc _ p => SqL.of (p.1 _ _ (s5 _ _ hhl4))) (fun j x Hc Hd' hj p y => ?_) fun Hc p => ?_⟩
    · obtain ⟨rfl, hx⟩ := y
      obtain ⟨s6, hD⟩ := p
      obtain ⟨h, hh, a, pa, rfl, ha, _⟩ := Paired.get hhs4 hx
      refine ⟨rfl, _, rfl, a, _, _, _, rfl, rfl, SqT.of (s6 _ _ (s5 _ _ ha)), atI_nat (j := 0) rfl, _, hD, line9' (by rw [List.length_map, List.length_map, List.length_take]; omega), same_over (o := .lst []) nD1 s6, ?_⟩
      rw [upd_same, List.take_add_one, hh, List.map_append, List.map_append]
      rfl
    obtain ⟨s6, hD1⟩ := p
    rw [hvl, List.take_length] at hD1
    refine ⟨_, rfl, .ref pt, fs, rfl, hpr4.mono (KT.of (s5.trans s6)), by have := G.len.2; omega, hcn, fun l2 us al H7 s7 nl2 hl2 hal hall AO => ?_⟩
    have hus := hal.len
    refine ⟨l2, rfl, ⟨_, SqL.of hl2⟩, fun D2 nD2 => lc_it (walk_list (xs := us)) (fun j Hc => Same H7 Hc ∧ ∃ zs : List Str, Hc D2 = some (.lst (zs.map V.str)) ∧ zs.length ≤ j ∧ ∀ z ∈ zs, z ∈ nms) ⟨same_new nD2, [], upd_same, Nat.le_refl _, fun z hz => nomatch hz⟩ (fun j Hc _ p => SqL.of (p.1 _ _ hl2)) (fun j x Hc Hd' hj p y => ?_) fun Hc p => ?_⟩
    · obtain ⟨rfl, hx⟩ := y
      obtain ⟨s8, zs, hD, hzl, hzs⟩ := p
      obtain ⟨t, ht, hta⟩ := hal.get hx
      have hta2 := hta.mono (KT.of s8)
      have htn := good_uses G AO t (List.mem_of_getElem? ht)
      obtain ⟨dn, p0, q0, ts⟩ := t
      rw [tat_mk] at hta2
      obtain ⟨y, cs, _, hdn, _⟩ := hta2
      obtain ⟨a, rest, rfl, ha, hr2⟩ := hdn.row
      refine ⟨rfl, _, rfl, a, _, _, _, rfl, rfl, SqT.of ha, atI_nat (j := 0) rfl, rfl, _, rfl, ?_⟩
      by_cases hu : ∃ z, dn = .use z
      · obtain ⟨z, rfl⟩ := hu
        obtain ⟨g, ⟨g, rfl, hg⟩, rfl⟩ := hr2
        refine iteBT rfl ⟨_, rfl, a, _, _, _, rfl, rfl, SqT.of ha, atI_nat (j := 2) rfl, _, hD, Nat.lt_of_le_of_lt (m := 1000000) (by rw [List.length_map]; omega) (by decide), same_over (o := .lst []) nD2 s8, zs ++ [z], ?_, by rw [List.length_append]; show zs.length + 1 ≤ _; omega, fun w hw => ?_⟩
        · rw [upd_same, List.map_append]
          rfl
        · rcases List.mem_append.mp hw with h | h
          · exact hzs w h
          · rw [List.mem_singleton.mp h]; exact htn
      · exact iteN (fun e => hu (ndW_use (V.str.inj e))) ⟨s8, zs, hD, by omega, hzs⟩
    obtain ⟨s8, zs, hD2, hzl, hzs⟩ := p
    have hD1' := s8 _ _ (s7 _ _ hD1)
    refine ⟨D1, D2, _, _, rfl, rfl, hD1', hD2, Nat.le_trans (m := 2000000) (by rw [List.length_map, List.length_map, List.length_map]; omega) (by decide), fun l3 nl3 => ?_⟩
    rw [← List.map_append]
    refine ⟨l3, _, rfl, .inl (SqL.of upd_same), rfl, flat_str _, _, rfl, ?_⟩
    have s9 := ((s6.trans s7).trans s8).trans (same_new (o := .lst ((hs.map Hd.nm ++ zs).map V.str)) nl3)
    have s49 := s5.trans s9
    show if inV (.str nm) ((hs.map Hd.nm ++ zs).map V.str) = true then _ else _
    rw [inV_str]
    generalize upd Hc l3 (.lst ((hs.map Hd.nm ++ zs).map V.str)) = H9 at s9 s49
    have innm : nm ∈ hs.map Hd.nm ++ zs → nm ∈ nms := fun h => by
      rcases List.mem_append.mp h with h | h
      · rw [G.hn] at h
        exact List.mem_of_mem_take h
      · exact hzs nm h
    refine ite2D (fun hin => ?_) (fun hout => ?_)
    · rcases hm with ⟨rfl, rfl⟩ | ⟨rfl, rfl, hbn⟩
      · exact ⟨fun σ' H' => ∃ m', m' < 1 ∧ WhW _ H4 nm nms m' σ' H', fun _ _ h => h, _, rfl, nm, _, rfl, rfl, line9 (by have := hnm.hi; show nm.length + 1 ≤ 1000; omega), 0, by decide, s49, _, rfl, .inr ⟨rfl, rfl, innm hin⟩⟩
      · exact absurd (innm hin) (G.nm.wh b hbn)
    have nout : nm ∉ hs.map Hd.nm := fun h => hout (List.mem_append_left _ h)
    have S9 := s14.trans s49
    have dr9 := dr4.same s49
    have hpr9 := hpr4.mono (KT.of s49)
    clear innm hout hm hD1 hD1' hD2 hzs hal hus hl2 nl2 hall AO s5 s6 s7 s8 s9 hpn4 hpn npn hhs4 hhl4 hhl hhs hrt
    obtain ⟨ys, ⟨pt', ept, hpt9⟩, hys9⟩ := hpr9
    cases ept
    have hyl := paired_len hys9
    have hfl := G.len
    -- the def that is changed
    refine ⟨_, rfl, _, rfl, pt, ys, rfl, .inr (SqT.of hpt9), d, (ys.length : Int), rfl, dr9, by omega, by omega, fun ra HA ra0 ra1 kA drA => ?_⟩
    obtain ⟨at_, rfl⟩ := Int.eq_ofNat_of_zero_le ra0
    have hat : at_ < ys.length := by omega
    have SA := kp_same nd S9 kA
    have ktA := kA.ktD dr9
    -- the arguments
    refine ⟨_, rfl, d, 5, rfl, drA, by decide, by decide, fun rm HB m0 m1 kB drB => ?_⟩
    obtain ⟨ma, rfl⟩ := Int.eq_ofNat_of_zero_le m0
    have SB := kp_same nd SA kB
    have ktB : KT H9 HB := fun b xs e => kB.ktD drA b xs (ktA b xs e)
    refine ⟨(ma : Int), rfl, by omega, by omega, fun D3 nD3 => lc_it (walk_range (n := ((ma : Int)).toNat)) (fun j Hc => Same HB Hc ∧ ∃ us, Hc D3 = some (.lst us) ∧ us.length = j ∧ TsAt Hc (argsT j) us) ⟨same_new nD3, [], upd_same, rfl, by unfold argsT; rw [List.range_zero, List.map_nil]; exact TsAt.nil⟩ (fun _ _ _ _ => trivial) (fun j x Hc Hd' hj p y => ?_) fun Hc p => ?_⟩
    · obtain ⟨rfl, rfl⟩ := y
      obtain ⟨s10, us2, hD, hul2, hts⟩ := p
      have e0 : (0 : Int) + (j : Int) = (j : Int) := Int.zero_add _
      refine ⟨rfl, _, rfl, line9 (by show 2 ≤ 1000; decide), fun p1 np1 => ⟨_, rfl, line9 (by show 3 ≤ 1000; decide), fun p2 np2 => ⟨us2, ?_, line9' (by omega), ?_⟩⟩⟩
      · exact same_new np2 _ _ (same_new np1 _ _ hD)
      have s11 := same_new (o := .tup [V.int 5, V.int (0 + (j : Int))]) np1
      have s12 := same_new (o := .tup [V.str "num", .ref p1, V.int (0 + (j : Int))]) np2
      have hD2' := s12 _ _ (s11 _ _ hD)
      have kD := kt_updL (o := .lst (us2 ++ [V.ref p2])) hD2'
      refine ⟨same_over (o := .lst []) nD3 ((s10.trans s11).trans s12), us2 ++ [V.ref p2], upd_same, by rw [List.length_append, hul2]; rfl, ?_⟩
      have ea : argsT (j + 1) = argsT j ++ [T.mk (.num (j : Int)) 5 (j : Int) []] := by
        unfold argsT
        rw [List.range_succ, List.map_append]
        rfl
      rw [ea]
      have hp1 : upd (upd Hd' p1 (.tup [V.int 5, V.int (0 + (j : Int))])) p2 (.tup [V.str "num", .ref p1, V.int (0 + (j : Int))]) p1 = some (.tup [V.int 5, V.int (j : Int)]) := by
        conv => rhs; rw [← e0]
        exact s12 _ _ upd_same
      have hp2 : upd (upd Hd' p1 (.tup [V.int 5, V.int (0 + (j : Int))])) p2 (.tup [V.str "num", .ref p1, V.int (0 + (j : Int))]) p2 = some (.tup [V.str "num", .ref p1, V.int (j : Int)]) := by
        conv => rhs; rw [← e0]
        exact upd_same
      exact TsAt.mono kD (TsAt.app (TsAt.mono (KT.of (s11.trans s12)) hts) (TsAt.cons (TAt.mk (vs := []) ⟨p1, rfl, hp1⟩ ⟨rfl, p2, rfl, hp2⟩ TsAt.nil) TsAt.nil))
    obtain ⟨s10, us2, hD3, hul2, hts⟩ := p
    have hma : ((ma : Int)).toNat = ma := by omega
    rw [hma] at hul2 hts
    refine ⟨D3, us2, rfl, .inl ⟨SqL.of hD3, fun lt nlt => ?_⟩⟩
    have s11 := s10.trans (same_new (o := .tup us2) nlt)
    have hlt : upd Hc lt (.tup us2) lt = some (.tup us2) := upd_same
    have hts1 := TsAt.mono (KT.of (same_new (o := .tup us2) nlt)) hts
    generalize upd Hc lt (.tup us2) = HC at s11 hlt hts1
    have SC := SB.trans s11
    have ktC : KT H9 HC := fun b xs e => s11 _ _ (ktB b xs e)
    have drC := drB.same s11
    have hptC := ktC _ _ hpt9
    have hysC : Paired (DfAt HC) ys fs := Paired.mapP hys9 fun _ _ z => z.mono ktC
    have hprC : PrAt HC (.ref pt) fs := ⟨ys, ⟨pt, rfl, hptC⟩, hysC⟩
    -- its parts
    have hyat : ys[at_]? = some (ys[at_]'hat) := List.getElem?_eq_getElem hat
    obtain ⟨f0, hf0, pv, g, bv, hpv, ⟨ga, rfl, hga⟩, hbv, dv, hdv1, hdv⟩ := Paired.get hysC hyat
    rw [hdv1] at hyat
    refine ⟨_, rfl, _, rfl, pt, ys, _, _, rfl, rfl, SqT.of hptC, atI_nat hyat, ?_⟩
    refine ⟨dv, _, rfl, SqT.of hdv, rfl, _, _, rfl, _, _, rfl, _, _, rfl, _, _, rfl, _, _, rfl, rfl, ?_⟩
    -- who else binds the name
    refine ⟨_, rfl, .ref pt, fs, rfl, hprC, by omega, hcn, fun l4 us4 al4 HE sE nl4 hl4 hal4 hall4 AO4 => ?_⟩
    have hok4 : ∀ t ∈ al4, TOk 4 t := AO4.2.2 (fun t => TOk 4 t) (fun f hf => (G.each f hf).2.2.2.2.tok) fun t h u hu => by
      obtain ⟨dn, p0, q0, ts⟩ := t
      exact (h.2.2 u hu).succ
    have hus4 := hal4.len
    refine ⟨l4, rfl, ⟨_, SqL.of hl4⟩, fun D4 nD4 => lc_it (walk_list (xs := us4)) (fun j Hc => Same HE Hc ∧ ∃ vs ts, Hc D4 = some (.lst vs) ∧ vs.length ≤ j ∧ TsAt HE ts vs ∧ (∀ t ∈ ts, TOk 4 t) ∧ (ts = [] → ∀ t ∈ al4.take j, Unb1 nm t.nd)) ⟨same_new nD4, [], [], upd_same, Nat.le_refl _, TsAt.nil, fun t ht => (nomatch ht), fun _ t ht => by rw [List.take_zero] at ht; cases ht⟩ (fun j Hc _ p => SqL.of (p.1 _ _ hl4)) (fun j x Hc Hd' hj p y => ?_) fun Hc p => ?_⟩
    · obtain ⟨rfl, hx⟩ := y
      obtain ⟨s12, vs, ts, hD, hvl2, hts2, htok, hun⟩ := p
      obtain ⟨t, ht, hta⟩ := hal4.get hx
      have hta2 := hta.mono (KT.of s12)
      have htm := hok4 t (List.mem_of_getElem? ht)
      have hstep : al4.take (j + 1) = al4.take j ++ [t] := by
        rw [List.take_add_one, ht]
        rfl
      obtain ⟨dn, p0, q0, tc⟩ := t
      rw [tat_mk] at hta2
      obtain ⟨y, cs, _, hdn, htc⟩ := hta2
      obtain ⟨a, rest, rfl, ha, hr2⟩ := hdn.row
      refine ⟨rfl, _, rfl, _, rfl, 2, rfl, ?_⟩
      dsimp only [tNoPart]
      refine slA_run ha fun b1 Hs sS hb1 => ?_
      rw [cut2] at hb1
      obtain ⟨ra2, ri⟩ := rest_any (nm := nm) (hr2.mono (KT.of sS)) (trees_items (TsAt.mono (KT.of sS) htc))
      refine ⟨nm, b1, rest, rfl, rfl, hb1, ri, _, rfl, ?_⟩
      rw [ra2]
      by_cases hn1 : nmB nm dn = true
      · refine iteBT hn1 ⟨_, rfl, a, _, _, _, rfl, rfl, SqT.of (sS _ _ ha), atI_nat (j := 0) rfl, rfl, _, rfl, ?_⟩
        by_cases hu : ∃ z, dn = .use z
        · obtain ⟨z, rfl⟩ := hu
          refine iteND rfl ⟨s12.trans sS, vs, ts, sS _ _ hD, by omega, hts2, htok, fun e t2 ht2 => ?_⟩
          rw [hstep] at ht2
          rcases List.mem_append.mp ht2 with h | h
          · exact hun e t2 h
          · rw [List.mem_singleton.mp h]; trivial
        · refine iteNN (fun e => hu (ndW_use (V.str.inj e))) ⟨_, rfl, vs, sS _ _ hD, Nat.lt_of_le_of_lt (m := 1000000) (by omega) (by decide), same_over (o := .lst []) nD4 (s12.trans sS), vs ++ [V.ref a], ts ++ [.mk dn p0 q0 tc], upd_same, by rw [List.length_append]; show vs.length + 1 ≤ _; omega, TsAt.app hts2 (TsAt.cons hta TsAt.nil), fun t2 ht2 => ?_, fun e => ?_⟩
          · rcases List.mem_append.mp ht2 with h | h
            · exact htok t2 h
            · rw [List.mem_singleton.mp h]; exact htm
          · simp at e
      · refine iteBF (Bool.eq_false_iff.mpr hn1) ⟨s12.trans sS, vs, ts, sS _ _ hD, by omega, hts2, htok, fun e t2 ht2 => ?_⟩
        rw [hstep] at ht2
        rcases List.mem_append.mp ht2 with h | h
        · exact hun e t2 h
        · rw [List.mem_singleton.mp h]
          exact nmB_unb (Bool.eq_false_iff.mpr hn1)
    obtain ⟨s12, vs, ts, hD4, hvl2, hts2, htok, hun⟩ := p
    rw [hus4, List.take_length] at hun
    have sF := sE.trans s12
    have SF := SC.trans sF
    have htsF := TsAt.mono (KT.of s12) hts2
    have hf0m : f0 ∈ fs := List.mem_of_getElem? hf0
    refine ⟨_, rfl, _, rfl, ga, _, rfl, .inr (SqT.of (sF _ _ hga)), rfl, flat_str _, _, rfl, ?_⟩
    show if inV (.str nm) (f0.ps.map V.str) = true then _ else _
    rw [inV_str]
    refine ite2D (fun h1 => iteT ⟨_, rfl, fl_eq (hprC.mono (KT.of sF)) G.prok G.nd (fun f hf => (G.each f hf).2.1) G.clean fun H' _ => q H'⟩) fun hnp => ?_
    refine ⟨_, rfl, line9 (by decide), fun bn nbn => ?_⟩
    have sG := sF.trans (same_new (o := .lst []) nbn)
    have hD5 := same_new (o := .lst []) nbn _ _ hD4
    have htsG := TsAt.mono (KT.of (same_new (o := .lst []) nbn)) htsF
    have hbn : upd Hc bn (.lst []) bn = some (.lst []) := upd_same
    generalize upd Hc bn (.lst []) = HG at sG hD5 htsG hbn
    have hprG := hprC.mono (KT.of sG)
    obtain ⟨ds, dd1, dd2, dd3⟩ := dp_trees (K := K) (m := 9) (fun t ht v hv => dp_tree (htok t ht) hv) htsG
    refine ⟨.list ds, .list [], .lst (SqL.of hD5) dd1, .lst (SqL.of hbn) .nil, shp_shaped (shp_list dd3) (by decide), shaped_nil, _, rfl, ?_⟩
    rw [eqv_nil]
    by_cases hte : ts = []
    · subst hte
      obtain rfl : ds = [] := List.length_eq_zero_iff.mp dd2
      refine iteF ?_
      have hub : Unb nm 4 f0.b := unb_of AO4.2.1 (hun rfl) (G.each f0 hf0m).2.2.2.2.tok (AO4.1 f0 hf0m)
      have hyl2 : at_ < fs.length := by omega
      have drG := drC.same sG
      have SG := SC.trans sG
      have hok := (G.each f0 hf0m).2.2.2.2.tok
      -- the count, the change
      refine ⟨_, rfl, bv, f0.b, rfl, hbv.mono (KT.of sG), hok, fun HI sI => ?_⟩
      have drI := drG.same sI
      have hcp := cnt_pos f0.b
      have hcl := cnt_le hok
      refine ⟨_, rfl, _, rfl, _, rfl, d, ((cnt f0.b : Nat) : Int), rfl, drI, by omega, by omega, fun rk HK k0 k1 kK drK => ?_⟩
      obtain ⟨kk, rfl⟩ := Int.eq_ofNat_of_zero_le k0
      have sGI := sG.trans sI
      have SK := kp_same nd (SC.trans sGI) kK
      have ktK : KT HC HK := fun b xs e => kK.ktD drI b xs (sGI _ _ e)
      refine ⟨hT0.ext SK, fun fl HL eN TL LA => ?_⟩
      have hl9 := Tp.SqL.ext (Tp.SqL.same hl0 SK) eN
      have ktL : KT HC HL := fun b xs e => extN_kt eN b xs (ktK b xs e)
      refine ⟨bv, f0.b, kk, fl, nm, lt, us2, argsT ma, rfl, hbv.mono ktL, hok, by omega, LA, rfl, rfl, ktL _ _ hlt, TsAt.mono ktL hts1, fun v' HM sM tM => ?_⟩
      have U : TurnOk nms hs fs at_ f0 nm ma kk := ⟨G, hf0, nout, hnm, hnp, hub, by omega, by omega⟩
      have ktM : KT HC HM := fun b xs e => sM _ _ (ktL b xs e)
      have tM : TAt HM (chg (newT nm ma) f0.b kk) v' := tM
      -- the changed program
      refine ⟨_, rfl, _, rfl, (at_ : Int), rfl, slA_run (ktM _ _ hptC) fun c1 HN sN hc1 => ?_⟩
      refine ⟨_, rfl, _, rfl, _, rfl, _, rfl, _, rfl, line9 (by show 5 ≤ 1000; decide), fun p5 n5 => ⟨line9 (by show 1 ≤ 1000; decide), fun p6 n6 => ?_⟩⟩
      have s15 := same_new (o := .tup [V.str "def", pv, .str f0.nm, .ref ga, v']) n5
      have s16 := same_new (o := .tup [V.ref p5]) n6
      have h5 := s16 _ _ (upd_same (H := HN) (a := p5) (o := .tup [V.str "def", pv, .str f0.nm, .ref ga, v']))
      have h6 : upd (upd HN p5 (.tup [V.str "def", pv, .str f0.nm, .ref ga, v'])) p6 (.tup [V.ref p5]) p6 = some (.tup [V.ref p5]) := upd_same
      have sMN := (sN.trans s15).trans s16
      have hc1' := (s15.trans s16) _ _ hc1
      rw [cut_to _ (by omega)] at hc1'
      generalize upd (upd HN p5 (.tup [V.str "def", pv, .str f0.nm, .ref ga, v'])) p6 (.tup [V.ref p5]) = HP at sMN hc1' h5 h6
      refine catA_run hc1' h6 (by rw [List.length_take]; show min at_ ys.length + 1 ≤ 1000; omega) fun c2 HQ sQ hc2 => ?_
      have sMQ := sMN.trans sQ
      refine ⟨_, rfl, _, rfl, _, _, rfl, rfl, (at_ : Int) + 1, rfl, ?_⟩
      dsimp only [tNoPart]
      refine slA_run (sMQ _ _ (ktM _ _ hptC)) fun c3 HR sR hc3 => ?_
      have ei : (at_ : Int) + 1 = ((at_ + 1 : Nat) : Int) := rfl
      rw [ei, cut_from] at hc3
      refine catA_run (sR _ _ hc2) hc3 (by rw [List.length_append, List.length_take, List.length_drop]; show min at_ ys.length + 1 + (ys.length - (at_ + 1)) ≤ 1000; omega) fun c4 HS sS hc4 => ?_
      have sMS := (sMQ.trans sR).trans sS
      have ktS : KT HC HS := fun b xs e => sMS _ _ (ktM b xs e)
      have h5S := sS _ _ (sR _ _ (sQ _ _ h5))
      have hprS : PrAt HS (.ref c4) U.other := by
        refine ⟨_, ⟨c4, rfl, hc4⟩, ?_⟩
        rw [List.append_assoc]
        have hP := Paired.mapP hysC fun v (f : Df) (z : DfAt HC v f) => z.mono ktS
        refine paired_app (paired_take at_ hP) (.cons ?_ (paired_drop (at_ + 1) hP))
        exact ⟨pv, .ref ga, v', hpv.mono ktS, ⟨ga, rfl, ktS _ _ hga⟩, TAt.mono (KT.of sMS) tM, p5, rfl, h5S⟩
      -- its faults
      have pnG : ∀ f ∈ fs, f.ps.Nodup := fun f hf => (G.each f hf).2.1
      refine ⟨_, rfl, fl_ne (hprC.mono ktS) G.prok G.nd pnG G.clean fun HT1 sT => ⟨_, rfl, iteF ?_⟩⟩
      refine ⟨_, rfl, fl_one (hprS.mono (KT.of sT)) U.prok U.nd U.psnd U.bad hnm rfl fun HU sU => ⟨_, rfl, iteF ?_⟩⟩
      have sSU := sT.trans sU
      -- the def that is missing
      refine ⟨line9 (by show 2 ≤ 1000; decide), fun q1 m1' => ⟨_, rfl, line9 (by show 4 ≤ 1000; decide), fun q2 m2' => ?_⟩⟩
      have t1 := same_new (o := .tup [V.int 9, V.int 9]) m1'
      have t2 := same_new (o := .tup [V.str "a", .str "b", .str "c", .str "d"]) m2'
      have hq1 := t2 _ _ (upd_same (H := HU) (a := q1) (o := .tup [V.int 9, V.int 9]))
      have hq2 : upd (upd HU q1 (.tup [V.int 9, V.int 9])) q2 (.tup [V.str "a", .str "b", .str "c", .str "d"]) q2 = some (.tup [V.str "a", .str "b", .str "c", .str "d"]) := upd_same
      have sSV := (sSU.trans t1).trans t2
      generalize upd (upd HU q1 (.tup [V.int 9, V.int 9])) q2 (.tup [V.str "a", .str "b", .str "c", .str "d"]) = HV at sSV hq1 hq2
      refine ⟨_, rfl, lt, us2, rfl, .inr (SqT.of (sSV _ _ (ktS _ _ hlt))), (us2.length : Int), rfl, slA_run hq2 fun q3 HW sW hq3 => ?_⟩
      rw [cut_to _ (by show us2.length ≤ 4; omega), hul2] at hq3
      refine ⟨line9 (by show 2 ≤ 1000; decide), fun q4 m4' => ⟨line9 (by show 2 ≤ 1000; decide), fun q5 m5' => ⟨line9 (by show 5 ≤ 1000; decide), fun q6 m6' => ?_⟩⟩⟩
      have t4 := same_new (o := .tup [V.int 1, V.int 2]) m4'
      have t5 := same_new (o := .tup [V.str "nil", .ref q4]) m5'
      have t6 := same_new (o := .tup [V.str "def", .ref q1, .str nm, .ref q3, .ref q5]) m6'
      have hq4 := t6 _ _ (t5 _ _ (upd_same (H := HW) (a := q4) (o := .tup [V.int 1, V.int 2])))
      have hq5 := t6 _ _ (upd_same (H := upd HW q4 (.tup [V.int 1, V.int 2])) (a := q5) (o := .tup [V.str "nil", .ref q4]))
      have hq6 : upd (upd (upd HW q4 (.tup [V.int 1, V.int 2])) q5 (.tup [V.str "nil", .ref q4])) q6 (.tup [V.str "def", .ref q1, .str nm, .ref q3, .ref q5]) q6 = some (.tup [V.str "def", .ref q1, .str nm, .ref q3, .ref q5]) := upd_same
      have tW := (t4.trans t5).trans t6
      have hq3' := tW _ _ hq3
      have hq1' := tW _ _ (sW _ _ hq1)
      have sSX := (sSV.trans sW).trans tW
      generalize upd (upd (upd HW q4 (.tup [V.int 1, V.int 2])) q5 (.tup [V.str "nil", .ref q4])) q6 (.tup [V.str "def", .ref q1, .str nm, .ref q3, .ref q5]) = HX at sSX hq1' hq3' hq4 hq5 hq6
      have hmore : DfAt HX (.ref q6) (moreD nm ma) :=
        ⟨.ref q1, .ref q3, .ref q5, ⟨q1, rfl, hq1'⟩, ⟨q3, rfl, by rw [hq3']; exact congrArg (fun z => some (HO.tup z)) (show ((("a" : Str) :: ["b", "c", "d"]).map V.str).take ma = (((("a" : Str) :: ["b", "c", "d"])).take ma).map V.str from (List.map_take).symm)⟩, TAt.mk (vs := []) ⟨q4, rfl, hq4⟩ ⟨rfl, q5, rfl, hq5⟩ TsAt.nil, q6, rfl, hq6⟩
      obtain ⟨zs, ⟨c4', ec4, hc4X⟩, hzs⟩ := hprS.mono (KT.of sSX)
      cases ec4
      have hzl := paired_len hzs
      have hol : U.other.length = fs.length := chgP_len U.at_
      have pn1 : ∀ f ∈ U.other ++ [moreD nm ma], f.ps.Nodup := fun f hf => by
        rcases List.mem_append.mp hf with h | h
        · exact U.psnd f h
        · rw [List.mem_singleton.mp h]; exact moreD_nd
      have pn2 : ∀ f ∈ [moreD nm ma] ++ U.other, f.ps.Nodup := fun f hf => by
        rcases List.mem_append.mp hf with h | h
        · rw [List.mem_singleton.mp h]; exact moreD_nd
        · exact U.psnd f h
      -- with it behind, ahead
      refine ⟨_, rfl, _, rfl, line9 (by show 1 ≤ 1000; decide), fun r1 n1 => ?_⟩
      have u1 := same_new (o := .tup [V.ref q6]) n1
      refine catA_run (u1 _ _ hc4X) upd_same (by show zs.length + 1 ≤ 1000; omega) fun c5 HY sY hc5 => ?_
      have sXY := u1.trans sY
      have pr1 : PrAt HY (.ref c5) (U.other ++ [moreD nm ma]) := ⟨_, ⟨c5, rfl, hc5⟩, paired_app (Paired.mapP hzs fun _ _ z => z.mono (KT.of sXY)) (.cons (hmore.mono (KT.of sXY)) .nil)⟩
      refine fl_ne pr1 U.prok1 U.nd1 pn1 U.more1 fun HZ1 sZ => ⟨_, rfl, iteF ?_⟩
      have sXZ := sXY.trans sZ
      refine ⟨_, rfl, line9 (by show 1 ≤ 1000; decide), fun r2 n2 => ⟨_, rfl, ?_⟩⟩
      have u2 := same_new (o := .tup [V.ref q6]) n2
      refine catA_run upd_same (u2 _ _ (sXZ _ _ hc4X)) (by show 1 + zs.length ≤ 1000; omega) fun c6 HA2 sA2 hc6 => ?_
      have sXA := (sXZ.trans u2).trans sA2
      have pr2 : PrAt HA2 (.ref c6) ([moreD nm ma] ++ U.other) := ⟨_, ⟨c6, rfl, hc6⟩, paired_app (.cons (hmore.mono (KT.of sXA)) .nil) (Paired.mapP hzs fun _ _ z => z.mono (KT.of sXA))⟩
      refine fl_ne pr2 U.prok2 U.nd2 pn2 U.more2 fun HB2 sB2 => ⟨_, rfl, iteF ?_⟩
      have sEnd := ((sMS.trans sSX).trans sXA).trans sB2
      exact ⟨⟨_, _, _, _, _, _, _, _, _, _, _, _, _, _, _, _, _, _, _, _, rfl⟩, Tp.SqL.same hl9 (sM.trans sEnd), TL.ext (sM.trans sEnd)⟩
    · have hde : ds.isEmpty = false := by
        cases ds with
        | nil => exact absurd (List.length_eq_zero_iff.mp dd2.symm) hte
        | cons d ds => rfl
      rw [hde]
      exact iteT ⟨_, rfl, fl_eq hprG G.prok G.nd (fun f hf => (G.each f hf).2.1) G.clean fun H' _ => q H'⟩
  obtain ⟨t, h1, h2⟩ := key
  exact ⟨t, h1.nox, h2⟩
end
end Tp
set_option Elab.async false
set_option linter.all false
set_option maxRecDepth 100000
set_option maxHeartbeats 4000000
/-! The end: the defs as the top leaves them, chained. -/
namespace Tp
open PySem PySem.Spec PyProof.Rows L2 LamX NdefX
structure Ats (K : PySem.W.Frag) (mg : Str → Option Value) : Prop where
  ais_within : At K mg "is_within" sIsWithin ["thing", "low", "high"]
  ais_name : At K mg "is_name" sIsName ["thing"]
  ais_place : At K mg "is_place" sIsPlace ["thing"]
  ais_node : At K mg "is_node" sIsNode ["thing"]
  asubtrees : At K mg "subtrees" sSubtrees ["tree"]
  ais_tree : At K mg "is_tree" sIsTree ["thing", "deep"]
  ais_def : At K mg "is_def" sIsDef ["thing"]
  ais_program : At K mg "is_program" sIsProgram ["thing"]
  aneed_program : At K mg "need_program" sNeedProgram ["thing"]
  ascoped : At K mg "scoped" sScoped ["tree", "near"]
  ause_faults : At K mg "use_faults" sUseFaults ["tree", "near", "table"]
  atree_faults : At K mg "tree_faults" sTreeFaults ["tree", "near", "table"]
  afaults : At K mg "faults" sFaults ["program"]
  a_law_draws : At K mg "_law_draws" sLawDraws ["script", "k"]
  a_law_draw : At K mg "_law_draw" sLawDraw ["draws", "many"]
  a_law_keys : At K mg "_law_keys" sLawKeys []
  a_law_names : At K mg "_law_names" sLawNames ["draws", "many"]
  a_law_place : At K mg "_law_place" sLawPlace ["way"]
  a_law_leaf : At K mg "_law_leaf" sLawLeaf ["draws", "way", "want", "near"]
  a_law_loop : At K mg "_law_loop" sLawLoop ["draws", "way", "head", "names"]
  a_law_op : At K mg "_law_op" sLawOp ["draws", "way", "want", "near", "deep"]
  a_law_call : At K mg "_law_call" sLawCall ["draws", "way", "want", "near", "deep"]
  a_law_tree : At K mg "_law_tree" sLawTree ["draws", "way", "want", "near", "deep"]
  a_law_program : At K mg "_law_program" sLawProgram ["draws", "size", "deep"]
  a_law_subs : At K mg "_law_subs" sLawSubs ["tree"]
  a_law_all_trees : At K mg "_law_all_trees" sLawAllTrees ["program"]
  a_law_count : At K mg "_law_count" sLawCount ["tree"]
  a_law_with : At K mg "_law_with" sLawWith ["tree", "trees"]
  a_law_changed : At K mg "_law_changed" sLawChanged ["tree", "at", "deed"]
/-- how a def's arguments bind -/
def BindOk (x : Str) (st : Stmt) (ps : List Str) : Prop := ∀ (kV doc pm : Value) (an : Option Addr) (cdv ct : Value) (us : List Value), us.length = ps.length → bindArgs (PySem.W.fnOf x x (defArgs st) (defBody st) (defScope st) .none kV doc pm an cdv ct) ⟨us, []⟩ = pure (ps.zip us)
theorem bisIsWithin : BindOk "is_within" sIsWithin ["thing", "low", "high"] := fun _ _ _ _ _ _ us hl => match us, hl with | [_, _, _], _ => rfl
theorem bisIsName : BindOk "is_name" sIsName ["thing"] := fun _ _ _ _ _ _ us hl => match us, hl with | [_], _ => rfl
theorem bisIsPlace : BindOk "is_place" sIsPlace ["thing"] := fun _ _ _ _ _ _ us hl => match us, hl with | [_], _ => rfl
theorem bisIsNode : BindOk "is_node" sIsNode ["thing"] := fun _ _ _ _ _ _ us hl => match us, hl with | [_], _ => rfl
theorem bisSubtrees : BindOk "subtrees" sSubtrees ["tree"] := fun _ _ _ _ _ _ us hl => match us, hl with | [_], _ => rfl
theorem bisIsTree : BindOk "is_tree" sIsTree ["thing", "deep"] := fun _ _ _ _ _ _ us hl => match us, hl with | [_, _], _ => rfl
theorem bisIsDef : BindOk "is_def" sIsDef ["thing"] := fun _ _ _ _ _ _ us hl => match us, hl with | [_], _ => rfl
theorem bisIsProgram : BindOk "is_program" sIsProgram ["thing"] := fun _ _ _ _ _ _ us hl => match us, hl with | [_], _ => rfl
theorem bisNeedProgram : BindOk "need_program" sNeedProgram ["thing"] := fun _ _ _ _ _ _ us hl => match us, hl with | [_], _ => rfl
theorem bisScoped : BindOk "scoped" sScoped ["tree", "near"] := fun _ _ _ _ _ _ us hl => match us, hl with | [_, _], _ => rfl
theorem bisUseFaults : BindOk "use_faults" sUseFaults ["tree", "near", "table"] := fun _ _ _ _ _ _ us hl => match us, hl with | [_, _, _], _ => rfl
theorem bisTreeFaults : BindOk "tree_faults" sTreeFaults ["tree", "near", "table"] := fun _ _ _ _ _ _ us hl => match us, hl with | [_, _, _], _ => rfl
theorem bisFaults : BindOk "faults" sFaults ["program"] := fun _ _ _ _ _ _ us hl => match us, hl with | [_], _ => rfl
theorem bisLawDraws : BindOk "_law_draws" sLawDraws ["script", "k"] := fun _ _ _ _ _ _ us hl => match us, hl with | [_, _], _ => rfl
theorem bisLawDraw : BindOk "_law_draw" sLawDraw ["draws", "many"] := fun _ _ _ _ _ _ us hl => match us, hl with | [_, _], _ => rfl
theorem bisLawKeys : BindOk "_law_keys" sLawKeys [] := fun _ _ _ _ _ _ us hl => match us, hl with | [], _ => rfl
theorem bisLawNames : BindOk "_law_names" sLawNames ["draws", "many"] := fun _ _ _ _ _ _ us hl => match us, hl with | [_, _], _ => rfl
theorem bisLawPlace : BindOk "_law_place" sLawPlace ["way"] := fun _ _ _ _ _ _ us hl => match us, hl with | [_], _ => rfl
theorem bisLawLeaf : BindOk "_law_leaf" sLawLeaf ["draws", "way", "want", "near"] := fun _ _ _ _ _ _ us hl => match us, hl with | [_, _, _, _], _ => rfl
theorem bisLawLoop : BindOk "_law_loop" sLawLoop ["draws", "way", "head", "names"] := fun _ _ _ _ _ _ us hl => match us, hl with | [_, _, _, _], _ => rfl
theorem bisLawOp : BindOk "_law_op" sLawOp ["draws", "way", "want", "near", "deep"] := fun _ _ _ _ _ _ us hl => match us, hl with | [_, _, _, _, _], _ => rfl
theorem bisLawCall : BindOk "_law_call" sLawCall ["draws", "way", "want", "near", "deep"] := fun _ _ _ _ _ _ us hl => match us, hl with | [_, _, _, _, _], _ => rfl
theorem bisLawTree : BindOk "_law_tree" sLawTree ["draws", "way", "want", "near", "deep"] := fun _ _ _ _ _ _ us hl => match us, hl with | [_, _, _, _, _], _ => rfl
theorem bisLawProgram : BindOk "_law_program" sLawProgram ["draws", "size", "deep"] := fun _ _ _ _ _ _ us hl => match us, hl with | [_, _, _], _ => rfl
theorem bisLawSubs : BindOk "_law_subs" sLawSubs ["tree"] := fun _ _ _ _ _ _ us hl => match us, hl with | [_], _ => rfl
theorem bisLawAllTrees : BindOk "_law_all_trees" sLawAllTrees ["program"] := fun _ _ _ _ _ _ us hl => match us, hl with | [_], _ => rfl
theorem bisLawCount : BindOk "_law_count" sLawCount ["tree"] := fun _ _ _ _ _ _ us hl => match us, hl with | [_], _ => rfl
theorem bisLawWith : BindOk "_law_with" sLawWith ["tree", "trees"] := fun _ _ _ _ _ _ us hl => match us, hl with | [_, _], _ => rfl
theorem bisLawChanged : BindOk "_law_changed" sLawChanged ["tree", "at", "deed"] := fun _ _ _ _ _ _ us hl => match us, hl with | [_, _, _], _ => rfl
section
variable {P : Program} {w : World} {K : PySem.W.Frag} {mg : Str → Option Value} {base : Heap} {h : Heap}
theorem at_mk {x : Str} {st : Stmt} {ps : List Str} {f : Addr} {oc : Value} {od an : Option Addr} {osl : Array (Option Value)} {kV doc pm cdv ct : Value} (X : K.In h) (G : h.Ns mainGlobals mg) (hb : BindOk x st ps) (a : PySem.W.nsIn K mainGlobals x = some (some (.ref f)))
    (l : K.lookup f = some ⟨oc, od, .func (PySem.W.fnOf x x (defArgs st) (defBody st) (defScope st) .none kV doc pm an cdv ct), osl⟩) (c : PySem.W.codeIn K cdv x = true) (k : PySem.W.keepIn K (.ref f) = true) : At K mg x st ps :=
  ⟨f, _, fun_mk l c k, PySem.W.mg_of X G a, (fun_mk l c k).binds hb⟩
theorem sqT_mk {a : Addr} {zs : List Str} {od : Option Addr} {its : Array Value} {n : Nat} {sl : Array (Option Value)} (l : K.lookup a = some ⟨.type "tuple", od, .seq its n, sl⟩) (hz : its.size ≤ sizeLine) (hv : Vals (zs.map V.str) its.toList) (H : Hp) : SqT K H a (zs.map V.str) :=
  .inr ⟨_, its, n, l, rfl, rfl, hz, hv⟩
theorem law_all {f c Pt ka oa : Addr} {tl tn tp td te : Tok} {oc : Value} {od an : Option Addr} {osl : Array (Option Value)} {kV doc pm ct : Value} (lk : K.lookup f = some ⟨oc, od, .func (PySem.W.fnOf "law" "law" (defArgs sLaw) (defBody sLaw) (defScope sLaw) .none kV doc pm an (.ref c) ct), osl⟩) (hcd : PySem.W.codeIn K (.ref c) "law" = true) (TB : TabB base mg c Pt)
    (B : Bt mg) (M : Mc K mg ka oa tl tn tp td te) (T : Ats K mg) : FnOk P w K mg base CX0 19 f (PySem.W.fnOf "law" "law" (defArgs sLaw) (defBody sLaw) (defScope sLaw) .none kV doc pm an (.ref c) ct) ["script"] (spLaw K Pt) := by
  have DIsWithin := dn_is_within (P := P) (w := w) (base := base) T.ais_within B
  have DIsName := dn_is_name (P := P) (w := w) (base := base) T.ais_name B M
  have DIsPlace := dn_is_place T.ais_place B DIsWithin
  have DIsNode := dn_is_node T.ais_node B M DIsWithin DIsName DIsPlace
  have DSubtrees := dn_subtrees (P := P) (w := w) (base := base) T.asubtrees B
  have DIsTree := dn_is_tree T.ais_tree B DIsNode DSubtrees 10
  have DIsDef := dn_is_def T.ais_def B M DIsName DIsPlace DIsTree
  have DIsProgram := dn_is_program T.ais_program B M DIsDef
  have DNeedProgram := dn_need_program T.aneed_program DIsProgram
  have DScoped := dn_scoped T.ascoped B DSubtrees
  have DUseFaults := dn_use_faults (P := P) (w := w) (base := base) T.ause_faults B
  have DTreeFaults := dn_tree_faults T.atree_faults B DScoped DUseFaults 10
  have DFaults := dn_faults T.afaults B DNeedProgram DTreeFaults
  have DLawDraw := dn_law_draw (P := P) (w := w) (base := base) T.a_law_draw B
  have DLawDraws := dn_law_draws (P := P) (w := w) (base := base) T.a_law_draws B
  have DLawKeys := dn_law_keys (P := P) (w := w) (base := base) T.a_law_keys
  have DLawPlace := dn_law_place (P := P) (w := w) (base := base) T.a_law_place
  have DLawNames := dn_law_names T.a_law_names B DLawDraw DLawKeys
  have DLawLeaf := dn_law_leaf T.a_law_leaf B DLawDraw DLawPlace
  have DLawLoop := dn_law_loop T.a_law_loop B DLawDraw DLawPlace DLawLeaf
  have DLawTree := dn_law_tree T.a_law_tree T.a_law_op T.a_law_call B DLawDraw DLawPlace DLawLeaf 4
  have DLawProgram := dn_law_program T.a_law_program B DLawDraw DLawPlace DLawNames DLawLoop DLawTree
  have DLawSubs := dn_law_subs (P := P) (w := w) (base := base) T.a_law_subs B
  have hC := dn_law_count T.a_law_count B DLawSubs
  have DLawWith := dn_law_with (P := P) (w := w) (base := base) T.a_law_with B
  have DLawAllTrees := dn_law_all_trees T.a_law_all_trees B DLawSubs
  have DLawChanged := dn_law_changed T.a_law_changed B DLawSubs hC DLawWith 4
  exact fn_law lk hcd TB B DLawDraws DLawProgram DLawDraw DLawAllTrees DFaults (hC 4) DLawChanged
end
abbrev McOf {K : PySem.W.Frag} {h : Heap} (_ : K.In h) (mg : Str → Option Value) (tn : Tok) : Prop := ∃ (ka oa : Addr) (tl tp td te : Tok), Mc K mg ka oa tl tn tp td te
abbrev AtOf {K : PySem.W.Frag} {h : Heap} (_ : K.In h) (mg : Str → Option Value) (x : Str) (st : Stmt) (ps : List Str) : Prop := At K mg x st ps
abbrev AtsOf {K : PySem.W.Frag} {h : Heap} (_ : K.In h) (mg : Str → Option Value) : Prop := Ats K mg
/-- the loose number -/
theorem loose_int {lv : List (Str × PySem.W.WData)} {mg : Str → Option Value} {h : Heap} {x : Str} {i : Int} (V : PySem.W.LooseAre lv mg h) (hx : (x, PySem.W.WData.int i) ∈ lv) : ∃ t, mg x = some (.int i t) := by
  obtain ⟨v, h1, h2⟩ := V.val _ hx
  obtain ⟨t, rfl, _⟩ := PySem.W.readsW_int_inv h2
  exact ⟨t, h1⟩
/-- the end of a row with a table and a loose number -/
theorem walkX {l : PySem.W.OpenLaw} {q p : Program} {loose : List Str} {lv : List (Str × PySem.W.WData)} {YP : World → Heap → Prop} {d : DefRec} {K : Params → PySem.W.Frag} (hn : l.most = some 63) (hdf : d.params.defaults = [])
    (hY : ∀ (w : World) (h : Heap), YP w h → (K w.params).In h)
    (F : ∀ (w : World) (mg : Str → Option Value) (fa : Addr) (h : Heap), YP w h → PySem.W.LooseAre lv mg h → (K w.params).In h → h.Ns mainGlobals mg → mg d.name = some (.ref fa) → LawAtS l w (K w.params) CX0 19 63 "script" mg fa h) :
    PySem.W.WalkO q loose (PySem.W.XL p lv) YP l.row.toRowW d [] (fun f vs => PySem.call f vs) := by
  refine Att.attach_callB hn hdf fun w s₀ s₁ mg mb fa o pm cd doc a vs ns G Y ho hd hcd hmg hobj hints hlen hbits hg => ?_
  have KX := hY w _ Y
  obtain ⟨fd, cs, sp, hT, nT, C, hb, hsp, hF⟩ := F w mg fa _ Y (PySem.W.Ground.X G).2 KX G.T.g hmg
  exact law_callTs KX G.T.g G.T.b G.T.builtins G.T.nolimit hg hT nT C G.T.bmain hobj hints (Nat.le_trans hlen (by decide)) ⟨rfl, by decide, by decide⟩ hF hb (fun H hH hS => hsp H a ns hlen hbits hH hS) fun H e s' z => z
/-- what the row asks of the law, from what the top leaves -/
theorem lawAt_mk {l : PySem.W.OpenLaw} {w : World} {K : PySem.W.Frag} {h : Heap} {mg : Str → Option Value} {fa f c Pt ka oa : Addr} {tl tn tp td te : Tok} {oc : Value} {od an : Option Addr} {osl : Array (Option Value)} {kV doc pm ct : Value} (X : K.In h) (G : h.Ns mainGlobals mg) (hfa : mg "law" = some (.ref fa))
    (B : Bt mg) (M : Mc K mg ka oa tl tn tp td te) (T : Ats K mg) (hP : h.get? Pt = some { cls := .none, data := .fields #[] }) (a : PySem.W.nsIn K mainGlobals "law" = some (some (.ref f)))
    (lk : K.lookup f = some ⟨oc, od, .func (PySem.W.fnOf "law" "law" (defArgs sLaw) (defBody sLaw) (defScope sLaw) .none kV doc pm an (.ref c) ct), osl⟩) (hcd : PySem.W.codeIn K (.ref c) "law" = true) (hh : PySem.W.codeHdIn K c Pt = true) (nP : K.lookup Pt = none) : LawAtS l w K CX0 19 63 "script" mg fa h := by
  have e := hfa.symm.trans (PySem.W.mg_of X G a)
  cases e
  refine ⟨_, [(c, Pt)], spLaw K Pt, fun p hp => ?_, fun p hp => ?_, fun p hp => ?_, fun s u => .of_eq rfl, fun H b ns _ _ hT hS => ⟨b, ns, rfl, hS, fun p hp => ?_, fun _ => rfl⟩, fun base _ _ hB => law_all lk hcd (hB (c, Pt) List.mem_cons_self) B M T⟩
  · rw [List.mem_singleton.mp hp]; exact hP
  · rw [List.mem_singleton.mp hp]; exact nP
  · rw [List.mem_singleton.mp hp]; exact PySem.W.codeHd_of_K X hh
  · rw [List.mem_singleton.mp hp]; exact TabS.nil (hT (c, Pt) List.mem_cons_self)
end Tp
set_option Elab.async false
set_option maxRecDepth 100000
open PySem PySem.W PyProof.Rows in
set_option maxHeartbeats 0 in
theorem PySem.Challenge.cw_tierpile_k22_whole_one_name_unknown_holds : PySem.Challenge.rw_tierpile_k22_whole_one_name_unknown.Holds := by
  w_on; o_law; k_head; (case hw => w_witness2)
  k_fill
  refine Tp.walkX (l := PySem.Challenge.rw_tierpile_k22_whole_one_name_unknown) rfl rfl (fun w h Y => PySem.W.km_in_of Y) ?F
  case F =>
    intro w mg fa h Y V KX G hmg
    have B : Tp.Bt mg := by
      refine' ⟨PySem.W.mg_none_of KX G ?z0, PySem.W.mg_none_of KX G ?z1, PySem.W.mg_none_of KX G ?z2, PySem.W.mg_none_of KX G ?z3, PySem.W.mg_none_of KX G ?z4, PySem.W.mg_none_of KX G ?z5, PySem.W.mg_none_of KX G ?z6, PySem.W.mg_none_of KX G ?z7, PySem.W.mg_none_of KX G ?z8, PySem.W.mg_none_of KX G ?z9, PySem.W.mg_none_of KX G ?z10, PySem.W.mg_none_of KX G ?z11, PySem.W.mg_none_of KX G ?z12, PySem.W.mg_none_of KX G ?z13, PySem.W.mg_none_of KX G ?z14, PySem.W.mg_none_of KX G ?z15⟩
      (case z0 => k_is)
      (case z1 => k_is)
      (case z2 => k_is)
      (case z3 => k_is)
      (case z4 => k_is)
      (case z5 => k_is)
      (case z6 => k_is)
      (case z7 => k_is)
      (case z8 => k_is)
      (case z9 => k_is)
      (case z10 => k_is)
      (case z11 => k_is)
      (case z12 => k_is)
      (case z13 => k_is)
      (case z14 => k_is)
      (case z15 => k_is)
    obtain ⟨tn, hn⟩ := Tp.loose_int V List.mem_cons_self
    have M : Tp.McOf KX mg tn := by
      refine' ⟨_, _, _, _, _, _, ⟨PySem.W.mg_of KX G ?k1, fun H => Tp.sqT_mk ?k2 ?k3 ?k4 H, PySem.W.mg_of KX G ?o1, fun H => Tp.sqT_mk ?o2 ?o3 ?o4 H, PySem.W.mg_of KX G ?l1, hn, PySem.W.mg_of KX G ?p1, PySem.W.mg_of KX G ?d1, PySem.W.mg_of KX G ?e1⟩⟩
      (case k1 => k_is); (case k2 => k_is); (case o1 => k_is); (case o2 => k_is); (case l1 => k_is); (case p1 => k_is); (case d1 => k_is); (case e1 => k_is)
      (case k3 => decide)
      (case k4 => repeat (first | exact .nil | refine .cons ⟨_, rfl⟩ ?_))
      (case o3 => decide)
      (case o4 => repeat (first | exact .nil | refine .cons ⟨_, rfl⟩ ?_))
    obtain ⟨ka, oa, tl, tp, td, te, M⟩ := M
    have ais_within : Tp.AtOf KX mg "is_within" Tp.sIsWithin ["thing", "low", "high"] := by
      refine' Tp.at_mk KX G Tp.bisIsWithin ?a ?l ?c ?k
      (case a => k_is); (case l => k_is); (case c => k_is); (case k => k_is)
    have ais_name : Tp.AtOf KX mg "is_name" Tp.sIsName ["thing"] := by
      refine' Tp.at_mk KX G Tp.bisIsName ?a ?l ?c ?k
      (case a => k_is); (case l => k_is); (case c => k_is); (case k => k_is)
    have ais_place : Tp.AtOf KX mg "is_place" Tp.sIsPlace ["thing"] := by
      refine' Tp.at_mk KX G Tp.bisIsPlace ?a ?l ?c ?k
      (case a => k_is); (case l => k_is); (case c => k_is); (case k => k_is)
    have ais_node : Tp.AtOf KX mg "is_node" Tp.sIsNode ["thing"] := by
      refine' Tp.at_mk KX G Tp.bisIsNode ?a ?l ?c ?k
      (case a => k_is); (case l => k_is); (case c => k_is); (case k => k_is)
    have asubtrees : Tp.AtOf KX mg "subtrees" Tp.sSubtrees ["tree"] := by
      refine' Tp.at_mk KX G Tp.bisSubtrees ?a ?l ?c ?k
      (case a => k_is); (case l => k_is); (case c => k_is); (case k => k_is)
    have ais_tree : Tp.AtOf KX mg "is_tree" Tp.sIsTree ["thing", "deep"] := by
      refine' Tp.at_mk KX G Tp.bisIsTree ?a ?l ?c ?k
      (case a => k_is); (case l => k_is); (case c => k_is); (case k => k_is)
    have ais_def : Tp.AtOf KX mg "is_def" Tp.sIsDef ["thing"] := by
      refine' Tp.at_mk KX G Tp.bisIsDef ?a ?l ?c ?k
      (case a => k_is); (case l => k_is); (case c => k_is); (case k => k_is)
    have ais_program : Tp.AtOf KX mg "is_program" Tp.sIsProgram ["thing"] := by
      refine' Tp.at_mk KX G Tp.bisIsProgram ?a ?l ?c ?k
      (case a => k_is); (case l => k_is); (case c => k_is); (case k => k_is)
    have aneed_program : Tp.AtOf KX mg "need_program" Tp.sNeedProgram ["thing"] := by
      refine' Tp.at_mk KX G Tp.bisNeedProgram ?a ?l ?c ?k
      (case a => k_is); (case l => k_is); (case c => k_is); (case k => k_is)
    have ascoped : Tp.AtOf KX mg "scoped" Tp.sScoped ["tree", "near"] := by
      refine' Tp.at_mk KX G Tp.bisScoped ?a ?l ?c ?k
      (case a => k_is); (case l => k_is); (case c => k_is); (case k => k_is)
    have ause_faults : Tp.AtOf KX mg "use_faults" Tp.sUseFaults ["tree", "near", "table"] := by
      refine' Tp.at_mk KX G Tp.bisUseFaults ?a ?l ?c ?k
      (case a => k_is); (case l => k_is); (case c => k_is); (case k => k_is)
    have atree_faults : Tp.AtOf KX mg "tree_faults" Tp.sTreeFaults ["tree", "near", "table"] := by
      refine' Tp.at_mk KX G Tp.bisTreeFaults ?a ?l ?c ?k
      (case a => k_is); (case l => k_is); (case c => k_is); (case k => k_is)
    have afaults : Tp.AtOf KX mg "faults" Tp.sFaults ["program"] := by
      refine' Tp.at_mk KX G Tp.bisFaults ?a ?l ?c ?k
      (case a => k_is); (case l => k_is); (case c => k_is); (case k => k_is)
    have a_law_draws : Tp.AtOf KX mg "_law_draws" Tp.sLawDraws ["script", "k"] := by
      refine' Tp.at_mk KX G Tp.bisLawDraws ?a ?l ?c ?k
      (case a => k_is); (case l => k_is); (case c => k_is); (case k => k_is)
    have a_law_draw : Tp.AtOf KX mg "_law_draw" Tp.sLawDraw ["draws", "many"] := by
      refine' Tp.at_mk KX G Tp.bisLawDraw ?a ?l ?c ?k
      (case a => k_is); (case l => k_is); (case c => k_is); (case k => k_is)
    have a_law_keys : Tp.AtOf KX mg "_law_keys" Tp.sLawKeys [] := by
      refine' Tp.at_mk KX G Tp.bisLawKeys ?a ?l ?c ?k
      (case a => k_is); (case l => k_is); (case c => k_is); (case k => k_is)
    have a_law_names : Tp.AtOf KX mg "_law_names" Tp.sLawNames ["draws", "many"] := by
      refine' Tp.at_mk KX G Tp.bisLawNames ?a ?l ?c ?k
      (case a => k_is); (case l => k_is); (case c => k_is); (case k => k_is)
    have a_law_place : Tp.AtOf KX mg "_law_place" Tp.sLawPlace ["way"] := by
      refine' Tp.at_mk KX G Tp.bisLawPlace ?a ?l ?c ?k
      (case a => k_is); (case l => k_is); (case c => k_is); (case k => k_is)
    have a_law_leaf : Tp.AtOf KX mg "_law_leaf" Tp.sLawLeaf ["draws", "way", "want", "near"] := by
      refine' Tp.at_mk KX G Tp.bisLawLeaf ?a ?l ?c ?k
      (case a => k_is); (case l => k_is); (case c => k_is); (case k => k_is)
    have a_law_loop : Tp.AtOf KX mg "_law_loop" Tp.sLawLoop ["draws", "way", "head", "names"] := by
      refine' Tp.at_mk KX G Tp.bisLawLoop ?a ?l ?c ?k
      (case a => k_is); (case l => k_is); (case c => k_is); (case k => k_is)
    have a_law_op : Tp.AtOf KX mg "_law_op" Tp.sLawOp ["draws", "way", "want", "near", "deep"] := by
      refine' Tp.at_mk KX G Tp.bisLawOp ?a ?l ?c ?k
      (case a => k_is); (case l => k_is); (case c => k_is); (case k => k_is)
    have a_law_call : Tp.AtOf KX mg "_law_call" Tp.sLawCall ["draws", "way", "want", "near", "deep"] := by
      refine' Tp.at_mk KX G Tp.bisLawCall ?a ?l ?c ?k
      (case a => k_is); (case l => k_is); (case c => k_is); (case k => k_is)
    have a_law_tree : Tp.AtOf KX mg "_law_tree" Tp.sLawTree ["draws", "way", "want", "near", "deep"] := by
      refine' Tp.at_mk KX G Tp.bisLawTree ?a ?l ?c ?k
      (case a => k_is); (case l => k_is); (case c => k_is); (case k => k_is)
    have a_law_program : Tp.AtOf KX mg "_law_program" Tp.sLawProgram ["draws", "size", "deep"] := by
      refine' Tp.at_mk KX G Tp.bisLawProgram ?a ?l ?c ?k
      (case a => k_is); (case l => k_is); (case c => k_is); (case k => k_is)
    have a_law_subs : Tp.AtOf KX mg "_law_subs" Tp.sLawSubs ["tree"] := by
      refine' Tp.at_mk KX G Tp.bisLawSubs ?a ?l ?c ?k
      (case a => k_is); (case l => k_is); (case c => k_is); (case k => k_is)
    have a_law_all_trees : Tp.AtOf KX mg "_law_all_trees" Tp.sLawAllTrees ["program"] := by
      refine' Tp.at_mk KX G Tp.bisLawAllTrees ?a ?l ?c ?k
      (case a => k_is); (case l => k_is); (case c => k_is); (case k => k_is)
    have a_law_count : Tp.AtOf KX mg "_law_count" Tp.sLawCount ["tree"] := by
      refine' Tp.at_mk KX G Tp.bisLawCount ?a ?l ?c ?k
      (case a => k_is); (case l => k_is); (case c => k_is); (case k => k_is)
    have a_law_with : Tp.AtOf KX mg "_law_with" Tp.sLawWith ["tree", "trees"] := by
      refine' Tp.at_mk KX G Tp.bisLawWith ?a ?l ?c ?k
      (case a => k_is); (case l => k_is); (case c => k_is); (case k => k_is)
    have a_law_changed : Tp.AtOf KX mg "_law_changed" Tp.sLawChanged ["tree", "at", "deed"] := by
      refine' Tp.at_mk KX G Tp.bisLawChanged ?a ?l ?c ?k
      (case a => k_is); (case l => k_is); (case c => k_is); (case k => k_is)
    have T : Tp.AtsOf KX mg := ⟨ais_within, ais_name, ais_place, ais_node, asubtrees, ais_tree, ais_def, ais_program, aneed_program, ascoped, ause_faults, atree_faults, afaults, a_law_draws, a_law_draw, a_law_keys, a_law_names, a_law_place, a_law_leaf, a_law_loop, a_law_op, a_law_call, a_law_tree, a_law_program, a_law_subs, a_law_all_trees, a_law_count, a_law_with, a_law_changed⟩
    refine' Tp.lawAt_mk (Pt := 228) KX G hmg B M T (PySem.W.km_tabs_of Y 228 List.mem_cons_self) ?a ?l ?c ?h ?n
    (case a => k_is)
    (case l => k_is)
    (case c => k_is)
    (case h => kernel_rfl)
    (case n => kernel_rfl)
