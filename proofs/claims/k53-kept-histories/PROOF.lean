import PyProof.Rows.All
import Wide.All
import OpenK.AllK
import Wide.FinOn
import HandS.ForExc
import HandS.ForMost
import HandS.DictTup
import HandS.Conv
import HandS.Deep
import HandS.TupAny
import HandS.TupMul
import HandS.TupLe
import HandS.Flow
import HandS.CallSlots
import HandS.Zip
import HandS.Strs
import HandS.More
import HandS.Wide
import HandS.IsInst
import HandS.DictComp
import PyProof.Rows.InDataRows
import HandS.Small
import HandS.Defaults
import HandS.Iter
import HandS.NoneIn
import KE.GoesMore
import KE.SortKeyHeap
import HandS.SortKw
import HandS.HeadHook3
import HandS.HeadEnd
import HandS.EndBits
import HandS.Head2
import HandS.Words
import HandS.WordsExc
import HandS.Style
import HandS.Evl
import KE.IntBitsLaws
import PySem.Challenge.RW_reducehouse_k53_kept_histories
import HandS.Ends
set_option Elab.async false
set_option linter.all false
set_option maxRecDepth 100000
set_option autoImplicit false
set_option maxHeartbeats 0
/-! RA1: values as trees, a store of mutable objects, the runs (with draws), what stands for what. -/
namespace RA
open PySem PySem.Spec L2

/-- a value: plain data; a mutable object by its number; the cup; a tuple or an unchanging list with parts that are not plain; a thing of the module by its name -/
inductive AV where
  | p (d : PyData)
  | h (n : Nat)
  | cup
  | tup (xs : List AV)
  | lst (xs : List AV)
  | fn (x : Str)

abbrev AKey := Key
/-- a mutable object -/
inductive MO where
  | lst (xs : List AV)
  | dk (kvs : List (Key × AV))
  | dt (kvs : List (List Key × AV))
  | ins (C : Str) (fs : List (Str × AV))
abbrev Store := List MO
abbrev Env := List (Option AV)
/-- an exception: its class by name, its own attributes -/
structure Ex where
  cls : Str
  fs : List (Str × AV)

/-- a run: its end, an exception, a draw, or no word -/
inductive Cm (α : Type) where
  | ret (a : α) (S : Store)
  | exn (e : Ex) (S : Store)
  | roll (n : Nat) (k : Nat → Cm α)
  | stuck
def Cm.bind {α β : Type} : Cm α → (α → Store → Cm β) → Cm β
  | .ret a S, k => k a S
  | .exn e S, _ => .exn e S
  | .roll n f, k => .roll n fun i => (f i).bind k
  | .stuck, _ => .stuck
/-- all ends are so -/
def Cm.All {α : Type} (P : α → Store → Prop) (R : Ex → Store → Prop) : Cm α → Prop
  | .ret a S => P a S
  | .exn e S => R e S
  | .roll n f => ∀ i, i < n → (f i).All P R
  | .stuck => False
/-- no exception comes out -/
def Cm.calm {α : Type} : Cm α → Cm α
  | .ret a S => .ret a S
  | .exn _ _ => .stuck
  | .roll n f => .roll n fun i => (f i).calm
  | .stuck => .stuck

theorem Cm.All.bind {α β : Type} {P : β → Store → Prop} {R : Ex → Store → Prop} {k : α → Store → Cm β} : ∀ {m : Cm α}, (m.bind k).All P R → m.All (fun a S => (k a S).All P R) R
  | .ret _ _, h => h
  | .exn _ _, h => h
  | .roll n f, h => fun i hi => Cm.All.bind (m := f i) (h i hi)
  | .stuck, h => h
theorem Cm.All.of_bind {α β : Type} {P : β → Store → Prop} {R : Ex → Store → Prop} {k : α → Store → Cm β} : ∀ {m : Cm α}, m.All (fun a S => (k a S).All P R) R → (m.bind k).All P R
  | .ret _ _, h => h
  | .exn _ _, h => h
  | .roll n f, h => fun i hi => Cm.All.of_bind (m := f i) (h i hi)
  | .stuck, h => h
theorem Cm.All.mono {α : Type} {P P' : α → Store → Prop} {R R' : Ex → Store → Prop} (hP : ∀ a S, P a S → P' a S) (hR : ∀ e S, R e S → R' e S) : ∀ {m : Cm α}, m.All P R → m.All P' R'
  | .ret _ _, h => hP _ _ h
  | .exn _ _, h => hR _ _ h
  | .roll _ f, h => fun i hi => Cm.All.mono hP hR (m := f i) (h i hi)
  | .stuck, h => h
theorem Cm.All.calm {α : Type} {P : α → Store → Prop} {R R' : Ex → Store → Prop} : ∀ {m : Cm α}, m.calm.All P R → m.All P R'
  | .ret _ _, h => h
  | .exn _ _, h => False.elim h
  | .roll _ f, h => fun i hi => Cm.All.calm (m := f i) (h i hi)
  | .stuck, h => h

/-- what does not change: the written part, the module's names, where the cup stands -/
structure Ct where
  K : PySem.W.Frag
  mg : Str → Option Value
  cu : Option Addr
/-- whether tuples of the written part may look like a dict's keys: only where the module has told scenes -/
def kkOf (mg : Str → Option Value) : Bool := (mg ⟨#[83, 72, 69, 76, 70]⟩).isSome
def Ct.kk (c : Ct) : Bool := kkOf c.mg
/-- what is known to stand unchanging, and where the mutable objects stand -/
structure Ws where
  fz : Hp
  ad : List Addr

/-- not what a dict's key may be: an empty tuple, or one with a part that is no int and no text -/
def keyD : PyData → Bool
  | .int _ => true
  | .str _ => true
  | _ => false
def noKey (ds : List PyData) : Bool := ds.isEmpty || !ds.all keyD
/-- a tuple of the written part -/
def KTup (K : PySem.W.Frag) (a : Addr) (xs : List V) : Prop := ∃ (o : Obj) (its : Array Value) (n : Nat), K.lookup a = some o ∧ o.cls = .type "tuple" ∧ o.data = .seq its n ∧ its.size ≤ sizeLine ∧ Vals xs its.toList
mutual
inductive Dv (c : Ct) (fz : Hp) : V → PyData → Prop
  | non : Dv c fz .non .none
  | bl (b : Bool) : Dv c fz (.bl b) (.bool b)
  | int (i : Int) : Dv c fz (.int i) (.int i)
  | str (x : Str) : Dv c fz (.str x) (.str x)
  | lst {a : Addr} {xs : List V} {ds : List PyData} : fz a = some (.lst xs) → Dvs c fz xs ds → Dv c fz (.ref a) (.list ds)
  | tup {a : Addr} {xs : List V} {ds : List PyData} : fz a = some (.tup xs) → Dvs c fz xs ds → Dv c fz (.ref a) (.tuple ds)
  | ktup {a : Addr} {xs : List V} {ds : List PyData} : (c.kk || noKey ds) = true → KTup c.K a xs → Dvs c fz xs ds → Dv c fz (.ref a) (.tuple ds)
inductive Dvs (c : Ct) (fz : Hp) : List V → List PyData → Prop
  | nil : Dvs c fz [] []
  | cons {v : V} {vs : List V} {d : PyData} {ds : List PyData} : Dv c fz v d → Dvs c fz vs ds → Dvs c fz (v :: vs) (d :: ds)
end
mutual
inductive Rp (c : Ct) (w : Ws) : V → AV → Prop
  | p {v : V} {d : PyData} : Dv c w.fz v d → Rp c w v (.p d)
  | h {n : Nat} {a : Addr} : w.ad[n]? = some a → Rp c w (.ref a) (.h n)
  | cup {a : Addr} : c.cu = some a → Rp c w (.ref a) .cup
  | tup {a : Addr} {vs : List V} {xs : List AV} : w.fz a = some (.tup vs) → Rps c w vs xs → Rp c w (.ref a) (.tup xs)
  | lst {a : Addr} {vs : List V} {xs : List AV} : w.fz a = some (.lst vs) → Rps c w vs xs → Rp c w (.ref a) (.lst xs)
  | fn {x : Str} {a : Addr} : c.mg x = some (.ref a) → Rp c w (.ref a) (.fn x)
inductive Rps (c : Ct) (w : Ws) : List V → List AV → Prop
  | nil : Rps c w [] []
  | cons {v : V} {vs : List V} {x : AV} {xs : List AV} : Rp c w v x → Rps c w vs xs → Rps c w (v :: vs) (x :: xs)
end

/-! ### they stay -/
def FzLe (f f' : Hp) : Prop := ∀ a o, f a = some o → f' a = some o
mutual
theorem Dv.le {c : Ct} {f f' : Hp} (h : FzLe f f') : ∀ {v : V} (d : PyData), Dv c f v d → Dv c f' v d
  | _, .none, r => by cases r; exact .non
  | _, .bool _, r => by cases r; exact .bl _
  | _, .int _, r => by cases r; exact .int _
  | _, .str _, r => by cases r; exact .str _
  | _, .list ds, r => by
    cases r with
    | lst a b => exact .lst (h _ _ a) (Dvs.le h ds b)
  | _, .tuple ds, r => by
    cases r with
    | tup a b => exact .tup (h _ _ a) (Dvs.le h ds b)
    | ktup z a b => exact .ktup z a (Dvs.le h ds b)
  | _, .dict _, r => by cases r
theorem Dvs.le {c : Ct} {f f' : Hp} (h : FzLe f f') : ∀ {vs : List V} (ds : List PyData), Dvs c f vs ds → Dvs c f' vs ds
  | _, [], r => by cases r; exact .nil
  | _, d :: ds, r => by
    cases r with
    | cons a b => exact .cons (Dv.le h d a) (Dvs.le h ds b)
end
structure WsLe (w w' : Ws) : Prop where
  fz : FzLe w.fz w'.fz
  ad : ∀ (n : Nat) (a : Addr), w.ad[n]? = some a → w'.ad[n]? = some a
theorem WsLe.refl (w : Ws) : WsLe w w := ⟨fun _ _ h => h, fun _ _ h => h⟩
theorem WsLe.trans {w w1 w2 : Ws} (a : WsLe w w1) (b : WsLe w1 w2) : WsLe w w2 := ⟨fun x o h => b.fz x o (a.fz x o h), fun n x h => b.ad n x (a.ad n x h)⟩
mutual
theorem Rp.le {c : Ct} {w w' : Ws} (h : WsLe w w') : ∀ {v : V} (x : AV), Rp c w v x → Rp c w' v x
  | _, .p _, r => by
    cases r with
    | p a => exact .p (Dv.le h.fz _ a)
  | _, .h _, r => by
    cases r with
    | h a => exact .h (h.ad _ _ a)
  | _, .cup, r => by
    cases r with
    | cup a => exact .cup a
  | _, .tup xs, r => by
    cases r with
    | tup a b => exact .tup (h.fz _ _ a) (Rps.le h xs b)
  | _, .lst xs, r => by
    cases r with
    | lst a b => exact .lst (h.fz _ _ a) (Rps.le h xs b)
  | _, .fn _, r => by
    cases r with
    | fn a => exact .fn a
theorem Rps.le {c : Ct} {w w' : Ws} (h : WsLe w w') : ∀ {vs : List V} (xs : List AV), Rps c w vs xs → Rps c w' vs xs
  | _, [], r => by cases r; exact .nil
  | _, x :: xs, r => by
    cases r with
    | cons a b => exact .cons (Rp.le h x a) (Rps.le h xs b)
end
theorem Rps.length {c : Ct} {w : Ws} : ∀ {vs : List V} {xs : List AV}, Rps c w vs xs → vs.length = xs.length
  | _, [], r => by cases r; rfl
  | _, _ :: _, r => by
    cases r with
    | cons _ b => exact congrArg (· + 1) (Rps.length b)
theorem Rps.get {c : Ct} {w : Ws} : ∀ {vs : List V} {xs : List AV} {i : Nat} {x : AV}, Rps c w vs xs → xs[i]? = some x → ∃ v, vs[i]? = some v ∧ Rp c w v x
  | _, [], _, _, _, e => by simp at e
  | _, x :: xs, 0, _, .cons r _, e => by simp at e; subst e; exact ⟨_, rfl, r⟩
  | _, x :: xs, i + 1, y, .cons _ t, e => by
    obtain ⟨v, h1, h2⟩ := Rps.get (i := i) (x := y) t (by simpa using e)
    exact ⟨v, by simpa using h1, h2⟩
theorem Rps.app {c : Ct} {w : Ws} : ∀ {vs us : List V} {xs ys : List AV}, Rps c w vs xs → Rps c w us ys → Rps c w (vs ++ us) (xs ++ ys)
  | _, _, [], _, .nil, s => s
  | _, _, _ :: _, _, .cons r t, s => .cons r (Rps.app t s)
theorem Rps.take {c : Ct} {w : Ws} : ∀ {vs : List V} {xs : List AV} (n : Nat), Rps c w vs xs → Rps c w (vs.take n) (xs.take n)
  | _, _, 0, _ => .nil
  | _, [], _ + 1, .nil => .nil
  | _, _ :: _, n + 1, .cons r t => .cons r (Rps.take n t)
theorem Rps.drop {c : Ct} {w : Ws} : ∀ {vs : List V} {xs : List AV} (n : Nat), Rps c w vs xs → Rps c w (vs.drop n) (xs.drop n)
  | _, _, 0, r => r
  | _, [], _ + 1, .nil => .nil
  | _, _ :: _, n + 1, .cons _ t => Rps.drop n t
theorem Rps.set {c : Ct} {w : Ws} {v : V} {x : AV} (r : Rp c w v x) : ∀ {vs : List V} {xs : List AV} (i : Nat), Rps c w vs xs → Rps c w (vs.set i v) (xs.set i x)
  | _, [], _, .nil => .nil
  | _, _ :: _, 0, .cons _ t => .cons r t
  | _, _ :: _, i + 1, .cons q t => .cons q (Rps.set r i t)
theorem Rps.eraseIdx {c : Ct} {w : Ws} : ∀ {vs : List V} {xs : List AV} (i : Nat), Rps c w vs xs → Rps c w (vs.eraseIdx i) (xs.eraseIdx i)
  | _, [], _, .nil => .nil
  | _, _ :: _, 0, .cons _ t => t
  | _, _ :: _, i + 1, .cons q t => .cons q (Rps.eraseIdx i t)
theorem Rps.rep {c : Ct} {w : Ws} {vs : List V} {xs : List AV} (h : Rps c w vs xs) : ∀ k : Nat, Rps c w (List.replicate k vs).flatten (List.replicate k xs).flatten
  | 0 => .nil
  | k + 1 => by
    rw [List.replicate_succ, List.replicate_succ, List.flatten_cons, List.flatten_cons]
    exact h.app (Rps.rep h k)

/-! ### plain or not: tuples and lists are made so that plain parts make plain wholes -/
def pures : List AV → Option (List PyData)
  | [] => some []
  | .p d :: xs => match pures xs with
    | some ds => some (d :: ds)
    | none => none
  | _ :: _ => none
def mkTup (xs : List AV) : AV := match pures xs with
  | some ds => .p (.tuple ds)
  | none => .tup xs
def mkLst (xs : List AV) : AV := match pures xs with
  | some ds => .p (.list ds)
  | none => .lst xs
def tupOf : AV → Option (List AV)
  | .p (.tuple ds) => some (ds.map AV.p)
  | .tup xs => some xs
  | _ => none
/-- an unchanging list -/
def lstOf : AV → Option (List AV)
  | .p (.list ds) => some (ds.map AV.p)
  | .lst xs => some xs
  | _ => none
theorem dvs_of {c : Ct} {w : Ws} : ∀ {xs : List AV} {vs : List V} {ds : List PyData}, pures xs = some ds → Rps c w vs xs → Dvs c w.fz vs ds
  | [], _, _, e, r => by
    cases r
    cases e
    exact .nil
  | x :: xs, _, _, e, r => by
    cases r with
    | cons r1 r2 =>
      cases x with
      | p d =>
        unfold pures at e
        cases q : pures xs with
        | none => rw [q] at e; cases e
        | some ds =>
          rw [q] at e
          cases e
          cases r1 with
          | p r1 => exact .cons r1 (dvs_of q r2)
      | _ => cases e
theorem rps_of {c : Ct} {w : Ws} : ∀ {vs : List V} {ds : List PyData}, Dvs c w.fz vs ds → Rps c w vs (ds.map AV.p)
  | _, [], .nil => .nil
  | _, _ :: _, .cons r t => .cons (.p r) (rps_of t)
theorem rp_tup {c : Ct} {w : Ws} {a : Addr} {vs : List V} {xs : List AV} (s : w.fz a = some (.tup vs)) (r : Rps c w vs xs) : Rp c w (.ref a) (mkTup xs) := by
  unfold mkTup
  cases e : pures xs with
  | none => exact .tup s r
  | some ds => exact .p (.tup s (dvs_of e r))
theorem rp_lst {c : Ct} {w : Ws} {a : Addr} {vs : List V} {xs : List AV} (s : w.fz a = some (.lst vs)) (r : Rps c w vs xs) : Rp c w (.ref a) (mkLst xs) := by
  unfold mkLst
  cases e : pures xs with
  | none => exact .lst s r
  | some ds => exact .p (.lst s (dvs_of e r))
theorem rp_tupOf {c : Ct} {w : Ws} {v : V} {x : AV} {xs : List AV} (e : tupOf x = some xs) (r : Rp c w v x) : ∃ a vs, v = .ref a ∧ SqT c.K w.fz a vs ∧ Rps c w vs xs := by
  cases x with
  | p d =>
    cases d with
    | tuple ds =>
      cases e
      cases r with
      | p r =>
        cases r with
        | tup s t => exact ⟨_, _, rfl, .inl (.inl s), rps_of t⟩
        | ktup z s t => exact ⟨_, _, rfl, .inr s, rps_of t⟩
    | _ => cases e
  | tup ys =>
    cases e
    cases r with
    | tup s t => exact ⟨_, _, rfl, .inl (.inl s), t⟩
  | _ => cases e
theorem rp_lstOf {c : Ct} {w : Ws} {v : V} {x : AV} {xs : List AV} (e : lstOf x = some xs) (r : Rp c w v x) : ∃ a vs, v = .ref a ∧ w.fz a = some (.lst vs) ∧ Rps c w vs xs := by
  cases x with
  | p d =>
    cases d with
    | list ds =>
      cases e
      cases r with
      | p r =>
        cases r with
        | lst s t => exact ⟨_, _, rfl, s, rps_of t⟩
    | _ => cases e
  | lst ys =>
    cases e
    cases r with
    | lst s t => exact ⟨_, _, rfl, s, t⟩
  | _ => cases e

/-! ### the store stands in the heap -/
def KVok (c : Ct) (w : Ws) {κ : Type} (ks : List (κ × V)) (xs : List (κ × AV)) : Prop := Paired (fun (p : κ × V) (q : κ × AV) => p.1 = q.1 ∧ Rp c w p.2 q.2) ks xs
theorem KVok.le {c : Ct} {w w' : Ws} (h : WsLe w w') {κ : Type} : ∀ {ks : List (κ × V)} {xs : List (κ × AV)}, KVok c w ks xs → KVok c w' ks xs
  | _, _, .nil => .nil
  | _, _, .cons r t => .cons ⟨r.1, r.2.le h⟩ (KVok.le h t)
def MOk (c : Ct) (w : Ws) (H : Hp) (a : Addr) : MO → Prop
  | .lst xs => ∃ vs, H a = some (.lst vs) ∧ Rps c w vs xs
  | .dk kvs => ∃ ks, H a = some (.dK ks) ∧ KVok c w ks kvs
  | .dt kvs => ∃ ks, H a = some (.dT ks) ∧ KVok c w ks kvs
  | .ins C fs => ∃ Ca dx ks, c.mg C = some (.ref Ca) ∧ H a = some (.ins Ca dx ks) ∧ H dx = some (.own a) ∧ KVok c w ks fs
/-- how much a cup may hold -/
def cupMost : Int := 2 ^ 1048600
def CupAt (H : Hp) (a : Addr) : Prop := ∃ c0 c1 : Int, H a = some (.lst [.int c0, .int c1]) ∧ 0 ≤ c0 ∧ c0 < cupMost ∧ 0 ≤ c1 ∧ c1 < 2 ^ 32
structure Hok (c : Ct) (w : Ws) (S : Store) (H : Hp) : Prop where
  fz : FzLe w.fz H
  st : ∀ (i : Nat) (o : MO), S[i]? = some o → ∃ a, w.ad[i]? = some a ∧ w.fz a = none ∧ MOk c w H a o
  len : S.length = w.ad.length
  nd : w.ad.Nodup
  cu : ∀ a, c.cu = some a → w.fz a = none ∧ a ∉ w.ad ∧ CupAt H a
structure Ext (c : Ct) (w : Ws) (H : Hp) (w' : Ws) (H' : Hp) : Prop where
  fz : FzLe w.fz w'.fz
  ad : ∃ more, w'.ad = w.ad ++ more ∧ ∀ b ∈ more, H b = none
  fr : ∀ b o, H b = some o → b ∉ w.ad → c.cu ≠ some b → H' b = some o
  nf : ∀ b o, w'.fz b = some o → w.fz b = none → H b = none
  kp : ∀ b, H' b = none → H b = none
theorem Ext.refl (c : Ct) (w : Ws) (H : Hp) : Ext c w H w H := ⟨fun _ _ h => h, ⟨[], by simp, fun _ h => nomatch h⟩, fun _ _ h _ _ => h, fun b o h h' => (by rw [h] at h'; cases h'), fun _ h => h⟩
theorem Ext.trans {c : Ct} {w w1 w2 : Ws} {H H1 H2 : Hp} (a : Ext c w H w1 H1) (b : Ext c w1 H1 w2 H2) : Ext c w H w2 H2 := by
  obtain ⟨m1, e1, n1⟩ := a.ad
  obtain ⟨m2, e2, n2⟩ := b.ad
  refine ⟨fun x o h => b.fz x o (a.fz x o h), ⟨m1 ++ m2, by rw [e2, e1, List.append_assoc], fun x hx => ?_⟩, fun x o h hn hc => ?_, fun x o h hn => ?_, fun x h => a.kp x (b.kp x h)⟩
  · rcases List.mem_append.mp hx with hx | hx
    · exact n1 x hx
    · exact a.kp x (n2 x hx)
  · refine b.fr x o (a.fr x o h hn hc) (fun z => ?_) hc
    rw [e1] at z
    rcases List.mem_append.mp z with z | z
    · exact hn z
    · rw [n1 x z] at h; cases h
  · cases q : w1.fz x with
    | none => exact a.kp x (b.nf x o h q)
    | some u => exact a.nf x u q hn
theorem Ext.le {c : Ct} {w w' : Ws} {H H' : Hp} (e : Ext c w H w' H') : WsLe w w' := by
  obtain ⟨m, em, _⟩ := e.ad
  refine ⟨e.fz, fun n a h => ?_⟩
  rw [em, List.getElem?_append_left (List.getElem?_eq_some_iff.mp h).1]
  exact h
theorem Hok.adAt {c : Ct} {w : Ws} {S : Store} {H : Hp} (k : Hok c w S H) {a : Addr} (h : a ∈ w.ad) : ∃ (i : Nat) (o : MO), S[i]? = some o ∧ w.ad[i]? = some a ∧ w.fz a = none ∧ MOk c w H a o := by
  obtain ⟨i, hi, e⟩ := List.getElem_of_mem h
  have hs : i < S.length := by rw [k.len]; exact hi
  obtain ⟨b, hb, hf, hm⟩ := k.st i S[i] (List.getElem?_eq_getElem hs)
  have : b = a := by
    rw [List.getElem?_eq_getElem hi, e] at hb
    exact (Option.some.inj hb).symm
  subst this
  exact ⟨i, _, List.getElem?_eq_getElem hs, hb, hf, hm⟩
theorem MOk.there {c : Ct} {w : Ws} {H : Hp} {a : Addr} {o : MO} (m : MOk c w H a o) : ∃ u, H a = some u ∧ Mut (some u) := by
  cases o with
  | lst xs => obtain ⟨vs, e, _⟩ := m; exact ⟨_, e, trivial⟩
  | dk xs => obtain ⟨vs, e, _⟩ := m; exact ⟨_, e, trivial⟩
  | dt xs => obtain ⟨vs, e, _⟩ := m; exact ⟨_, e, trivial⟩
  | ins C fs => obtain ⟨_, _, _, _, e, _⟩ := m; exact ⟨_, e, trivial⟩
theorem Hok.adThere {c : Ct} {w : Ws} {S : Store} {H : Hp} (k : Hok c w S H) {a : Addr} (h : a ∈ w.ad) : ∃ u, H a = some u ∧ Mut (some u) := by
  obtain ⟨_, _, _, _, _, m⟩ := k.adAt h
  exact m.there
/-- an object as it stands where the heap has kept it -/
theorem MOk.keep {c : Ct} {w w' : Ws} {H H' : Hp} {a : Addr} {o : MO} (m : MOk c w H a o) (l : WsLe w w') (ha : ∀ u, H a = some u → H' a = some u) (hd : ∀ b, H b = some (.own a) → H' b = some (.own a)) : MOk c w' H' a o := by
  cases o with
  | lst xs => obtain ⟨vs, e, r⟩ := m; exact ⟨vs, ha _ e, r.le l⟩
  | dk xs => obtain ⟨vs, e, r⟩ := m; exact ⟨vs, ha _ e, r.le l⟩
  | dt xs => obtain ⟨vs, e, r⟩ := m; exact ⟨vs, ha _ e, r.le l⟩
  | ins C fs => obtain ⟨Ca, dx, ks, g, e, d, r⟩ := m; exact ⟨Ca, dx, ks, g, ha _ e, hd _ d, r.le l⟩

/-! ### something new -/
def Ws.addF (w : Ws) (p : Addr) (o : HO) : Ws := ⟨upd w.fz p o, w.ad⟩
def Ws.addH (w : Ws) (p : Addr) : Ws := ⟨w.fz, w.ad ++ [p]⟩
section
variable {c : Ct} {w : Ws} {S : Store} {H : Hp} {p : Addr} {o : HO}
theorem Hok.fzNone (k : Hok c w S H) (hp : H p = none) : w.fz p = none := by
  cases q : w.fz p with
  | none => rfl
  | some u => rw [k.fz p u q] at hp; cases hp
theorem Hok.notAd (k : Hok c w S H) (hp : H p = none) : p ∉ w.ad := fun h => by
  obtain ⟨u, e, _⟩ := k.adThere h
  rw [hp] at e; cases e
theorem Hok.notCu (k : Hok c w S H) (hp : H p = none) : c.cu ≠ some p := fun h => by
  obtain ⟨_, _, c0, c1, e, _⟩ := k.cu p h
  rw [hp] at e; cases e
theorem CupAt.keep {H' : Hp} {a : Addr} (q : CupAt H a) (h : ∀ o, H a = some o → H' a = some o) : CupAt H' a := by
  obtain ⟨c0, c1, e, r⟩ := q
  exact ⟨c0, c1, h _ e, r⟩
theorem Ext.addF (k : Hok c w S H) (hp : H p = none) : Ext c w H (w.addF p o) (upd H p o) := by
  have hf := k.fzNone hp
  refine ⟨fun b u e => ?_, ⟨[], by simp [Ws.addF], fun _ h => nomatch h⟩, fun b u e _ _ => ?_, fun b u e hn => ?_, fun b e => ?_⟩
  · show upd w.fz p o b = some u
    rw [upd_ne (ne_of_none e hf)]; exact e
  · rw [upd_ne (ne_of_none e hp)]; exact e
  · have e' : upd w.fz p o b = some u := e
    by_cases hb : b = p
    · subst hb; exact hp
    · rw [upd_ne hb, hn] at e'; cases e'
  · by_cases hb : b = p
    · subst hb; exact hp
    · rw [upd_ne hb] at e; exact e
theorem Hok.addF (k : Hok c w S H) (hp : H p = none) : Hok c (w.addF p o) S (upd H p o) := by
  have E := Ext.addF (o := o) k hp
  have hf := k.fzNone hp
  refine ⟨fun b u e => ?_, fun i m e => ?_, k.len, k.nd, fun a e => ?_⟩
  · have e' : upd w.fz p o b = some u := e
    by_cases hb : b = p
    · subst hb; rw [upd_same] at e' ⊢; exact e'
    · rw [upd_ne hb] at e' ⊢; exact k.fz b u e'
  · obtain ⟨a, h1, h2, h3⟩ := k.st i m e
    obtain ⟨u, hu, _⟩ := h3.there
    refine ⟨a, h1, ?_, h3.keep E.le (fun u e => ?_) fun b e => ?_⟩
    · show upd w.fz p o a = none
      rw [upd_ne (ne_of_none hu hp)]; exact h2
    · rw [upd_ne (ne_of_none e hp)]; exact e
    · rw [upd_ne (ne_of_none e hp)]; exact e
  · obtain ⟨h1, h2, h3⟩ := k.cu a e
    refine ⟨?_, h2, h3.keep fun u e => by rw [upd_ne (ne_of_none e hp)]; exact e⟩
    show upd w.fz p o a = none
    rw [upd_ne (fun (z : a = p) => k.notCu hp (by rw [← z]; exact e))]; exact h1
theorem Ext.addH (k : Hok c w S H) (hp : H p = none) : Ext c w H (w.addH p) (upd H p o) :=
  ⟨fun _ _ e => e, ⟨[p], rfl, fun b h => by rw [List.mem_singleton.mp h]; exact hp⟩, fun b u e _ _ => by rw [upd_ne (ne_of_none e hp)]; exact e, fun b u e hn => (by
    have e' : w.fz b = some u := e
    rw [hn] at e'; cases e'), fun b e => (by
    by_cases hb : b = p
    · subst hb; exact hp
    · rw [upd_ne hb] at e; exact e)⟩
theorem Hok.addH {m : MO} (k : Hok c w S H) (hp : H p = none) (hm : MOk c (w.addH p) (upd H p o) p m) : Hok c (w.addH p) (S ++ [m]) (upd H p o) := by
  have E := Ext.addH (o := o) k hp
  have hf := k.fzNone hp
  refine ⟨fun b u e => ?_, fun i m' e => ?_, by simp [Ws.addH, k.len], ?_, fun a e => ?_⟩
  · rw [upd_ne (ne_of_none (k.fz b u e) hp)]; exact k.fz b u e
  · by_cases hi : i < S.length
    · rw [List.getElem?_append_left hi] at e
      obtain ⟨a, h1, h2, h3⟩ := k.st i m' e
      exact ⟨a, E.le.ad _ _ h1, h2, h3.keep E.le (fun u e => by rw [upd_ne (ne_of_none e hp)]; exact e) fun b e => by rw [upd_ne (ne_of_none e hp)]; exact e⟩
    · have hi' : i = S.length := by
        have := (List.getElem?_eq_some_iff.mp e).1
        simp at this
        omega
      subst hi'
      rw [List.getElem?_append_right (Nat.le_refl _)] at e
      simp at e
      subst e
      refine ⟨p, ?_, hf, hm⟩
      show (w.ad ++ [p])[S.length]? = some p
      rw [k.len, List.getElem?_append_right (Nat.le_refl _)]
      simp
  · show (w.ad ++ [p]).Nodup
    rw [List.nodup_append]
    exact ⟨k.nd, by simp, fun x hx y hy => by
      rw [List.mem_singleton.mp hy]
      exact fun z => k.notAd hp (z ▸ hx)⟩
  · obtain ⟨h1, h2, h3⟩ := k.cu a e
    refine ⟨h1, fun z => ?_, h3.keep fun u e => by rw [upd_ne (ne_of_none e hp)]; exact e⟩
    rcases List.mem_append.mp z with z | z
    · exact h2 z
    · exact k.notCu hp (List.mem_singleton.mp z ▸ e)
/-! ### something written -/
theorem Ext.put {i : Nat} (k : Hok c w S H) (hp : w.ad[i]? = some p) : Ext c w H w (upd H p o) :=
  ⟨fun _ _ e => e, ⟨[], by simp, fun _ h => nomatch h⟩, fun b u e hn _ => (by rw [upd_ne (fun (z : b = p) => hn (by rw [z]; exact List.mem_of_getElem? hp))]; exact e), fun b u e hn => (by rw [e] at hn; cases hn), fun b e => (by
    by_cases hb : b = p
    · subst hb; rw [upd_same] at e; cases e
    · rw [upd_ne hb] at e; exact e)⟩
theorem Hok.put {i : Nat} {m : MO} (k : Hok c w S H) (hi : i < S.length) (hp : w.ad[i]? = some p) (hm : MOk c w (upd H p o) p m) : Hok c w (S.set i m) (upd H p o) := by
  have hmem : p ∈ w.ad := List.mem_of_getElem? hp
  obtain ⟨_, _, _, _, hf, hm0⟩ := k.adAt hmem
  obtain ⟨u0, hu0, mu0⟩ := hm0.there
  have own : ∀ b a, H b = some (.own a) → b ≠ p := fun b a e z => by
    subst z
    rw [hu0] at e
    cases e
    exact mu0
  refine ⟨fun b u e => ?_, fun j m' e => ?_, by simp [k.len], k.nd, fun a e => ?_⟩
  · have : b ≠ p := fun z => by subst z; rw [hf] at e; cases e
    rw [upd_ne this]; exact k.fz b u e
  · by_cases hj : j = i
    · subst hj
      rw [List.getElem?_set_self hi] at e
      cases e
      exact ⟨p, hp, hf, hm⟩
    · rw [List.getElem?_set_ne (Ne.symm hj)] at e
      obtain ⟨a, h1, h2, h3⟩ := k.st j m' e
      have hne : a ≠ p := fun z => by
        subst z
        have hl1 := (List.getElem?_eq_some_iff.mp h1)
        have hl2 := (List.getElem?_eq_some_iff.mp hp)
        exact hj ((List.getElem_inj k.nd).mp (hl1.2.trans hl2.2.symm))
      exact ⟨a, h1, h2, h3.keep (WsLe.refl w) (fun u e => by rw [upd_ne hne]; exact e) fun b e => by rw [upd_ne (own b a e)]; exact e⟩
  · obtain ⟨h1, h2, h3⟩ := k.cu a e
    exact ⟨h1, h2, h3.keep fun u e => by rw [upd_ne (fun (z : a = p) => h2 (by rw [z]; exact hmem))]; exact e⟩
end
end RA

/-! RA2: readings of expressions, tests, arguments, targets, statements; names, constants, operators, displays, plain statements. -/
namespace RA
open PySem PySem.Spec L2

abbrev XE := Env → Store → Cm AV
abbrev XT := Env → Store → Cm Bool
abbrev XA := Env → Store → Cm (List AV)
/-- where a statement ends -/
inductive Fl where
  | nx (as : Env)
  | rt (v : AV)
  | bk (as : Env)
  | ct (as : Env)
abbrev XS := Env → Store → Cm Fl
abbrev XG := AV → Env → Store → Cm Env
abbrev K0 (W : XK) : WX := fun cls d _ H => W cls d H

structure EnvOk (c : Ct) (w : Ws) (as : Env) (σ : St) : Prop where
  len : as.length = σ.length
  at_ : ∀ (i : Nat) (x : AV), as[i]? = some (some x) → ∃ v, σ[i]? = some (some v) ∧ Rp c w v x
theorem EnvOk.le {c : Ct} {w w' : Ws} {as : Env} {σ : St} (h : WsLe w w') (e : EnvOk c w as σ) : EnvOk c w' as σ :=
  ⟨e.len, fun i x q => let ⟨v, a, r⟩ := e.at_ i x q; ⟨v, a, r.le h⟩⟩
theorem EnvOk.set {c : Ct} {w : Ws} {as : Env} {σ : St} {v : V} {x : AV} (e : EnvOk c w as σ) (i : Nat) (r : Rp c w v x) : EnvOk c w (as.set i (some x)) (σ.set i (some v)) := by
  refine ⟨by simp [e.len], fun j y q => ?_⟩
  by_cases hj : i = j
  · subst hj
    by_cases hi : i < as.length
    · rw [List.getElem?_set_self hi] at q
      cases q
      exact ⟨v, List.getElem?_set_self (by rw [← e.len]; exact hi), r⟩
    · rw [List.getElem?_eq_none (by simpa using hi)] at q; cases q
  · rw [List.getElem?_set_ne hj] at q ⊢
    exact e.at_ j y q

def ExOk (c : Ct) (w : Ws) (H : Hp) (e : Ex) (cls : Value) (d : Option Addr) : Prop :=
  ∃ Ca, c.mg e.cls = some (.ref Ca) ∧ cls = .ref Ca ∧ (e.fs = [] ∨ ∃ dd ks, d = some dd ∧ H dd = some (.xd ks) ∧ KVok c w ks e.fs)
def PostX (c : Ct) (w : Ws) (H : Hp) (W : XK) (e : Ex) (S' : Store) : Prop := ∀ cls d w' H', Ext c w H w' H' → Hok c w' S' H' → ExOk c w' H' e cls d → W cls d H'
def PostG {α β : Type} (rel : Ct → Ws → β → α → Prop) (c : Ct) (w : Ws) (H : Hp) (Q : β → Hp → Prop) (r : α) (S' : Store) : Prop := ∀ v w' H', Ext c w H w' H' → Hok c w' S' H' → rel c w' v r → Q v H'
abbrev Post := @PostG AV V Rp
def RpB (_ : Ct) (_ : Ws) (b b' : Bool) : Prop := b = b'
theorem PostG.mono {α β : Type} {rel : Ct → Ws → β → α → Prop} {c : Ct} {w w1 : Ws} {H H1 : Hp} {Q : β → Hp → Prop} {r : α} {S' : Store} (E : Ext c w H w1 H1) (q : PostG rel c w H Q r S') : PostG rel c w1 H1 Q r S' :=
  fun v w' H' e k x => q v w' H' (E.trans e) k x
theorem PostX.mono {c : Ct} {w w1 : Ws} {H H1 : Hp} {W : XK} {e : Ex} {S' : Store} (E : Ext c w H w1 H1) (q : PostX c w H W e S') : PostX c w1 H1 W e S' :=
  fun cls d w' H' x k y => q cls d w' H' (E.trans x) k y
/-- the reading of what is worked in a frame -/
def rdG {α β : Type} (rel : Ct → Ws → β → α → Prop) (K : PySem.W.Frag) (mg : Str → Option Value) (W : XK) (f : Env → Store → Cm α) : St → Hp → (β → Hp → Prop) → Prop := fun σ H Q =>
  ∃ c w S as, c.K = K ∧ c.mg = mg ∧ Hok c w S H ∧ EnvOk c w as σ ∧ (f as S).All (PostG rel c w H Q) (PostX c w H W)
abbrev tE (K : PySem.W.Frag) (mg : Str → Option Value) (W : XK) (f : XE) : TE := rdG Rp K mg W f
abbrev tT (K : PySem.W.Frag) (mg : Str → Option Value) (W : XK) (f : XT) : TT := rdG RpB K mg W f
abbrev tA (K : PySem.W.Frag) (mg : Str → Option Value) (W : XK) (f : XA) : TA := rdG Rps K mg W f
/-- one after another -/
theorem rd_step {α β α' β' : Type} {rel : Ct → Ws → β → α → Prop} {rel' : Ct → Ws → β' → α' → Prop} {K : PySem.W.Frag} {mg : Str → Option Value} {W : XK} {c : Ct} {w : Ws} {S : Store} {H : Hp} {as : Env} {σ : St} {f : Env → Store → Cm α} {k : α → Store → Cm α'} {Q : β' → Hp → Prop} {R : β → Hp → Prop}
    (hK : c.K = K) (hM : c.mg = mg) (hk : Hok c w S H) (he : EnvOk c w as σ) (h : ((f as S).bind k).All (PostG rel' c w H Q) (PostX c w H W))
    (go : ∀ v H1 x w1 S1, Ext c w H w1 H1 → Hok c w1 S1 H1 → EnvOk c w1 as σ → rel c w1 v x → (k x S1).All (PostG rel' c w1 H1 Q) (PostX c w1 H1 W) → R v H1) : rdG rel K mg W f σ H R :=
  ⟨c, w, S, as, hK, hM, hk, he, h.bind.mono (fun x S1 hx v w1 H1 e k1 r => go v H1 x w1 S1 e k1 (he.le e.le) r (hx.mono (fun _ _ q => q.mono e) fun _ _ q => q.mono e)) fun _ _ q => q⟩
theorem rd_map {α β : Type} {rel : Ct → Ws → β → α → Prop} {K : PySem.W.Frag} {mg : Str → Option Value} {W : XK} {f : Env → Store → Cm α} {σ : St} {H : Hp} {Q Q' : β → Hp → Prop} (h : rdG rel K mg W f σ H Q) (q : ∀ v H, Q v H → Q' v H) : rdG rel K mg W f σ H Q' := by
  obtain ⟨c, w, S, as, hK, hM, hk, he, h⟩ := h
  exact ⟨c, w, S, as, hK, hM, hk, he, h.mono (fun _ _ p v w' H' a b d => q v H' (p v w' H' a b d)) fun _ _ p => p⟩

def PostS (c : Ct) (w : Ws) (H : Hp) (D : Ends) (r : Fl) (S' : Store) : Prop := match r with
  | .nx as' => ∀ σ' w' H', Ext c w H w' H' → Hok c w' S' H' → EnvOk c w' as' σ' → D.nx σ' H'
  | .bk as' => ∀ σ' w' H', Ext c w H w' H' → Hok c w' S' H' → EnvOk c w' as' σ' → D.bk σ' H'
  | .ct as' => ∀ σ' w' H', Ext c w H w' H' → Hok c w' S' H' → EnvOk c w' as' σ' → D.ct σ' H'
  | .rt x => ∀ v w' H', Ext c w H w' H' → Hok c w' S' H' → Rp c w' v x → D.rt v H'
theorem PostS.mono {c : Ct} {w w1 : Ws} {H H1 : Hp} {D : Ends} {r : Fl} {S' : Store} (E : Ext c w H w1 H1) (q : PostS c w H D r S') : PostS c w1 H1 D r S' := by
  cases r with
  | nx as' => exact fun σ' w' H' e k x => q σ' w' H' (E.trans e) k x
  | bk as' => exact fun σ' w' H' e k x => q σ' w' H' (E.trans e) k x
  | ct as' => exact fun σ' w' H' e k x => q σ' w' H' (E.trans e) k x
  | rt v => exact fun σ' w' H' e k x => q σ' w' H' (E.trans e) k x
def tS (K : PySem.W.Frag) (mg : Str → Option Value) (W : XK) (f : XS) : TS := fun D σ H =>
  ∃ c w S as, c.K = K ∧ c.mg = mg ∧ Hok c w S H ∧ EnvOk c w as σ ∧ (f as S).All (PostS c w H D) (PostX c w H W)
def tGt (K : PySem.W.Frag) (mg : Str → Option Value) (W : XK) (f : XG) : TG := fun v σ H Q =>
  ∃ c w S as x, c.K = K ∧ c.mg = mg ∧ Hok c w S H ∧ EnvOk c w as σ ∧ Rp c w v x ∧ (f x as S).All (fun as' S' => ∀ σ' w' H', Ext c w H w' H' → Hok c w' S' H' → EnvOk c w' as' σ' → Q σ' H') (PostX c w H W)

/-! ### the judgements -/
abbrev AE (X : Cx) (W : XK) (e : Expr) (f : XE) : Prop := PE X e (tE X.K X.mg W f)
abbrev AT (X : Cx) (W : XK) (e : Expr) (f : XT) : Prop := PT X e (tT X.K X.mg W f)
abbrev AW (X : Cx) (W : XK) (e : Expr) (f : XT) : Prop := PW X e (tT X.K X.mg W f)
abbrev AA (X : Cx) (W : XK) (es : List Expr) (f : XA) : Prop := PA X es (tA X.K X.mg W f)
abbrev AS (X : Cx) (W : XK) (s : Stmt) (f : XS) : Prop := PS X s (tS X.K X.mg W f)
abbrev ASs (X : Cx) (W : XK) (s : List Stmt) (f : XS) : Prop := PSs X s (tS X.K X.mg W f)
abbrev AG (X : Cx) (W : XK) (e : Expr) (f : XG) : Prop := PG X e (tGt X.K X.mg W f)
theorem pe_imp {X : Cx} {e : Expr} {t t' : TE} (h : PE X e t) (q : ∀ σ H Q, t' σ H Q → t σ H Q) : PE X e t' := ⟨fun pins s σ H Q I x => h.run pins s σ H Q I (q σ H Q x)⟩
theorem pt_imp {X : Cx} {e : Expr} {t t' : TT} (h : PT X e t) (q : ∀ σ H Q, t' σ H Q → t σ H Q) : PT X e t' := ⟨fun pins s σ H Q I x => h.run pins s σ H Q I (q σ H Q x)⟩
theorem pw_imp {X : Cx} {e : Expr} {t t' : TT} (h : PW X e t) (q : ∀ σ H Q, t' σ H Q → t σ H Q) : PW X e t' := ⟨fun wh pins s σ H Q I x => h.run wh pins s σ H Q I (q σ H Q x)⟩
theorem pa_imp {X : Cx} {e : List Expr} {t t' : TA} (h : PA X e t) (q : ∀ σ H Q, t' σ H Q → t σ H Q) : PA X e t' := ⟨fun pos pins s σ H Q I x => h.run pos pins s σ H Q I (q σ H Q x)⟩
theorem ps_imp {X : Cx} {e : Stmt} {t t' : TS} (h : PS X e t) (q : ∀ D σ H, t' D σ H → t D σ H) : PS X e t' := ⟨fun pins s σ H D I x => h.run pins s σ H D I (q D σ H x)⟩
theorem pss_imp {X : Cx} {e : List Stmt} {t t' : TS} (h : PSs X e t) (q : ∀ D σ H, t' D σ H → t D σ H) : PSs X e t' := ⟨fun pins s σ H D I x => h.run pins s σ H D I (q D σ H x)⟩
theorem pg_imp {X : Cx} {e : Expr} {t t' : TG} (h : PG X e t) (q : ∀ v σ H Q, t' v σ H Q → t v σ H Q) : PG X e t' := ⟨fun pins s σ H v u Q I r x => h.run pins s σ H v u Q I r (q v σ H Q x)⟩

section
variable {X : Cx} {W : XK} {pos : Pos}
/-! ### names, constants -/
def eVar (i : Nat) : XE := fun as S => match as[i]? with
  | some (some x) => .ret x S
  | _ => .stuck
theorem ae_var {e : Expr} (i : Nat) (h : PE X e (tVar i)) : AE X W e (eVar i) := pe_imp h fun σ H Q ⟨c, w, S, as, hK, hM, hk, he, h⟩ => by
  unfold eVar at h
  cases q : as[i]? with
  | none => rw [q] at h; exact h.elim
  | some o =>
    cases o with
    | none => rw [q] at h; exact h.elim
    | some x =>
      rw [q] at h
      obtain ⟨v, hv, r⟩ := he.at_ i x q
      exact ⟨v, hv, h v w H (Ext.refl ..) hk r⟩
def eC (d : PyData) : XE := fun _ S => .ret (.p d) S
theorem ae_c {e : Expr} {v : V} {d : PyData} (h : PE X e (tC v)) (r : ∀ c fz, Dv c fz v d) : AE X W e (eC d) := pe_imp h fun σ H Q ⟨c, w, S, as, hK, hM, hk, he, h⟩ => h v w H (Ext.refl ..) hk (.p (r _ _))
theorem ae_int {i : Int} {j : Nat} : AE X W (.Constant (.int i) j pos) (eC (.int i)) := ae_c pe_int fun _ _ => .int i
theorem ae_bl {i : Bool} {j : Nat} : AE X W (.Constant (.bool i) j pos) (eC (.bool i)) := ae_c pe_bl fun _ _ => .bl i
theorem ae_non {j : Nat} : AE X W (.Constant .none j pos) (eC .none) := ae_c pe_non fun _ _ => .non
theorem ae_str {x : Str} {j : Nat} (y : Str) (h : x = y := by kernel_rfl) : AE X W (.Constant (.str x) j pos) (eC (.str y)) := by
  subst h
  exact ae_c pe_str fun _ _ => .str x
/-! ### operators -/
def Cm.of {α : Type} : Option (α × Store) → Cm α
  | some r => .ret r.1 r.2
  | none => .stuck
theorem Cm.All.of {α : Type} {P : α → Store → Prop} {R : Ex → Store → Prop} {o : Option (α × Store)} (h : (Cm.of o).All P R) : ∃ a S, o = some (a, S) ∧ P a S := by
  cases o with
  | none => exact h.elim
  | some r => exact ⟨r.1, r.2, rfl, h⟩
abbrev Op2 := AV → AV → Store → Option (AV × Store)
abbrev OpN := List AV → Store → Option (AV × Store)
def rB (K : PySem.W.Frag) (mg : Str → Option Value) (g : Op2) : R2 := fun vx vy H Q =>
  ∃ c w S x y z S', c.K = K ∧ c.mg = mg ∧ Hok c w S H ∧ Rp c w vx x ∧ Rp c w vy y ∧ g x y S = some (z, S') ∧ Post c w H Q z S'
def rN (K : PySem.W.Frag) (mg : Str → Option Value) (g : OpN) : List V → Hp → VK → Prop := fun vs H Q =>
  ∃ c w S xs z S', c.K = K ∧ c.mg = mg ∧ Hok c w S H ∧ Rps c w vs xs ∧ g xs S = some (z, S') ∧ Post c w H Q z S'
def e2 (g : Op2) (fa fb : XE) : XE := fun as S => (fa as S).bind fun x S1 => (fb as S1).bind fun y S2 => Cm.of (g x y S2)
def eN (g : OpN) (fa : XA) : XE := fun as S => (fa as S).bind fun xs S1 => Cm.of (g xs S1)
theorem e2_imp {g : Op2} {fa fb : XE} {σ : St} {H : Hp} {Q : VK} {r : R2} (hr : ∀ x y H Q, rB X.K X.mg g x y H Q → r x y H Q) (h : tE X.K X.mg W (e2 g fa fb) σ H Q) : tOp r (tE X.K X.mg W fa) (tE X.K X.mg W fb) σ H Q := by
  obtain ⟨c, w, S, as, hK, hM, hk, he, h⟩ := h
  refine rd_step hK hM hk he h fun v H1 x w1 S1 e1 k1 he1 r1 h1 => ?_
  refine rd_step hK hM k1 he1 h1 fun u H2 y w2 S2 e2 k2 he2 r2 h2 => ?_
  obtain ⟨z, S3, hz, q⟩ := h2.of
  exact hr _ _ _ _ ⟨c, w2, S2, x, y, z, S3, hK, hM, k2, r1.le e2.le, r2, hz, q⟩
theorem ae_bin {op : Operator} {g : Op2} {a b : Expr} {fa fb : XE} (ho : OpR X (binaryOp op) (rB X.K X.mg g)) (ha : AE X W a fa) (hb : AE X W b fb) : AE X W (.BinOp a op b pos) (e2 g fa fb) :=
  pe_imp (pe_op ho ha hb) fun _ _ _ h => e2_imp (fun _ _ _ _ q => q) h
theorem ae_cmp {op : CmpOp} {g : Op2} {a b : Expr} {fa fb : XE} (ho : OpR X (compareOp op) (rB X.K X.mg g)) (ha : AE X W a fa) (hb : AE X W b fb) (hm : behindInMarks op b = false) : AE X W (.Compare a [op] [b] pos) (e2 g fa fb) :=
  pe_imp (pe_cmpR ho ha hb hm) fun _ _ _ h => e2_imp (fun _ _ _ _ q => q) h
/-- a value as a test: it must be a bool -/
def toT (f : XE) : XT := fun as S => (f as S).bind fun x S1 => match x with
  | .p (.bool b) => .ret b S1
  | _ => .stuck
theorem toT_imp {f : XE} {t : TE} {σ : St} {H : Hp} {Q : Bool → Hp → Prop} (ht : ∀ σ H Q, tE X.K X.mg W f σ H Q → t σ H Q) (h : tT X.K X.mg W (toT f) σ H Q) : t σ H fun x H' => ∃ k, x = .bl k ∧ Q k H' := by
  obtain ⟨c, w, S, as, hK, hM, hk, he, h⟩ := h
  refine ht _ _ _ (rd_step hK hM hk he h fun v H1 x w1 S1 e1 k1 he1 r1 h1 => ?_)
  cases x with
  | p d =>
    cases d with
    | bool b =>
      cases r1 with
      | p r1 =>
        cases r1
        exact ⟨b, rfl, h1 b w1 H1 (Ext.refl ..) k1 rfl⟩
    | _ => exact h1.elim
  | _ => exact h1.elim
theorem at_cmp {op : CmpOp} {g : Op2} {a b : Expr} {fa fb : XE} (ho : OpR X (compareOp op) (rB X.K X.mg g)) (ha : AE X W a fa) (hb : AE X W b fb) (hm : behindInMarks op b = false) : AT X W (.Compare a [op] [b] pos) (toT (e2 g fa fb)) :=
  pt_imp (pt_cmpR ho ha hb hm) fun _ _ _ h => toT_imp (fun _ _ _ q => e2_imp (fun _ _ _ _ z => z) q) h
/-- an expression that stands as a test itself -/
theorem at_val {e : Expr} {f : XE} (h : AE X W e f) (he : ∀ whole, isTrue e X.env whole = (do let v ← whole; standAt e.pos; holding [v] (truthy v)) := by intro _; rfl) : AT X W e (toT f) :=
  pt_imp (pt_val h he) fun _ _ _ q => toT_imp (fun _ _ _ z => z) q
/-- as a value -/
def ofT (f : XT) : XE := fun as S => (f as S).bind fun b S1 => .ret (.p (.bool b)) S1

/-! ### and, or, not, if -/
def tAndX (f g : XT) : XT := fun as S => (f as S).bind fun b S1 => match b with
  | true => g as S1
  | false => .ret false S1
def tOrX (f g : XT) : XT := fun as S => (f as S).bind fun b S1 => match b with
  | true => .ret true S1
  | false => g as S1
def tNotX (f : XT) : XT := fun as S => (f as S).bind fun b S1 => .ret (!b) S1
variable {a b e : Expr} {rest : List Expr} {fa fb fc : XE} {ta tb : XT}
theorem aw_and1 (ha : AT X W a ta) : AW X W (.BoolOp .And [a] pos) ta := pw_and1 ha
theorem aw_or1 (ha : AT X W a ta) : AW X W (.BoolOp .Or [a] pos) ta := pw_or1 ha
theorem aw_and (ha : AT X W a ta) (hb : AW X W (.BoolOp .And (b :: rest) pos) tb) : AW X W (.BoolOp .And (a :: b :: rest) pos) (tAndX ta tb) := pw_imp (pw_and ha hb) fun σ H Q ⟨c, w, S, as, hK, hM, hk, he, h⟩ => by
  refine rd_step hK hM hk he h fun v H1 x w1 S1 e1 k1 he1 r1 h1 => ?_
  cases r1
  cases v with
  | true => exact ⟨c, w1, S1, as, hK, hM, k1, he1, h1⟩
  | false => exact h1 false w1 H1 (Ext.refl ..) k1 rfl
theorem aw_or (ha : AT X W a ta) (hb : AW X W (.BoolOp .Or (b :: rest) pos) tb) : AW X W (.BoolOp .Or (a :: b :: rest) pos) (tOrX ta tb) := pw_imp (pw_or ha hb) fun σ H Q ⟨c, w, S, as, hK, hM, hk, he, h⟩ => by
  refine rd_step hK hM hk he h fun v H1 x w1 S1 e1 k1 he1 r1 h1 => ?_
  cases r1
  cases v with
  | false => exact ⟨c, w1, S1, as, hK, hM, k1, he1, h1⟩
  | true => exact h1 true w1 H1 (Ext.refl ..) k1 rfl
theorem at_w (h : AW X W e ta) : AT X W e ta := h.pt
theorem at_not (ha : AT X W a ta) : AT X W (.UnaryOp .Not a pos) (tNotX ta) := pt_imp (pt_not ha) fun σ H Q ⟨c, w, S, as, hK, hM, hk, he, h⟩ => by
  refine rd_step hK hM hk he h fun v H1 x w1 S1 e1 k1 he1 r1 h1 => ?_
  cases r1
  exact h1 _ w1 H1 (Ext.refl ..) k1 rfl
/-- and, or as values: the first is a bool -/
def eAnd (f g : XE) : XE := fun as S => (f as S).bind fun x S1 => match x with
  | .p (.bool true) => g as S1
  | .p (.bool false) => .ret x S1
  | _ => .stuck
def eOr (f g : XE) : XE := fun as S => (f as S).bind fun x S1 => match x with
  | .p (.bool true) => .ret x S1
  | .p (.bool false) => g as S1
  | _ => .stuck
def eNot (f : XE) : XE := fun as S => (f as S).bind fun x S1 => match x with
  | .p (.bool b) => .ret (.p (.bool (!b))) S1
  | _ => .stuck
theorem ae_one {op : BoolOp} (h : AE X W a fa) : AE X W (.BoolOp op [a] pos) fa := pe_one h
theorem ae_and (ha : AE X W a fa) (hb : AE X W (.BoolOp .And (b :: rest) pos) fb) : AE X W (.BoolOp .And (a :: b :: rest) pos) (eAnd fa fb) := pe_imp (pe_and ha hb) fun σ H Q ⟨c, w, S, as, hK, hM, hk, he, h⟩ => by
  refine rd_step hK hM hk he h fun v H1 x w1 S1 e1 k1 he1 r1 h1 => ?_
  cases x with
  | p d =>
    cases d with
    | bool q =>
      cases r1 with
      | p r1 =>
        cases r1
        cases q with
        | true => exact ⟨true, rfl, c, w1, S1, as, hK, hM, k1, he1, h1⟩
        | false => exact ⟨false, rfl, h1 _ w1 H1 (Ext.refl ..) k1 (.p (.bl false))⟩
    | _ => exact h1.elim
  | _ => exact h1.elim
theorem ae_or (ha : AE X W a fa) (hb : AE X W (.BoolOp .Or (b :: rest) pos) fb) : AE X W (.BoolOp .Or (a :: b :: rest) pos) (eOr fa fb) := pe_imp (pe_or ha hb) fun σ H Q ⟨c, w, S, as, hK, hM, hk, he, h⟩ => by
  refine rd_step hK hM hk he h fun v H1 x w1 S1 e1 k1 he1 r1 h1 => ?_
  cases x with
  | p d =>
    cases d with
    | bool q =>
      cases r1 with
      | p r1 =>
        cases r1
        cases q with
        | false => exact ⟨false, rfl, c, w1, S1, as, hK, hM, k1, he1, h1⟩
        | true => exact ⟨true, rfl, h1 _ w1 H1 (Ext.refl ..) k1 (.p (.bl true))⟩
    | _ => exact h1.elim
  | _ => exact h1.elim
theorem ae_not (ha : AE X W a fa) : AE X W (.UnaryOp .Not a pos) (eNot fa) := pe_imp (pe_not ha) fun σ H Q ⟨c, w, S, as, hK, hM, hk, he, h⟩ => by
  refine rd_step hK hM hk he h fun v H1 x w1 S1 e1 k1 he1 r1 h1 => ?_
  cases x with
  | p d =>
    cases d with
    | bool q =>
      cases r1 with
      | p r1 =>
        cases r1
        exact ⟨q, rfl, h1 _ w1 H1 (Ext.refl ..) k1 (.p (.bl _))⟩
    | _ => exact h1.elim
  | _ => exact h1.elim
def eIf (t : XT) (f g : XE) : XE := fun as S => (t as S).bind fun b S1 => match b with
  | true => f as S1
  | false => g as S1
theorem ae_if {q : Expr} (hc : AT X W q ta) (ha : AE X W a fa) (hb : AE X W b fb) : AE X W (.IfExp q a b pos) (eIf ta fa fb) := pe_imp (pe_ifExp hc ha hb) fun σ H Q ⟨c, w, S, as, hK, hM, hk, he, h⟩ => by
  refine rd_step hK hM hk he h fun v H1 x w1 S1 e1 k1 he1 r1 h1 => ?_
  cases r1
  cases v with
  | true => exact ⟨c, w1, S1, as, hK, hM, k1, he1, h1⟩
  | false => exact ⟨c, w1, S1, as, hK, hM, k1, he1, h1⟩
/-- a comparison of three -/
def eChain (g g' : Op2) (fa fb fc : XE) : XE := fun as S => (fa as S).bind fun x S1 => (fb as S1).bind fun y S2 => (Cm.of (g x y S2)).bind fun z S3 => match z with
  | .p (.bool true) => (fc as S3).bind fun u S4 => Cm.of (g' y u S4)
  | .p (.bool false) => .ret z S3
  | _ => .stuck
theorem eChain_imp {g g' : Op2} {σ : St} {H : Hp} {Q : VK} (h : tE X.K X.mg W (eChain g g' fa fb fc) σ H Q) : tChain (rB X.K X.mg g) (rB X.K X.mg g') (tE X.K X.mg W fa) (tE X.K X.mg W fb) (tE X.K X.mg W fc) σ H Q := by
  obtain ⟨c, w, S, as, hK, hM, hk, he, h⟩ := h
  refine rd_step hK hM hk he h fun v H1 x w1 S1 e1 k1 he1 r1 h1 => ?_
  refine rd_step hK hM k1 he1 h1 fun u H2 y w2 S2 e2 k2 he2 r2 h2 => ?_
  obtain ⟨z, S3, hz, q⟩ := h2.bind.of
  refine ⟨c, w2, S2, x, y, z, S3, hK, hM, k2, r1.le e2.le, r2, hz, fun v3 w3 H3 e3 k3 r3 => ?_⟩
  cases z with
  | p d =>
    cases d with
    | bool k =>
      cases r3 with
      | p r3 =>
        cases r3
        refine ⟨k, rfl, ?_⟩
        cases k with
        | true =>
          rw [if_pos rfl]
          have q' : ((fc as S3).bind fun u S4 => Cm.of (g' y u S4)).All (Post c w2 H2 Q) (PostX c w2 H2 W) := q
          refine rd_step hK hM k3 (he2.le e3.le) (q'.mono (fun _ _ z => z.mono e3) fun _ _ z => z.mono e3) fun u4 H4 y4 w4 S4 e4 k4 he4 r4 h4 => ?_
          obtain ⟨z5, S5, hz5, q5⟩ := h4.of
          exact ⟨c, w4, S4, y, y4, z5, S5, hK, hM, k4, r2.le (e3.trans e4).le, r4, hz5, q5⟩
        | false =>
          rw [if_neg Bool.false_ne_true]
          exact q (.bl false) w3 H3 e3 k3 (.p (.bl false))
    | _ => exact False.elim q
  | _ => exact False.elim q
theorem ae_chain {op op' : CmpOp} {g g' : Op2} {d : Expr} (ho : OpR X (compareOp op) (rB X.K X.mg g)) (ho' : OpR X (compareOp op') (rB X.K X.mg g')) (ha : AE X W a fa) (hb : AE X W b fb) (hd : AE X W d fc) (hm : lastMarks [op, op'] [b, d] = false := by rfl) :
    AE X W (.Compare a [op, op'] [b, d] pos) (eChain g g' fa fb fc) := pe_imp (pe_chain ho ho' ha hb hd hm) fun _ _ _ h => eChain_imp h
theorem at_chain {op op' : CmpOp} {g g' : Op2} {d : Expr} (ho : OpR X (compareOp op) (rB X.K X.mg g)) (ho' : OpR X (compareOp op') (rB X.K X.mg g')) (ha : AE X W a fa) (hb : AE X W b fb) (hd : AE X W d fc) (hm : lastMarks [op, op'] [b, d] = false := by rfl) :
    AT X W (.Compare a [op, op'] [b, d] pos) (toT (eChain g g' fa fb fc)) := pt_imp (pt_chain ho ho' ha hb hd hm) fun _ _ _ h => toT_imp (fun _ _ _ q => eChain_imp q) h

/-! ### rows of arguments, displays -/
def aNil : XA := fun _ S => .ret [] S
def aCons (f : XE) (g : XA) : XA := fun as S => (f as S).bind fun x S1 => (g as S1).bind fun xs S2 => .ret (x :: xs) S2
variable {es : List Expr} {ga : XA}
theorem aa_nil : AA X W [] aNil := pa_imp pa_nil fun σ H Q ⟨c, w, S, as, hK, hM, hk, he, h⟩ => h [] w H (Ext.refl ..) hk .nil
theorem aa_cons (ha : AE X W e fa) (hr : AA X W es ga) (hs : starEach (e :: es) X.env = (false, eval e X.env) :: starEach es X.env := by rfl) : AA X W (e :: es) (aCons fa ga) := pa_imp (pa_cons ha hr hs) fun σ H Q ⟨c, w, S, as, hK, hM, hk, he, h⟩ => by
  refine rd_step hK hM hk he h fun v H1 x w1 S1 e1 k1 he1 r1 h1 => ?_
  refine rd_step hK hM k1 he1 h1 fun u H2 y w2 S2 e2 k2 he2 r2 h2 => ?_
  exact h2 _ w2 H2 (Ext.refl ..) k2 (.cons (r1.le e2.le) r2)
theorem post_tup {c : Ct} {w : Ws} {S : Store} {H : Hp} {p : Addr} {vs : List V} {xs : List AV} {Q : VK} (k : Hok c w S H) (hp : H p = none) (r : Rps c w vs xs) (q : Post c w H Q (mkTup xs) S) : Q (.ref p) (upd H p (.tup vs)) := by
  have E := Ext.addF (o := .tup vs) k hp
  exact q _ (w.addF p (.tup vs)) _ E (k.addF hp) (rp_tup upd_same (r.le E.le))
/-- a new list: to be changed, or never -/
def newL (mu : Bool) (xs : List AV) (S : Store) : AV × Store := match mu with
  | true => (.h S.length, S ++ [.lst xs])
  | false => (mkLst xs, S)
theorem post_lst {c : Ct} {w : Ws} {S : Store} {H : Hp} {p : Addr} {vs : List V} {xs : List AV} {Q : VK} (mu : Bool) (k : Hok c w S H) (hp : H p = none) (r : Rps c w vs xs) (q : Post c w H Q (newL mu xs S).1 (newL mu xs S).2) : Q (.ref p) (upd H p (.lst vs)) := by
  cases mu with
  | false =>
    have E := Ext.addF (o := .lst vs) k hp
    exact q _ (w.addF p (.lst vs)) _ E (k.addF hp) (rp_lst upd_same (r.le E.le))
  | true =>
    have E := Ext.addH (o := .lst vs) k hp
    refine q _ (w.addH p) _ E (k.addH hp ⟨vs, upd_same, r.le E.le⟩) (.h ?_)
    show (w.ad ++ [p])[S.length]? = some p
    rw [k.len, List.getElem?_append_right (Nat.le_refl _)]
    simp
def okLen (n : Nat) : Bool := Nat.ble n 16777216
theorem okLen_le {n : Nat} (h : okLen n = true) : n ≤ sizeLine := by
  have : n ≤ 16777216 := Nat.le_of_ble_eq_true h
  rw [sizeLine_eq]
  exact this
def eTup (g : XA) : XE := fun as S => (g as S).bind fun xs S1 => match okLen xs.length with
  | true => .ret (mkTup xs) S1
  | false => .stuck
def eLst (mu : Bool) (g : XA) : XE := fun as S => (g as S).bind fun xs S1 => match okLen xs.length with
  | true => .ret (newL mu xs S1).1 (newL mu xs S1).2
  | false => .stuck
theorem ae_tup {x1 : Nat} (h : AA X W es ga) : AE X W (.Tuple es x1 pos) (eTup ga) := pe_imp (pe_tup h) fun σ H Q ⟨c, w, S, as, hK, hM, hk, he, h⟩ => by
  refine rd_step hK hM hk he h fun vs H1 xs w1 S1 e1 k1 he1 r1 h1 => ?_
  cases q : okLen xs.length with
  | false => rw [q] at h1; exact h1.elim
  | true =>
    rw [q] at h1
    exact ⟨by rw [r1.length]; exact okLen_le q, fun p hp => post_tup k1 hp r1 h1⟩
theorem ae_lst (mu : Bool) (h : AA X W es ga) : AE X W (.List es pos) (eLst mu ga) := pe_imp (pe_lst h) fun σ H Q ⟨c, w, S, as, hK, hM, hk, he, h⟩ => by
  refine rd_step hK hM hk he h fun vs H1 xs w1 S1 e1 k1 he1 r1 h1 => ?_
  cases q : okLen xs.length with
  | false => rw [q] at h1; exact h1.elim
  | true =>
    rw [q] at h1
    exact ⟨by rw [r1.length]; exact okLen_le q, fun p hp => post_lst mu k1 hp r1 h1⟩

/-! ### blocks and plain statements -/
variable {st : Stmt} {sts : List Stmt} {fs gs : XS}
def sNext : XS := fun as S => .ret (.nx as) S
def sSeq (f g : XS) : XS := fun as S => (f as S).bind fun r S1 => match r with
  | .nx as' => g as' S1
  | r => .ret r S1
theorem ass_nil : ASs X W [] sNext := pss_imp pss_nil fun D σ H ⟨c, w, S, as, hK, hM, hk, he, h⟩ => h σ w H (Ext.refl ..) hk he
theorem sSeq_imp {D : Ends} {σ : St} {H : Hp} (h : tS X.K X.mg W (sSeq fs gs) D σ H) : tSeq (tS X.K X.mg W fs) (tS X.K X.mg W gs) D σ H := by
  obtain ⟨c, w, S, as, hK, hM, hk, he, h⟩ := h
  refine ⟨c, w, S, as, hK, hM, hk, he, h.bind.mono (fun r S1 q => ?_) fun _ _ q => q⟩
  cases r with
  | nx as' => exact fun σ' w1 H1 e1 k1 he1 => ⟨c, w1, S1, as', hK, hM, k1, he1, Cm.All.mono (fun _ _ z => PostS.mono e1 z) (fun _ _ z => PostX.mono e1 z) q⟩
  | bk as' => exact q
  | ct as' => exact q
  | rt v => exact q
theorem ass_cons (h1 : AS X W st fs) (h2 : ASs X W sts gs) : ASs X W (st :: sts) (sSeq fs gs) := pss_imp (pss_cons h1 h2) fun _ _ _ h => sSeq_imp h
theorem ass_one (h1 : AS X W st fs) : ASs X W [st] fs := pss_one h1
def sBreak : XS := fun as S => .ret (.bk as) S
def sCont : XS := fun as S => .ret (.ct as) S
theorem as_pass : AS X W (.Pass pos) sNext := ps_imp ps_pass fun D σ H ⟨c, w, S, as, hK, hM, hk, he, h⟩ => h σ w H (Ext.refl ..) hk he
theorem as_break : AS X W (.Break pos) sBreak := ps_imp ps_break fun D σ H ⟨c, w, S, as, hK, hM, hk, he, h⟩ => h σ w H (Ext.refl ..) hk he
theorem as_cont : AS X W (.Continue pos) sCont := ps_imp ps_continue fun D σ H ⟨c, w, S, as, hK, hM, hk, he, h⟩ => h σ w H (Ext.refl ..) hk he
/-- never come to -/
def sNever : XS := fun _ _ => .stuck
theorem as_never : AS X W st sNever := ps_imp ps_never fun D σ H ⟨c, w, S, as, hK, hM, hk, he, h⟩ => h
/-- one after another, in a statement -/
theorem rs_step {α β : Type} {rel : Ct → Ws → β → α → Prop} {K : PySem.W.Frag} {mg : Str → Option Value} {c : Ct} {w : Ws} {S : Store} {H : Hp} {as : Env} {σ : St} {f : Env → Store → Cm α} {k : α → Store → Cm Fl} {D : Ends} {R : β → Hp → Prop}
    (hK : c.K = K) (hM : c.mg = mg) (hk : Hok c w S H) (he : EnvOk c w as σ) (h : ((f as S).bind k).All (PostS c w H D) (PostX c w H W))
    (go : ∀ v H1 x w1 S1, Ext c w H w1 H1 → Hok c w1 S1 H1 → EnvOk c w1 as σ → rel c w1 v x → (k x S1).All (PostS c w1 H1 D) (PostX c w1 H1 W) → R v H1) : rdG rel K mg W f σ H R :=
  ⟨c, w, S, as, hK, hM, hk, he, h.bind.mono (fun x S1 hx v w1 H1 e k1 r => go v H1 x w1 S1 e k1 (he.le e.le) r (hx.mono (fun _ _ q => q.mono e) fun _ _ q => q.mono e)) fun _ _ q => q⟩
def sExpr (f : XE) : XS := fun as S => (f as S).bind fun _ S1 => .ret (.nx as) S1
theorem as_expr (he : AE X W e fa) (hs : swapsWith e none pos.line X.env = pure false := by rfl) : AS X W (.Expr e pos) (sExpr fa) := ps_imp (ps_expr he hs) fun D σ H ⟨c, w, S, as, hK, hM, hk, he, h⟩ => by
  refine rs_step hK hM hk he h fun v H1 x w1 S1 e1 k1 he1 r1 h1 => ?_
  exact h1 σ w1 H1 (Ext.refl ..) k1 he1
def sRet (f : XE) : XS := fun as S => (f as S).bind fun x S1 => .ret (.rt x) S1
theorem as_ret (he : AE X W e fa) : AS X W (.Return (some e) pos) (sRet fa) := ps_imp (ps_ret he) fun D σ H ⟨c, w, S, as, hK, hM, hk, he, h⟩ => by
  refine rs_step hK hM hk he h fun v H1 x w1 S1 e1 k1 he1 r1 h1 => ?_
  exact h1 v w1 H1 (Ext.refl ..) k1 r1
def sRetN : XS := fun _ S => .ret (.rt (.p .none)) S
theorem as_retN : AS X W (.Return none pos) sRetN := ps_imp ps_retN fun D σ H ⟨c, w, S, as, hK, hM, hk, he, h⟩ => h .non w H (Ext.refl ..) hk (.p .non)
def sIf (t : XT) (f g : XS) : XS := fun as S => (t as S).bind fun b S1 => match b with
  | true => f as S1
  | false => g as S1
theorem as_if {q : Expr} {s1 s2 : List Stmt} (hc : AT X W q ta) (ha : ASs X W s1 fs) (hb : ASs X W s2 gs) : AS X W (.If q s1 s2 pos) (sIf ta fs gs) := ps_imp (ps_if hc ha hb) fun D σ H ⟨c, w, S, as, hK, hM, hk, he, h⟩ => by
  refine rs_step hK hM hk he h fun v H1 x w1 S1 e1 k1 he1 r1 h1 => ?_
  cases r1
  cases v with
  | true => exact ⟨c, w1, S1, as, hK, hM, k1, he1, h1⟩
  | false => exact ⟨c, w1, S1, as, hK, hM, k1, he1, h1⟩
/-! ### targets -/
def gNm (i : Nat) : XG := fun x as S => .ret (as.set i (some x)) S
theorem ag_name {e : Expr} (i : Nat) (h : PG X e (gName i)) : AG X W e (gNm i) := pg_imp h fun v σ H Q ⟨c, w, S, as, x, hK, hM, hk, he, r, h⟩ => h _ w H (Ext.refl ..) hk (he.set i r)
def sAsg (f : XE) (g : XG) : XS := fun as S => (f as S).bind fun x S1 => (g x as S1).bind fun as' S2 => .ret (.nx as') S2
theorem sAsg_imp {g : XG} {D : Ends} {σ : St} {H : Hp} (h : tS X.K X.mg W (sAsg fa g) D σ H) : tAsg (tE X.K X.mg W fa) (tGt X.K X.mg W g) D σ H := by
  obtain ⟨c, w, S, as, hK, hM, hk, he, h⟩ := h
  refine rs_step hK hM hk he h fun v H1 x w1 S1 e1 k1 he1 r1 h1 => ?_
  exact ⟨c, w1, S1, as, x, hK, hM, k1, he1, r1, h1.bind.mono (fun as' S2 q => q) fun _ _ q => q⟩
theorem as_asg {tg : Expr} {g : XG} (he : AE X W e fa) (hg : AG X W tg g) (hs : swapsWithSole [tg] e pos.line X.env = pure false := by rfl) (hw : swappedStores [tg] e X.env = pure none := by rfl)
    (h1 : (assignEach [tg] X.env).map (·.2) = [assign tg X.env] := by rfl) : AS X W (.Assign [tg] e pos) (sAsg fa g) := ps_imp (ps_asg he hg hs hw h1) fun _ _ _ h => sAsg_imp h
def sSet (i : Nat) (f : XE) : XS := fun as S => (f as S).bind fun x S1 => .ret (.nx (as.set i (some x))) S1
theorem sSet_imp {i : Nat} {t : TE} {D : Ends} {σ : St} {H : Hp} (ht : ∀ σ H Q, tE X.K X.mg W fa σ H Q → t σ H Q) (h : tS X.K X.mg W (sSet i fa) D σ H) : tAsg t (gName i) D σ H := by
  obtain ⟨c, w, S, as, hK, hM, hk, he, h⟩ := h
  refine ht _ _ _ (rs_step hK hM hk he h fun v H1 x w1 S1 e1 k1 he1 r1 h1 => ?_)
  exact h1 _ w1 H1 (Ext.refl ..) k1 (he1.set i r1)
/-- a name is stored: h by ps_set -/
theorem as_set {i : Nat} (h : PS X st (tAsg (tE X.K X.mg W fa) (gName i))) : AS X W st (sSet i fa) := ps_imp h fun _ _ _ h => sSet_imp (fun _ _ _ q => q) h
end
end RA

set_option exponentiation.threshold 9000
/-! RA3: what is reckoned of values: sums, comparisons, items, slices, lengths. -/
namespace RA
open PySem PySem.Spec L2

/-- a list: unchanging, or in the store -/
def seqL (x : AV) (S : Store) : Option (List AV) := match x with
  | .h n => match S[n]? with
    | some (.lst xs) => some xs
    | _ => none
  | x => lstOf x
theorem rp_seqL {c : Ct} {w : Ws} {S : Store} {H : Hp} {v : V} {x : AV} {xs : List AV} (k : Hok c w S H) (e : seqL x S = some xs) (r : Rp c w v x) : ∃ a vs, v = .ref a ∧ H a = some (.lst vs) ∧ Rps c w vs xs := by
  unfold seqL at e
  split at e
  · rename_i n
    split at e
    · rename_i ys q
      cases e
      cases r with
      | h ha =>
        obtain ⟨a, h1, _, vs, h3, h4⟩ := k.st _ _ q
        rw [ha] at h1
        cases h1
        exact ⟨_, vs, rfl, h3, h4⟩
    · cases e
  · obtain ⟨a, vs, rfl, h1, h2⟩ := rp_lstOf e r
    exact ⟨a, vs, rfl, k.fz _ _ h1, h2⟩
theorem pures_map : ∀ ds : List PyData, pures (ds.map AV.p) = some ds
  | [] => rfl
  | d :: ds => by
    show (match pures (ds.map AV.p) with
      | some ds => some (d :: ds)
      | none => none) = _
    rw [pures_map ds]
theorem rp_retup {c : Ct} {w : Ws} {v : V} {x : AV} {xs : List AV} (e : tupOf x = some xs) (r : Rp c w v x) : Rp c w v (mkTup xs) := by
  cases x with
  | p d =>
    cases d with
    | tuple ds =>
      cases e
      unfold mkTup
      rw [pures_map]
      exact r
    | _ => cases e
  | tup ys =>
    cases e
    cases r with
    | tup s t => exact rp_tup s t
  | _ => cases e
theorem SqT.lift {K : PySem.W.Frag} {f H : Hp} (h : FzLe f H) {a : Addr} {xs : List V} (s : SqT K f a xs) : SqT K H a xs := by
  rcases s with (s | ⟨o, s⟩) | s
  · exact .inl (.inl (h _ _ s))
  · exact .inl (.inr ⟨o, h _ _ s⟩)
  · exact .inr s
theorem rp_tupH {c : Ct} {w : Ws} {S : Store} {H : Hp} {v : V} {x : AV} {xs : List AV} (k : Hok c w S H) (e : tupOf x = some xs) (r : Rp c w v x) : ∃ a vs, v = .ref a ∧ SqT c.K H a vs ∧ Rps c w vs xs := by
  obtain ⟨a, vs, rfl, h1, h2⟩ := rp_tupOf e r
  exact ⟨a, vs, rfl, SqT.lift k.fz h1, h2⟩
theorem rps_nil {c : Ct} {w : Ws} {vs : List V} {xs : List AV} (r : Rps c w vs xs) : vs = [] ↔ xs = [] := by
  have h := r.length
  constructor
  · intro e
    subst e
    exact List.length_eq_zero_iff.mp (by simpa using h.symm)
  · intro e
    subst e
    exact List.length_eq_zero_iff.mp (by simpa using h)
theorem post_same {c : Ct} {w : Ws} {S : Store} {H : Hp} {v : V} {x : AV} {Q : VK} (k : Hok c w S H) (r : Rp c w v x) (q : Post c w H Q x S) : Q v H := q v w H (Ext.refl ..) k r

theorem OpR.imp {X : Cx} {f : Value → Value → Sem Value} {r r' : R2} (h : OpR X f r) (q : ∀ x y H Q, r' x y H Q → r x y H Q) : OpR X f r' := fun pins s σ H x y v u Q I rx ry z => h pins s σ H x y v u Q I rx ry (q _ _ _ _ z)
theorem CallR.imp {X : Cx} {f : Value} {r r' : List V → Hp → VK → Prop} (h : CallR X f r) (q : ∀ x H Q, r' x H Q → r x H Q) : CallR X f r' := fun pins s σ H xs us Q I rs z => h pins s σ H xs us Q I rs (q _ _ _ z)
theorem IxR.imp {X : Cx} {r r' : R2} (h : IxR X r) (q : ∀ x y H Q, r' x y H Q → r x y H Q) : IxR X r' := fun a b pins s σ H x y v u Q I rx ry z => h a b pins s σ H x y v u Q I rx ry (q _ _ _ _ z)
theorem rp_int {c : Ct} {w : Ws} {v : V} {i : Int} (r : Rp c w v (.p (.int i))) : v = .int i := by
  cases r with
  | p r => cases r; rfl
theorem rp_str {c : Ct} {w : Ws} {v : V} {i : Str} (r : Rp c w v (.p (.str i))) : v = .str i := by
  cases r with
  | p r => cases r; rfl
theorem rp_bool {c : Ct} {w : Ws} {v : V} {i : Bool} (r : Rp c w v (.p (.bool i))) : v = .bl i := by
  cases r with
  | p r => cases r; rfl
theorem rp_none {c : Ct} {w : Ws} {v : V} (r : Rp c w v (.p .none)) : v = .non := by
  cases r with
  | p r => cases r; rfl
section
variable {X : Cx}
/-! ### + -/
def gAdd (mu : Bool) : Op2 := fun x y S => match x, y with
  | .p (.int i), .p (.int j) => some (.p (.int (i + j)), S)
  | .p (.str a), .p (.str b) => match okLen (a.length + b.length) with
    | true => some (.p (.str (a ++ b)), S)
    | false => none
  | x, y => match tupOf x, tupOf y with
    | some xs, some ys => match okLen (xs.length + ys.length) with
      | true => some (mkTup (xs ++ ys), S)
      | false => none
    | _, _ => match seqL x S, seqL y S with
      | some xs, some ys => match okLen (xs.length + ys.length) with
        | true => some (newL mu (xs ++ ys) S)
        | false => none
      | _, _ => none
theorem op_gAdd (mu : Bool) : OpR X (binaryOp .Add) (rB X.K X.mg (gAdd mu)) := by
  refine OpR.imp (OpR.or op_add (OpR.or op_add_str (OpR.or op_catA op_cat))) fun vx vy H Q ⟨c, w, S, x, y, z, S', hK, hM, k, rx, ry, e, q⟩ => ?_
  unfold gAdd at e
  split at e
  · cases e
    exact .inl ⟨_, _, rp_int rx, rp_int ry, post_same k (.p (.int _)) q⟩
  · split at e
    · rename_i hl
      cases e
      exact .inr (.inl ⟨_, _, rp_str rx, rp_str ry, okLen_le hl, post_same k (.p (.str _)) q⟩)
    · cases e
  · split at e
    · rename_i xs ys hx hy
      split at e
      · rename_i hl
        cases e
        obtain ⟨a, vs, rfl, ha, ra⟩ := rp_tupH k hx rx
        obtain ⟨b, us, rfl, hb, rb⟩ := rp_tupH k hy ry
        refine .inr (.inr (.inl ⟨a, b, vs, us, rfl, rfl, hK ▸ ha, hK ▸ hb, by rw [ra.length, rb.length]; exact okLen_le hl, fun e => ?_, fun e1 e2 => ?_, fun e1 e2 p hp => post_tup k hp (ra.app rb) q⟩))
        · have : xs = [] := (rps_nil ra).mp e
          subst this
          exact post_same k (rp_retup hy ry) q
        · have : ys = [] := (rps_nil rb).mp e2
          subst this
          rw [List.append_nil] at q
          exact post_same k (rp_retup hx rx) q
      · cases e
    · split at e
      · rename_i xs ys hx hy
        split at e
        · rename_i hl
          have e' := Option.some.inj e
          obtain ⟨a, vs, rfl, ha, ra⟩ := rp_seqL k hx rx
          obtain ⟨b, us, rfl, hb, rb⟩ := rp_seqL k hy ry
          exact .inr (.inr (.inr ⟨a, b, vs, us, rfl, rfl, ha, hb, by rw [ra.length, rb.length]; exact okLen_le hl, fun p hp => post_lst mu k hp (ra.app rb) (by rw [e']; exact q)⟩))
        · cases e
      · cases e
/-! ### -, *, //, %, ** -/
def gInt (C : Int → Int → Bool) (g : Int → Int → Int) : Op2 := fun x y S => match x, y with
  | .p (.int i), .p (.int j) => match C i j with
    | true => some (.p (.int (g i j)), S)
    | false => none
  | _, _ => none
theorem op_gInt {f : Value → Value → Sem Value} {C : Int → Int → Bool} {P : Int → Int → Prop} {g : Int → Int → Int} (h : OpR X f (rI P fun i j => .int (g i j))) (hC : ∀ i j, C i j = true → P i j) : OpR X f (rB X.K X.mg (gInt C g)) := by
  refine OpR.imp h fun vx vy H Q ⟨c, w, S, x, y, z, S', hK, hM, k, rx, ry, e, q⟩ => ?_
  unfold gInt at e
  split at e
  · split at e
    · rename_i hc
      cases e
      exact ⟨_, _, rp_int rx, rp_int ry, hC _ _ hc, post_same k (.p (.int _)) q⟩
    · cases e
  · cases e
def gSub : Op2 := gInt (fun _ _ => true) fun i j => i - j
theorem op_gSub : OpR X (binaryOp .Sub) (rB X.K X.mg gSub) := op_gInt (P := fun _ _ => True) (OpR.imp op_sub fun _ _ _ _ ⟨i, j, a, b, _, q⟩ => ⟨i, j, a, b, q⟩) fun _ _ _ => trivial
def inI (lo hi i : Int) : Bool := match decide (lo < i) with
  | true => decide (i < hi)
  | false => false
theorem inI_ok {lo hi i : Int} (h : inI lo hi i = true) : lo < i ∧ i < hi := by
  unfold inI at h
  split at h
  · rename_i h1
    exact ⟨of_decide_eq_true h1, of_decide_eq_true h⟩
  · cases h
def cDiv (_ j : Int) : Bool := inI 0 1073741824 j
def gDiv : Op2 := gInt cDiv fun i j => i / j
theorem op_gDiv : OpR X (binaryOp .FloorDiv) (rB X.K X.mg gDiv) := op_gInt op_fdiv fun _ _ h => inI_ok h
/-- by a divisor of at most some thousand bits -/
def cDivW (_ j : Int) : Bool := inI 0 (2 ^ 8000) j
def gDivW : Op2 := gInt cDivW fun i j => i / j
theorem op_gDivW : OpR X (binaryOp .FloorDiv) (rB X.K X.mg gDivW) := op_gInt op_fdivW fun i j h => by
  obtain ⟨h1, h2⟩ := inI_ok h
  refine wide_div (b := 8000) h1 ?_ (by decide) (by decide)
  have : j = (j.natAbs : Int) := by omega
  rw [this] at h2
  exact Int.ofNat_lt.mp (by rw [Int.natCast_pow]; exact h2)
def gMod : Op2 := gInt (fun _ j => decide (0 < j)) fun i j => i % j
theorem op_gMod : OpR X (binaryOp .Mod) (rB X.K X.mg gMod) := op_gInt op_mod fun _ _ h => of_decide_eq_true h
def cMul (i j : Int) : Bool := match inI (-18446744073709551616) 18446744073709551616 i with
  | true => true
  | false => inI (-18446744073709551616) 18446744073709551616 j
theorem cMul_ok {i j : Int} (h : cMul i j = true) : CMul i j := by
  unfold cMul at h
  split at h
  · rename_i h1
    exact .inl (inI_ok h1)
  · exact .inr (inI_ok h)
/-- ints; a list or a tuple times an int -/
def gMul (mu : Bool) : Op2 := fun x y S => match y with
  | .p (.int j) => match x with
    | .p (.int i) => match cMul i j with
      | true => some (.p (.int (i * j)), S)
      | false => none
    | x => match tupOf x with
      | some xs => match decide (2 ≤ j) with
        | true => match decide (j ≤ 1000) with
          | true => match Nat.ble xs.length 1000 with
            | true => match xs with
              | [] => none
              | xs => some (mkTup (List.replicate j.toNat xs).flatten, S)
            | false => none
          | false => none
        | false => none
      | none => match seqL x S with
        | some xs => match inI (-1) 1000 j with
          | true => match okLen (xs.length * j.toNat) with
            | true => some (newL mu (List.replicate j.toNat xs).flatten S)
            | false => none
          | false => none
        | none => none
  | _ => none
theorem op_gMul (mu : Bool) : OpR X (binaryOp .Mult) (rB X.K X.mg (gMul mu)) := by
  refine OpR.imp (OpR.or op_mul (OpR.or op_repT op_rep)) fun vx vy H Q ⟨c, w, S, x, y, z, S', hK, hM, k, rx, ry, e, q⟩ => ?_
  unfold gMul at e
  split at e
  · split at e
    · split at e
      · rename_i hc
        cases e
        exact .inl ⟨_, _, rp_int rx, rp_int ry, cMul_ok hc, post_same k (.p (.int _)) q⟩
      · cases e
    · split at e
      · rename_i xs hx
        split at e
        · rename_i h2
          split at e
          · rename_i h3
            split at e
            · rename_i h4
              split at e
              · cases e
              · rename_i hne
                cases e
                obtain ⟨a, vs, rfl, ha, ra⟩ := rp_tupH k hx rx
                refine .inr (.inl ⟨a, _, vs, rfl, rp_int ry, hK ▸ ha, fun z => hne ((rps_nil ra).mp z), of_decide_eq_true h2, of_decide_eq_true h3, by rw [ra.length]; exact Nat.le_of_ble_eq_true h4, fun p hp => post_tup k hp (ra.rep _) q⟩)
            · cases e
          · cases e
        · cases e
      · split at e
        · rename_i xs hx
          split at e
          · rename_i h2
            split at e
            · rename_i h3
              have e' := Option.some.inj e
              obtain ⟨h4, h5⟩ := inI_ok h2
              obtain ⟨a, vs, rfl, ha, ra⟩ := rp_seqL k hx rx
              exact .inr (.inr ⟨a, _, vs, rfl, rp_int ry, ha, by omega, by omega, by rw [ra.length]; exact okLen_le h3, fun p hp => post_lst mu k hp (ra.rep _) (by rw [e']; exact q)⟩)
            · cases e
          · cases e
        · cases e
  · cases e
def cPow (i j : Int) : Bool := match inI (-1) 1000 i with
  | true => inI (-1) 1000 j
  | false => false
def gPow : Op2 := gInt cPow fun i j => i ^ j.toNat
theorem op_gPow : OpR X (binaryOp .Pow) (rB X.K X.mg gPow) := op_gInt op_pow fun i j h => by
  unfold cPow at h
  split at h
  · rename_i h1
    obtain ⟨a, b⟩ := inI_ok h1
    obtain ⟨d, e⟩ := inI_ok h
    exact ⟨by omega, by omega, by have : i.natAbs < 1000 := by omega
                                  exact Nat.lt_of_lt_of_le this (by decide)⟩
  · cases h
def eNeg (f : XE) : XE := fun as S => (f as S).bind fun x S1 => match x with
  | .p (.int i) => .ret (.p (.int (-i))) S1
  | _ => .stuck
theorem ae_neg {W : XK} {a : Expr} {fa : XE} {pos : Pos} (ha : AE X W a fa) : AE X W (.UnaryOp .USub a pos) (eNeg fa) := pe_imp (pe_un un_neg ha) fun σ H Q ⟨c, w, S, as, hK, hM, hk, he, h⟩ => by
  refine rd_step hK hM hk he h fun v H1 x w1 S1 e1 k1 he1 r1 h1 => ?_
  cases x with
  | p d =>
    cases d with
    | int i =>
      cases rp_int r1
      exact ⟨i, rfl, h1 _ w1 H1 (Ext.refl ..) k1 (.p (.int _))⟩
    | _ => exact h1.elim
  | _ => exact h1.elim
/-! ### <, <=, >, >= of ints -/
def gCmp (p : Int → Int → Bool) : Op2 := fun x y S => match x, y with
  | .p (.int i), .p (.int j) => some (.p (.bool (p i j)), S)
  | _, _ => none
theorem op_gCmp {f : Value → Value → Sem Value} {p : Int → Int → Bool} (h : OpR X f (rI0 fun i j => .bl (p i j))) : OpR X f (rB X.K X.mg (gCmp p)) := by
  refine OpR.imp h fun vx vy H Q ⟨c, w, S, x, y, z, S', hK, hM, k, rx, ry, e, q⟩ => ?_
  unfold gCmp at e
  split at e
  · cases e
    exact ⟨_, _, rp_int rx, rp_int ry, post_same k (.p (.bl _)) q⟩
  · cases e
abbrev gLt : Op2 := gCmp fun i j => decide (i < j)
abbrev gLe : Op2 := gCmp fun i j => decide (i ≤ j)
abbrev gGt : Op2 := gCmp fun i j => decide (j < i)
abbrev gGe : Op2 := gCmp fun i j => decide (j ≤ i)
theorem op_gLt : OpR X (compareOp .Lt) (rB X.K X.mg gLt) := op_gCmp op_lt
theorem op_gLe : OpR X (compareOp .LtE) (rB X.K X.mg gLe) := op_gCmp op_le
theorem op_gGt : OpR X (compareOp .Gt) (rB X.K X.mg gGt) := op_gCmp op_gt
theorem op_gGe : OpR X (compareOp .GtE) (rB X.K X.mg gGe) := op_gCmp op_ge
end
/-! ### ==, != -/
mutual
theorem Dv.dp {c : Ct} {fz H : Hp} (hf : FzLe fz H) : ∀ {v : V} (d : PyData), Dv c fz v d → Dp c.K H v d
  | _, .none, r => by cases r; exact .non
  | _, .bool _, r => by cases r; exact .bl _
  | _, .int _, r => by cases r; exact .int _
  | _, .str _, r => by cases r; exact .str _
  | _, .list ds, r => by
    cases r with
    | lst a b => exact .lst (.inl (.inl (hf _ _ a))) (Dvs.dp hf ds b)
  | _, .tuple ds, r => by
    cases r with
    | tup a b => exact .tup (.inl (.inl (hf _ _ a))) (Dvs.dp hf ds b)
    | ktup z a b => exact .tup (.inr a) (Dvs.dp hf ds b)
  | _, .dict _, r => by cases r
theorem Dvs.dp {c : Ct} {fz H : Hp} (hf : FzLe fz H) : ∀ {vs : List V} (ds : List PyData), Dvs c fz vs ds → DpAll c.K H vs ds
  | _, [], r => by cases r; exact .nil
  | _, d :: ds, r => by
    cases r with
    | cons a b => exact .cons (Dv.dp hf d a) (Dvs.dp hf ds b)
end
/-- as plain data, a list of the store too -/
def pureOf (x : AV) (S : Store) : Option PyData := match x with
  | .p d => some d
  | .h n => match S[n]? with
    | some (.lst xs) => match pures xs with
      | some ds => some (.list ds)
      | none => none
    | _ => none
  | _ => none
theorem rp_pureOf {c : Ct} {w : Ws} {S : Store} {H : Hp} {v : V} {x : AV} {d : PyData} (k : Hok c w S H) (e : pureOf x S = some d) (r : Rp c w v x) : Dp c.K H v d := by
  unfold pureOf at e
  split at e
  · cases e
    cases r with
    | p r => exact r.dp k.fz
  · split at e
    · rename_i xs q
      split at e
      · rename_i ds hp
        cases e
        cases r with
        | h ha =>
          obtain ⟨a, h1, _, vs, h3, h4⟩ := k.st _ _ q
          rw [ha] at h1
          cases h1
          exact .lst (.inl (.inl h3)) ((dvs_of hp h4).dp k.fz)
      · cases e
    · cases e
  · cases e
/-- not nested -/
def flatD : PyData → Bool
  | .none => true
  | .bool _ => true
  | .int _ => true
  | .str _ => true
  | _ => false
def strB : List Nat → List Nat → Bool
  | [], [] => true
  | x :: xs, y :: ys => match Nat.beq x y with
    | true => strB xs ys
    | false => false
  | _, _ => false
theorem strB_eq : ∀ xs ys : List Nat, strB xs ys = (xs == ys)
  | [], [] => rfl
  | [], _ :: _ => rfl
  | _ :: _, [] => rfl
  | x :: xs, y :: ys => by
    show (match Nat.beq x y with
      | true => strB xs ys
      | false => false) = (x :: xs == y :: ys)
    rw [List.cons_beq_cons, show (x == y) = Nat.beq x y by rw [Bool.eq_iff_iff]; simp [Nat.beq_eq]]
    cases Nat.beq x y with
    | true => rw [strB_eq xs ys]; simp
    | false => simp
def strE (a b : Str) : Bool := strB a.cps.toList b.cps.toList
theorem str_ext {a b : Str} (h : a.cps.toList = b.cps.toList) : a = b := by
  cases a; cases b
  simp only [Str.mk.injEq]
  exact Array.toList_inj.mp h
theorem strE_eq (a b : Str) : strE a b = decide (a = b) := by
  unfold strE
  rw [strB_eq, Bool.eq_iff_iff, beq_iff_eq, decide_eq_true_iff]
  exact ⟨str_ext, fun h => by rw [h]⟩
def chB : List Nat → Bool
  | [] => true
  | x :: xs => match Nat.blt x 1114112 with
    | true => chB xs
    | false => false
theorem chB_ok {x : Str} (h : chB x.cps.toList = true) : PyData.strOk x = true := by
  have : ∀ l : List Nat, chB l = true → l.all (fun c => decide (c < 0x110000)) = true := by
    intro l
    induction l with
    | nil => intro _; rfl
    | cons y ys ih =>
      intro h
      unfold chB at h
      split at h
      · rename_i h1
        rw [List.all_cons, ih h, Bool.and_true]
        exact decide_eq_true (by simpa [Nat.blt_eq] using h1)
      · cases h
  unfold PyData.strOk
  rw [← Array.all_toList]
  exact this _ h
mutual
def eqvD : PyData → PyData → Bool
  | .none, .none => true
  | .bool a, .bool b => match a with | true => b | false => !b
  | .bool a, .int j => decide ((match a with | true => (1 : Int) | false => 0) = j)
  | .int i, .bool b => decide (i = (match b with | true => (1 : Int) | false => 0))
  | .int i, .int j => decide (i = j)
  | .str x, .str y => strE x y
  | .list xs, .list ys => eqvDs xs ys
  | .tuple xs, .tuple ys => eqvDs xs ys
  | _, _ => false
def eqvDs : List PyData → List PyData → Bool
  | [], [] => true
  | x :: xs, y :: ys => match eqvD x y with
    | true => eqvDs xs ys
    | false => false
  | _, _ => false
end
mutual
theorem eqvD_eq : ∀ x y : PyData, eqvD x y = PyData.eqv x y
  | .none, y => by cases y <;> simp [eqvD, PyData.eqv]
  | .bool a, y => by
    cases y with
    | bool b => cases a <;> cases b <;> rfl
    | int j => cases a <;> simp [eqvD, PyData.eqv] <;> rw [Bool.eq_iff_iff] <;> simp
    | _ => simp [eqvD, PyData.eqv]
  | .int i, y => by
    cases y with
    | bool b => cases b <;> simp [eqvD, PyData.eqv] <;> rw [Bool.eq_iff_iff] <;> simp
    | int j => simp only [eqvD, PyData.eqv]; rw [Bool.eq_iff_iff]; simp
    | _ => simp [eqvD, PyData.eqv]
  | .str a, y => by
    cases y with
    | str b => simp only [eqvD, PyData.eqv]; rw [strE_eq, Bool.eq_iff_iff]; simp
    | _ => simp [eqvD, PyData.eqv]
  | .list xs, y => by
    cases y with
    | list ys => simp only [eqvD, PyData.eqv]; exact eqvDs_eq xs ys
    | _ => simp [eqvD, PyData.eqv]
  | .tuple xs, y => by
    cases y with
    | tuple ys => simp only [eqvD, PyData.eqv]; exact eqvDs_eq xs ys
    | _ => simp [eqvD, PyData.eqv]
  | .dict _, y => by cases y <;> simp [eqvD, PyData.eqv]
theorem eqvDs_eq : ∀ xs ys : List PyData, eqvDs xs ys = PyData.eqvAll xs ys
  | [], [] => by simp [eqvDs, PyData.eqvAll]
  | [], _ :: _ => by simp [eqvDs, PyData.eqvAll]
  | _ :: _, [] => by simp [eqvDs, PyData.eqvAll]
  | x :: xs, y :: ys => by
    simp only [eqvDs, PyData.eqvAll]
    rw [eqvD_eq x y, eqvDs_eq xs ys]
    cases PyData.eqv x y <;> rfl
end
mutual
/-- its texts are texts; not deeper than so many -/
def shN : PyData → Nat → Bool
  | .none, _ => true
  | .bool _, _ => true
  | .int _, _ => true
  | .str x, _ => chB x.cps.toList
  | .list xs, n => match n with | 0 => false | n + 1 => shNs xs n
  | .tuple xs, n => match n with | 0 => false | n + 1 => shNs xs n
  | .dict _, _ => false
def shNs : List PyData → Nat → Bool
  | [], _ => true
  | x :: xs, n => match shN x n with
    | true => shNs xs n
    | false => false
end
mutual
theorem shN_ok : ∀ (d : PyData) (n : Nat), shN d n = true → d.canLay0 = true ∧ d.depth ≤ n
  | .none, n, _ => by simp [PyData.canLay0, PyData.depth]
  | .bool _, n, _ => by simp [PyData.canLay0, PyData.depth]
  | .int _, n, _ => by simp [PyData.canLay0, PyData.depth]
  | .str x, n, h => by
    simp only [shN] at h
    simp only [PyData.canLay0, PyData.depth]
    exact ⟨chB_ok h, Nat.zero_le _⟩
  | .list xs, n, h => by
    simp only [shN] at h
    split at h
    · cases h
    · obtain ⟨a, b⟩ := shNs_ok xs _ h
      simp only [PyData.canLay0, PyData.depth]
      exact ⟨a, Nat.succ_le_succ b⟩
  | .tuple xs, n, h => by
    simp only [shN] at h
    split at h
    · cases h
    · obtain ⟨a, b⟩ := shNs_ok xs _ h
      simp only [PyData.canLay0, PyData.depth]
      exact ⟨a, Nat.succ_le_succ b⟩
  | .dict _, n, h => by simp [shN] at h
theorem shNs_ok : ∀ (ds : List PyData) (n : Nat), shNs ds n = true → PyData.canLayAll0 ds = true ∧ PyData.depthAll ds ≤ n
  | [], n, _ => by simp [PyData.canLayAll0, PyData.depthAll]
  | x :: xs, n, h => by
    unfold shNs at h
    split at h
    · rename_i h1
      obtain ⟨a, b⟩ := shN_ok x n h1
      obtain ⟨a', b'⟩ := shNs_ok xs n h
      simp only [PyData.canLayAll0, PyData.depthAll]
      rw [a, a']
      exact ⟨rfl, Nat.max_le.mpr ⟨b, b'⟩⟩
    · cases h
end
theorem shaped_of {d : PyData} (h : shN d 60 = true) : SeqAt.shaped d = true := by
  obtain ⟨a, b⟩ := shN_ok d 60 h
  unfold SeqAt.shaped
  rw [a, Bool.true_and]
  exact decide_eq_true (Nat.le_trans b (by decide))
def okEq (d e : PyData) : Bool := match shN d 60 with
  | true => shN e 60
  | false => false
theorem okEq_ok {d e : PyData} (h : okEq d e = true) : SeqAt.shaped d = true ∧ SeqAt.shaped e = true := by
  unfold okEq at h
  split at h
  · rename_i h1; exact ⟨shaped_of h1, shaped_of h⟩
  · cases h
/-- == of data -/
def eqD (d e : PyData) : Option Bool := match d, e with
  | .int i, .int j => some (decide (i = j))
  | .str a, .str b => some (strE a b)
  | .bool a, .bool b => some (decide (a = b))
  | .none, .none => some true
  | .none, .int _ => some false
  | .none, .bool _ => some false
  | .none, .str _ => some false
  | .int _, .none => some false
  | .bool _, .none => some false
  | .str _, .none => some false
  | .int _, .str _ => some false
  | .str _, .int _ => some false
  | .bool _, .str _ => some false
  | .str _, .bool _ => some false
  | d, e => match okEq d e with
    | true => some (eqvD d e)
    | false => none
def gEq (neg : Bool) : Op2 := fun x y S => match pureOf x S with
  | some d => match pureOf y S with
    | some e => match eqD d e with
      | some b => some (.p (.bool (match neg with | true => !b | false => b)), S)
      | none => none
    | none => none
  | none => none
section
variable {X : Cx}
theorem rEq_of {vx vy : V} {d e : PyData} {b : Bool} {c : Ct} {H : Hp} {Q : VK} (dx : Dp c.K H vx d) (dy : Dp c.K H vy e) (h : eqD d e = some b) (q : Q (.bl b) H) : rEq vx vy H Q ∨ rEqD c.K vx vy H Q := by
  unfold eqD at h
  split at h
  · cases h; cases dx; cases dy
    refine .inl ⟨rfl, ?_⟩
    rename_i i j
    have e1 : decide (V.int i = V.int j) = decide (i = j) := by rw [Bool.eq_iff_iff]; simp
    rw [e1]; exact q
  · cases h; cases dx; cases dy
    refine .inl ⟨rfl, ?_⟩
    rename_i i j
    have e1 : decide (V.str i = V.str j) = strE i j := by rw [strE_eq, Bool.eq_iff_iff]; simp
    rw [e1]; exact q
  · cases h; cases dx; cases dy
    refine .inl ⟨rfl, ?_⟩
    rename_i i j
    have e1 : decide (V.bl i = V.bl j) = decide (i = j) := by rw [Bool.eq_iff_iff]; simp
    rw [e1]; exact q
  · cases h; cases dx; cases dy; exact .inl ⟨rfl, q⟩
  · cases h; cases dx; cases dy; exact .inl ⟨rfl, q⟩
  · cases h; cases dx; cases dy; exact .inl ⟨rfl, q⟩
  · cases h; cases dx; cases dy; exact .inl ⟨rfl, q⟩
  · cases h; cases dx; cases dy; exact .inl ⟨rfl, q⟩
  · cases h; cases dx; cases dy; exact .inl ⟨rfl, q⟩
  · cases h; cases dx; cases dy; exact .inl ⟨rfl, q⟩
  · cases h; cases dx; cases dy; exact .inl ⟨rfl, q⟩
  · cases h; cases dx; cases dy; exact .inl ⟨rfl, q⟩
  · cases h; cases dx; cases dy; exact .inl ⟨rfl, q⟩
  · cases h; cases dx; cases dy; exact .inl ⟨rfl, q⟩
  · split at h
    · rename_i hs
      cases h
      obtain ⟨hs1, hs2⟩ := okEq_ok hs
      rw [eqvD_eq] at q
      exact .inr ⟨d, e, dx, dy, hs1, hs2, q⟩
    · cases h
theorem rNe_of {vx vy : V} {d e : PyData} {b : Bool} {c : Ct} {H : Hp} {Q : VK} (dx : Dp c.K H vx d) (dy : Dp c.K H vy e) (h : eqD d e = some b) (q : Q (.bl (!b)) H) : rNe vx vy H Q ∨ rNeD c.K vx vy H Q := by
  rcases rEq_of (Q := fun v H => ∃ b, v = .bl b ∧ Q (.bl (!b)) H) dx dy h ⟨b, rfl, q⟩ with ⟨s, b', e1, q'⟩ | ⟨d', e', h1, h2, h3, h4, b', e1, q'⟩
  · refine .inl ⟨s, ?_⟩
    injection e1 with e1
    rw [e1]; exact q'
  · refine .inr ⟨d', e', h1, h2, h3, h4, ?_⟩
    injection e1 with e1
    rw [e1]; exact q'
theorem op_gEq (hu : X.A.units + 64 < cLine) : OpR X (compareOp .Eq) (rB X.K X.mg (gEq false)) := by
  refine OpR.imp (OpR.or op_eq (op_eqD hu)) fun vx vy H Q ⟨c, w, S, x, y, z, S', hK, hM, k, rx, ry, e, q⟩ => ?_
  unfold gEq at e
  split at e
  · rename_i d hx
    split at e
    · rename_i d' hy
      split at e
      · rename_i b hb
        cases e
        rw [← hK]
        exact rEq_of (rp_pureOf k hx rx) (rp_pureOf k hy ry) hb (post_same k (.p (.bl _)) q)
      · cases e
    · cases e
  · cases e
theorem op_gNe (hu : X.A.units + 64 < cLine) : OpR X (compareOp .NotEq) (rB X.K X.mg (gEq true)) := by
  refine OpR.imp (OpR.or op_ne (op_neD hu)) fun vx vy H Q ⟨c, w, S, x, y, z, S', hK, hM, k, rx, ry, e, q⟩ => ?_
  unfold gEq at e
  split at e
  · rename_i d hx
    split at e
    · rename_i d' hy
      split at e
      · rename_i b hb
        cases e
        rw [← hK]
        exact rNe_of (rp_pureOf k hx rx) (rp_pureOf k hy ry) hb (post_same k (.p (.bl _)) q)
      · cases e
    · cases e
  · cases e
/-! ### is None, is True -/
def isNone : AV → Bool
  | .p .none => true
  | _ => false
theorem rp_isNone {c : Ct} {w : Ws} {v : V} {x : AV} (r : Rp c w v x) : decide (v = .non) = isNone x := by
  cases r with
  | p r => cases r <;> rfl
  | _ => rfl
def gIsN (neg : Bool) : Op2 := fun x y S => match y with
  | .p .none => some (.p (.bool (match neg with | true => !isNone x | false => isNone x)), S)
  | _ => none
theorem op_gIsN : OpR X (compareOp .Is) (rB X.K X.mg (gIsN false)) := by
  refine OpR.imp op_isN fun vx vy H Q ⟨c, w, S, x, y, z, S', hK, hM, k, rx, ry, e, q⟩ => ?_
  unfold gIsN at e
  split at e
  · cases e
    exact ⟨rp_none ry, post_same k (by rw [rp_isNone rx]; exact .p (.bl _)) q⟩
  · cases e
theorem op_gNotN : OpR X (compareOp .IsNot) (rB X.K X.mg (gIsN true)) := by
  refine OpR.imp op_notN fun vx vy H Q ⟨c, w, S, x, y, z, S', hK, hM, k, rx, ry, e, q⟩ => ?_
  unfold gIsN at e
  split at e
  · cases e
    exact ⟨rp_none ry, post_same k (by rw [rp_isNone rx]; exact .p (.bl _)) q⟩
  · cases e
def gIsB (neg : Bool) : Op2 := fun x y S => match x, y with
  | .p (.bool a), .p (.bool b) => some (.p (.bool (match neg with | true => !decide (a = b) | false => decide (a = b))), S)
  | _, _ => none
theorem op_gIsB : OpR X (compareOp .Is) (rB X.K X.mg (gIsB false)) := by
  refine OpR.imp op_is_bl fun vx vy H Q ⟨c, w, S, x, y, z, S', hK, hM, k, rx, ry, e, q⟩ => ?_
  unfold gIsB at e
  split at e
  · cases e
    exact ⟨_, _, rp_bool rx, rp_bool ry, post_same k (.p (.bl _)) q⟩
  · cases e
theorem op_gIsNotB : OpR X (compareOp .IsNot) (rB X.K X.mg (gIsB true)) := by
  refine OpR.imp op_isnot_bl fun vx vy H Q ⟨c, w, S, x, y, z, S', hK, hM, k, rx, ry, e, q⟩ => ?_
  unfold gIsB at e
  split at e
  · cases e
    exact ⟨_, _, rp_bool rx, rp_bool ry, post_same k (.p (.bl _)) q⟩
  · cases e
end
end RA

/-! RA4: in, items, slices, dicts, stores to items and fields, built-ins. -/
namespace RA
open PySem PySem.Spec L2

/-! ### dicts by keys -/
def keyB : Key → Key → Bool
  | .inl i, .inl j => decide (i = j)
  | .inr a, .inr b => strE a b
  | _, _ => false
theorem keyB_eq (a b : Key) : keyB a b = decide (a = b) := by
  cases a with
  | inl i => cases b with
    | inl j => show decide (i = j) = _; rw [Bool.eq_iff_iff]; simp
    | inr y => show false = _; rw [Bool.eq_iff_iff]; simp
  | inr x => cases b with
    | inl j => show false = _; rw [Bool.eq_iff_iff]; simp
    | inr y => show strE x y = _; rw [strE_eq, Bool.eq_iff_iff]; simp
def keysB : List Key → List Key → Bool
  | [], [] => true
  | a :: as, b :: bs => match keyB a b with
    | true => keysB as bs
    | false => false
  | _, _ => false
theorem keysB_eq : ∀ a b : List Key, keysB a b = decide (a = b)
  | [], [] => by simp [keysB]
  | [], _ :: _ => by simp [keysB]
  | _ :: _, [] => by simp [keysB]
  | a :: as, b :: bs => by
    show (match keyB a b with
      | true => keysB as bs
      | false => false) = _
    rw [keyB_eq]
    by_cases h : a = b
    · rw [decide_eq_true h]; show keysB as bs = _; rw [keysB_eq as bs, Bool.eq_iff_iff]; simp [h]
    · rw [decide_eq_false h]; show false = _; rw [Bool.eq_iff_iff]; simp [h]
section
variable {κ : Type} [DecidableEq κ]
def lookA (b : κ → κ → Bool) (k : κ) : List (κ × AV) → Option AV
  | [] => none
  | (a, x) :: r => match b a k with
    | true => some x
    | false => lookA b k r
def putA (b : κ → κ → Bool) (kvs : List (κ × AV)) (k : κ) (x : AV) : List (κ × AV) := match kvs.any fun p => b p.1 k with
  | true => kvs.map fun p => match b p.1 k with
    | true => (p.1, x)
    | false => p
  | false => kvs ++ [(k, x)]
def dropA (b : κ → κ → Bool) (kvs : List (κ × AV)) (k : κ) : List (κ × AV) := kvs.filter fun p => !b p.1 k
variable {b : κ → κ → Bool} (hb : ∀ x y, b x y = decide (x = y)) {c : Ct} {w : Ws}
def OptRp (c : Ct) (w : Ws) (o : Option AV) (ov : Option V) : Prop := match o with
  | some x => ∃ v, ov = some v ∧ Rp c w v x
  | none => ov = none
include hb
theorem lookA_ok (k : κ) : ∀ {ks : List (κ × V)} {kvs : List (κ × AV)}, KVok c w ks kvs → OptRp c w (lookA b k kvs) (valV ks k)
  | [], [], .nil => valV_nil
  | (a, v) :: ks, (a', x) :: kvs, .cons ⟨e, r⟩ t => by
    have e : a = a' := e
    subst e
    show OptRp c w (match b a k with
      | true => some x
      | false => lookA b k kvs) (valV ((a, v) :: ks) k)
    rw [hb]
    by_cases h : a = k
    · rw [decide_eq_true h, valV_pos (p := (a, v)) h]
      exact ⟨v, rfl, r⟩
    · rw [decide_eq_false h, valV_neg (p := (a, v)) h]
      exact lookA_ok k t
theorem KVok.map {f : κ × V → κ × V} {g : κ × AV → κ × AV} : ∀ {ks : List (κ × V)} {kvs : List (κ × AV)}, KVok c w ks kvs → (∀ p q, p.1 = q.1 → Rp c w p.2 q.2 → (f p).1 = (g q).1 ∧ Rp c w (f p).2 (g q).2) → KVok c w (ks.map f) (kvs.map g)
  | _, _, .nil, _ => .nil
  | _, _, .cons r t, h => .cons (h _ _ r.1 r.2) (KVok.map t h)
theorem KVok.any (k : κ) : ∀ {ks : List (κ × V)} {kvs : List (κ × AV)}, KVok c w ks kvs → (kvs.any fun p => b p.1 k) = ks.any fun p => decide (p.1 = k)
  | _, _, .nil => rfl
  | p :: ks, q :: kvs, .cons r t => by
    rw [List.any_cons, List.any_cons, KVok.any k t, hb, r.1]
theorem KVok.app : ∀ {ks ks' : List (κ × V)} {kvs kvs' : List (κ × AV)}, KVok c w ks kvs → KVok c w ks' kvs' → KVok c w (ks ++ ks') (kvs ++ kvs')
  | _, _, _, _, .nil, s => s
  | _, _, _, _, .cons r t, s => .cons r (KVok.app t s)
theorem putA_ok {ks : List (κ × V)} {kvs : List (κ × AV)} (r : KVok c w ks kvs) (k : κ) {v : V} {x : AV} (rv : Rp c w v x) : KVok c w (putK ks k v) (putA b kvs k x) := by
  unfold putA putK
  rw [KVok.any hb k r]
  cases h : ks.any fun p => decide (p.1 = k) with
  | true =>
    rw [if_pos rfl]
    refine KVok.map hb r fun p q e rp => ?_
    rw [hb, ← e]
    by_cases h : p.1 = k
    · rw [if_pos h, decide_eq_true h]; exact ⟨rfl, rv⟩
    · rw [if_neg h, decide_eq_false h]; exact ⟨e, rp⟩
  | false =>
    rw [if_neg Bool.false_ne_true]
    exact KVok.app hb r (.cons ⟨rfl, rv⟩ .nil)
theorem dropA_ok (k : κ) : ∀ {ks : List (κ × V)} {kvs : List (κ × AV)}, KVok c w ks kvs → KVok c w (dropK ks k) (dropA b kvs k)
  | _, _, .nil => .nil
  | p :: ks, q :: kvs, .cons r t => by
    unfold dropK dropA
    have e : p.1 = q.1 := r.1
    have ih := dropA_ok k t
    unfold dropK dropA at ih
    by_cases h : p.1 = k
    · rw [List.filter_cons_of_neg (by simp [h]), List.filter_cons_of_neg (by rw [hb, ← e]; simp [h])]
      exact ih
    · rw [List.filter_cons_of_pos (by simp [h]), List.filter_cons_of_pos (by rw [hb, ← e]; simp [h])]
      exact .cons r ih
omit hb in
theorem KVok.length : ∀ {ks : List (κ × V)} {kvs : List (κ × AV)}, KVok c w ks kvs → ks.length = kvs.length
  | _, _, .nil => rfl
  | _, _, .cons _ t => congrArg (· + 1) (KVok.length t)
end
def keyK : AV → Option Key
  | .p (.int i) => some (.inl i)
  | .p (.str s) => some (.inr s)
  | _ => none
def keysD : List PyData → Option (List Key)
  | [] => some []
  | .int i :: r => match keysD r with
    | some ks => some (.inl i :: ks)
    | none => none
  | .str s :: r => match keysD r with
    | some ks => some (.inr s :: ks)
    | none => none
  | _ :: _ => none
def keyT : AV → Option (List Key)
  | .p (.tuple (d :: ds)) => keysD (d :: ds)
  | _ => none
theorem rp_keyK {c : Ct} {w : Ws} {v : V} {x : AV} {k : Key} (e : keyK x = some k) (r : Rp c w v x) : v = kV k := by
  unfold keyK at e
  split at e
  · cases e; exact rp_int r
  · cases e; exact rp_str r
  · cases e
theorem keysD_ok {c : Ct} {fz : Hp} : ∀ {ds : List PyData} {ks : List Key} {vs : List V}, keysD ds = some ks → Dvs c fz vs ds → vs = ks.map kV ∧ ds.all keyD = true
  | [], _, _, e, r => by cases r; cases e; exact ⟨rfl, rfl⟩
  | d :: ds, ks, _, e, r => by
    cases r with
    | cons r1 r2 =>
      unfold keysD at e
      split at e
      · rename_i h; cases h
      · rename_i i r h
        cases h
        split at e
        · rename_i ks' q
          cases e
          cases r1
          obtain ⟨h1, h2⟩ := keysD_ok q r2
          subst h1
          exact ⟨rfl, by simp [keyD, h2]⟩
        · cases e
      · rename_i i r h
        cases h
        split at e
        · rename_i ks' q
          cases e
          cases r1
          obtain ⟨h1, h2⟩ := keysD_ok q r2
          subst h1
          exact ⟨rfl, by simp [keyD, h2]⟩
        · cases e
      · cases e
theorem rp_keyT {c : Ct} {w : Ws} {S : Store} {H : Hp} {v : V} {x : AV} {ks : List Key} (hkk : c.kk = false) (k : Hok c w S H) (e : keyT x = some ks) (r : Rp c w v x) : ∃ b, v = .ref b ∧ H b = some (.tup (ks.map kV)) := by
  unfold keyT at e
  split at e
  · rename_i d ds
    cases r with
    | p r =>
      cases r with
      | tup a t =>
        obtain ⟨h1, _⟩ := keysD_ok e t
        subst h1
        exact ⟨_, rfl, k.fz _ _ a⟩
      | ktup z a t =>
        obtain ⟨_, h2⟩ := keysD_ok e t
        rw [hkk] at z
        simp [noKey, h2] at z
  · cases e
/-- what a dict of the store has at a key -/
def dGet (x y : AV) (S : Store) : Option (Option AV) := match x with
  | .h n => match S[n]? with
    | some (.dk kvs) => match keyK y with
      | some k => some (lookA keyB k kvs)
      | none => none
    | some (.dt kvs) => match keyT y with
      | some k => some (lookA keysB k kvs)
      | none => none
    | _ => none
  | _ => none
theorem rp_dGet {c : Ct} {w : Ws} {S : Store} {H : Hp} {v u : V} {x y : AV} {o : Option AV} (hkk : c.kk = false) (k : Hok c w S H) (e : dGet x y S = some o) (r : Rp c w v x) (ry : Rp c w u y) : ∃ a ov, v = .ref a ∧ DGet H a u ov ∧ OptRp c w o ov := by
  cases x with
  | h n =>
    cases r with
    | h ha =>
      have e : (match S[n]? with
        | some (.dk kvs) => (match keyK y with
          | some k => some (lookA keyB k kvs)
          | none => none)
        | some (.dt kvs) => (match keyT y with
          | some k => some (lookA keysB k kvs)
          | none => none)
        | _ => none) = some o := e
      cases q : S[n]? with
      | none => rw [q] at e; cases e
      | some m =>
        rw [q] at e
        cases m with
        | lst _ => cases e
        | ins _ _ => cases e
        | dk kvs =>
          have e : (match keyK y with
            | some k => some (lookA keyB k kvs)
            | none => none) = some o := e
          cases hk : keyK y with
          | none => rw [hk] at e; cases e
          | some kk =>
            rw [hk] at e
            have e := Option.some.inj e
            subst e
            obtain ⟨a, h1, _, ks, h3, h4⟩ := k.st _ _ q
            rw [ha] at h1
            cases h1
            cases rp_keyK hk ry
            exact ⟨_, _, rfl, DGet.k h3, lookA_ok keyB_eq kk h4⟩
        | dt kvs =>
          have e : (match keyT y with
            | some k => some (lookA keysB k kvs)
            | none => none) = some o := e
          cases hk : keyT y with
          | none => rw [hk] at e; cases e
          | some kk =>
            rw [hk] at e
            have e := Option.some.inj e
            subst e
            obtain ⟨a, h1, _, ks, h3, h4⟩ := k.st _ _ q
            rw [ha] at h1
            cases h1
            obtain ⟨b, rfl, hb⟩ := rp_keyT hkk k hk ry
            exact ⟨_, _, rfl, DGet.t h3 hb, lookA_ok keysB_eq kk h4⟩
  | _ => cases e

/-! ### in -/
def eqF : PyData → PyData → Bool
  | .none, .none => true
  | .bool a, .bool b => a == b
  | .bool a, .int b => (if a then 1 else 0) == b
  | .int a, .bool b => a == (if b then 1 else 0)
  | .int a, .int b => decide (a = b)
  | .str a, .str b => strE a b
  | _, _ => false
def memB (c : Nat) : List Nat → Bool
  | [] => false
  | x :: xs => match Nat.beq c x with
    | true => true
    | false => memB c xs
theorem memB_eq (c : Nat) : ∀ xs : List Nat, memB c xs = decide (c ∈ xs)
  | [] => rfl
  | x :: xs => by
    show (match Nat.beq c x with
      | true => true
      | false => memB c xs) = _
    cases h : Nat.beq c x with
    | true => rw [Nat.eq_of_beq_eq_true h]; simp
    | false =>
      have : c ≠ x := fun e => by subst e; rw [Nat.beq_refl] at h; cases h
      show memB c xs = _
      rw [memB_eq c xs, Bool.eq_iff_iff]
      simp [this]
/-- is x in the row y of data -/
def inD (d : PyData) (ds : List PyData) (whole : PyData) : Option Bool := match flatD d && ds.all flatD with
  | true => some (ds.any fun z => eqF z d)
  | false => match okEq whole d with
    | true => some (ds.any fun z => eqvD z d)
    | false => none
def inA (x y : AV) (S : Store) : Option Bool := match y with
  | .p (.str z) => match x with
    | .p (.str a) => match a.cps.toList with
      | [c] => some (memB c z.cps.toList)
      | _ => none
    | _ => none
  | y => match dGet y x S with
    | some o => some o.isSome
    | none => match pureOf x S with
      | some d => match pureOf y S with
        | some (.list ds) => inD d ds (.list ds)
        | some (.tuple ds) => inD d ds (.tuple ds)
        | _ => none
      | none => none
def gIn (neg : Bool) : Op2 := fun x y S => match inA x y S with
  | some b => some (.p (.bool (match neg with | true => !b | false => b)), S)
  | none => none
section
variable {X : Cx}
theorem dp_flat {K : PySem.W.Frag} {H : Hp} {v : V} {d : PyData} (h : Dp K H v d) (f : flatD d = true) : flatV v = true := by
  cases h with
  | lst _ _ => cases f
  | tup _ _ => cases f
  | _ => rfl
theorem dp_eqF {K : PySem.W.Frag} {H : Hp} {v u : V} {d e : PyData} (h : Dp K H v d) (h' : Dp K H u e) (f : flatD d = true) (f' : flatD e = true) : eqV v u = eqF d e := by
  cases h <;> first | (cases f; done) | skip
  all_goals (cases h' <;> first | (cases f'; done) | skip)
  all_goals first | rfl | (rw [Bool.eq_iff_iff]; simp [eqV, eqF, strE_eq])
theorem dps_any {K : PySem.W.Frag} {H : Hp} {u : V} {e : PyData} (h' : Dp K H u e) (f' : flatD e = true) : ∀ {vs : List V} {ds : List PyData}, DpAll K H vs ds → ds.all flatD = true → vs.all flatV = true ∧ inV u vs = ds.any fun z => eqF z e
  | _, [], r, _ => by cases r; exact ⟨rfl, rfl⟩
  | _, d :: ds, r, f => by
    cases r with
    | cons r1 r2 =>
      rw [List.all_cons, Bool.and_eq_true] at f
      obtain ⟨h1, h2⟩ := dps_any h' f' r2 f.2
      refine ⟨by rw [List.all_cons, dp_flat r1 f.1, h1]; rfl, ?_⟩
      show List.any _ _ = _
      rw [List.any_cons, List.any_cons, dp_eqF r1 h' f.1 f']
      congr 1
def rInData (K : PySem.W.Frag) (neg : Bool) : R2 := fun x y H Q => ∃ d ds, Dp K H x d ∧ (Dp K H y (.list ds) ∧ SeqAt.shaped (.list ds) = true ∨ Dp K H y (.tuple ds) ∧ SeqAt.shaped (.tuple ds) = true) ∧ SeqAt.shaped d = true ∧ Q (.bl (if neg then !ds.any (fun z => PyData.eqv z d) else ds.any fun z => PyData.eqv z d)) H
theorem op_inData (hu : X.A.units + 65 < cLine) : OpR X (compareOp .In) (rInData X.K false) := by
  intro pins s σ H x y v u Q I rx ry h
  obtain ⟨d, ds, hd, he, sd, q⟩ := h
  obtain ⟨as, r1⟩ := Dp.reads I d x v hd rx
  rcases he with ⟨he, se⟩ | ⟨he, se⟩
  · obtain ⟨bs, r2⟩ := Dp.reads I (.list ds) y u he ry
    exact SeqAt.in_list_reads r2 r1 (SeqAt.canLay_of_shaped se) (SeqAt.canLay_of_shaped sd) (PyProof.Rows.room_in_shaped sd hu) ⟨.bl _, H, I, rfl, q⟩
  · obtain ⟨bs, r2⟩ := Dp.reads I (.tuple ds) y u he ry
    exact SeqAt.in_tuple_reads r2 r1 (SeqAt.canLay_of_shaped se) (SeqAt.canLay_of_shaped sd) (PyProof.Rows.room_in_shaped sd hu) ⟨.bl _, H, I, rfl, q⟩
theorem op_notInData (hu : X.A.units + 65 < cLine) : OpR X (compareOp .NotIn) (rInData X.K true) := by
  intro pins s σ H x y v u Q I rx ry h
  obtain ⟨d, ds, hd, he, sd, q⟩ := h
  obtain ⟨as, r1⟩ := Dp.reads I d x v hd rx
  rcases he with ⟨he, se⟩ | ⟨he, se⟩
  · obtain ⟨bs, r2⟩ := Dp.reads I (.list ds) y u he ry
    exact SeqAt.notIn_list_reads r2 r1 (SeqAt.canLay_of_shaped se) (SeqAt.canLay_of_shaped sd) (PyProof.Rows.room_in_shaped sd hu) ⟨.bl _, H, I, rfl, q⟩
  · obtain ⟨bs, r2⟩ := Dp.reads I (.tuple ds) y u he ry
    exact SeqAt.notIn_tuple_reads r2 r1 (SeqAt.canLay_of_shaped se) (SeqAt.canLay_of_shaped sd) (PyProof.Rows.room_in_shaped sd hu) ⟨.bl _, H, I, rfl, q⟩
def rDIn (neg : Bool) : R2 := fun x y H Q => ∃ a o, y = .ref a ∧ DGet H a x o ∧ Q (.bl (if neg then !o.isSome else o.isSome)) H
theorem op_dIn (hu : X.A.units + 1 < cLine) : OpR X (compareOp .In) (rDIn false) := by
  intro pins s σ H x y v u Q I rx ry ⟨a, o, e, g, q⟩
  subst e
  cases ry
  exact d_in hu I g rx fun s3 I3 => ⟨.bl o.isSome, H, I3, rfl, q⟩
theorem op_dNotIn (hu : X.A.units + 1 < cLine) : OpR X (compareOp .NotIn) (rDIn true) := by
  intro pins s σ H x y v u Q I rx ry ⟨a, o, e, g, q⟩
  subst e
  cases ry
  exact d_notIn hu I g rx fun s3 I3 => ⟨.bl (!o.isSome), H, I3, rfl, q⟩
def rSign (neg : Bool) : R2 := fun x y H Q => ∃ (c : Nat) (z : Str), x = .str ⟨#[c]⟩ ∧ y = .str z ∧ Q (.bl (if neg then !decide (c ∈ z.cps.toList) else decide (c ∈ z.cps.toList))) H
theorem in_imp {neg : Bool} {vx vy : V} {H : Hp} {Q : VK} (hkk : kkOf X.mg = false) (h : rB X.K X.mg (gIn neg) vx vy H Q) :
    rSign neg vx vy H Q ∨ rDIn neg vx vy H Q ∨ rIn X.K neg vx vy H Q ∨ rInData X.K neg vx vy H Q := by
  obtain ⟨c, w, S, x, y, z, S', hK, hM, k, rx, ry, e, q⟩ := h
  unfold gIn at e
  cases hb : inA x y S with
  | none => rw [hb] at e; cases e
  | some b =>
    rw [hb] at e
    cases e
    have fin : ∀ b', b' = b → Q (.bl (if neg = true then !b' else b')) H := fun b' hb' => by
      subst hb'
      refine post_same k ?_ q
      cases neg <;> exact .p (.bl _)
    have rest : (match dGet y x S with
        | some o => some o.isSome
        | none => match pureOf x S with
          | some d => match pureOf y S with
            | some (.list ds) => inD d ds (.list ds)
            | some (.tuple ds) => inD d ds (.tuple ds)
            | _ => none
          | none => none) = some b → rSign neg vx vy H Q ∨ rDIn neg vx vy H Q ∨ rIn X.K neg vx vy H Q ∨ rInData X.K neg vx vy H Q := fun hb => by
      cases hg : dGet y x S with
      | some o =>
        rw [hg] at hb
        have hb := Option.some.inj hb
        obtain ⟨a, ov, e1, g, e2⟩ := rp_dGet (by show kkOf c.mg = false; rw [hM]; exact hkk) k hg ry rx
        refine .inr (.inl ⟨a, ov, e1, g, fin _ ?_⟩)
        rw [← hb]
        cases o with
        | none => rw [show ov = none from e2]; rfl
        | some z =>
          obtain ⟨v, e3, _⟩ := e2
          rw [e3]; rfl
      | none =>
        rw [hg] at hb
        cases hx : pureOf x S with
        | none => rw [hx] at hb; cases hb
        | some d =>
          rw [hx] at hb
          have dx := rp_pureOf k hx rx
          have both : ∀ (whole : PyData) (ds : List PyData), inD d ds whole = some b → (∀ a xs, vy = .ref a → (SqL c.K H a xs ∨ SqT c.K H a xs) → True) → (∃ a vs, vy = .ref a ∧ (SqL c.K H a vs ∨ SqT c.K H a vs) ∧ DpAll c.K H vs ds) → (SeqAt.shaped whole = true → Dp c.K H vy (.list ds) ∧ SeqAt.shaped (.list ds) = true ∨ Dp c.K H vy (.tuple ds) ∧ SeqAt.shaped (.tuple ds) = true) → rIn X.K neg vx vy H Q ∨ rInData X.K neg vx vy H Q := fun whole ds hi _ ⟨a, vs, e1, hs, ha⟩ hw => by
            unfold inD at hi
            split at hi
            · rename_i hf
              rw [Bool.and_eq_true] at hf
              obtain ⟨f1, f2⟩ := dps_any dx hf.1 ha hf.2
              exact .inl ⟨a, vs, e1, hK ▸ hs, dp_flat dx hf.1, f1, by
                have := fin (inV vx vs) (by rw [f2]; exact Option.some.inj hi)
                cases neg <;> simpa using this⟩
            · split at hi
              · rename_i hf
                obtain ⟨h1, hf⟩ := okEq_ok hf
                refine .inr ⟨d, ds, hK ▸ dx, hK ▸ hw h1, hf, ?_⟩
                have e1 : (ds.any fun z => PyData.eqv z d) = ds.any fun z => eqvD z d := by congr 1; funext z; exact (eqvD_eq z d).symm
                have := fin (ds.any fun z => PyData.eqv z d) (by rw [e1]; exact Option.some.inj hi)
                cases neg <;> simpa using this
              · cases hi
          cases hy : pureOf y S with
          | none => rw [hy] at hb; cases hb
          | some e =>
            rw [hy] at hb
            have dy := rp_pureOf k hy ry
            cases e with
            | list ds =>
              cases dy with
              | lst s1 s2 => exact .inr (.inr (both _ ds hb (fun _ _ _ _ => trivial) ⟨_, _, rfl, .inl s1, s2⟩ fun hs => .inl ⟨.lst s1 s2, hs⟩))
            | tuple ds =>
              cases dy with
              | tup s1 s2 => exact .inr (.inr (both _ ds hb (fun _ _ _ _ => trivial) ⟨_, _, rfl, .inr s1, s2⟩ fun hs => .inr ⟨.tup s1 s2, hs⟩))
            | _ => cases hb
    unfold inA at hb
    split at hb
    · split at hb
      · split at hb
        · rename_i z' a c' hc
          have hb := Option.some.inj hb
          refine .inl ⟨c', _, ?_, rp_str ry, fin _ (by rw [← memB_eq]; exact hb)⟩
          rw [rp_str rx]
          exact congrArg V.str (str_ext hc)
        · cases hb
      · cases hb
    · exact rest hb
theorem op_signIn : OpR X (compareOp .In) (rSign false) := OpR.imp op_in_sign fun _ _ _ _ ⟨c, z, a, b, q⟩ => ⟨c, z, a, b, by simpa using q⟩
theorem op_signNotIn : OpR X (compareOp .NotIn) (rSign true) := OpR.imp op_notIn_sign fun _ _ _ _ ⟨c, z, a, b, q⟩ => ⟨c, z, a, b, by simpa using q⟩
theorem op_gIn (hkk : kkOf X.mg = false) (hu : X.A.units + 65 < cLine) : OpR X (compareOp .In) (rB X.K X.mg (gIn false)) :=
  OpR.imp (OpR.or op_signIn (OpR.or (op_dIn (Nat.lt_of_le_of_lt (Nat.add_le_add_left (by decide) _) hu)) (OpR.or op_in_seq (op_inData hu)))) fun _ _ _ _ h => in_imp hkk h
theorem op_gNotIn (hkk : kkOf X.mg = false) (hu : X.A.units + 65 < cLine) : OpR X (compareOp .NotIn) (rB X.K X.mg (gIn true)) :=
  OpR.imp (OpR.or op_signNotIn (OpR.or (op_dNotIn (Nat.lt_of_le_of_lt (Nat.add_le_add_left (by decide) _) hu)) (OpR.or op_notIn_seq (op_notInData hu)))) fun _ _ _ _ h => in_imp hkk h
end
end RA

/-! RA5: items, slices, stores to items, rows unpacked, built-ins. -/
namespace RA
open PySem PySem.Spec L2
section
variable {X : Cx} {W : XK} {pos : Pos}
/-! ### items -/
def rDG : R2 := fun x y H Q => ∃ a v, x = .ref a ∧ DGet H a y (some v) ∧ Q v H
theorem ix_dict (hu : X.A.units + 1 < cLine) : IxR X rDG := by
  intro value slice pins s σ H x y v u Q I rx ry ⟨a, z, e, g, q⟩ hs
  subst e
  cases rx
  have hT := dict_typeIs I g
  have h₂ : wpAny (model X.prog X.w) X.A (getItem (.ref a) u) (EP X pins σ Q) X.xe s := d_getItem hu I g ry fun w' s3 I3 rw' => ⟨z, H, I3, rw', q⟩
  unfold PyProof.Rows.subscriptTail
  refine wpAny_bind ?_
  rw [getitemInPython_of_ne hT.not_modules]
  refine wpAny_bind (wpAny_specialOf hT PySem.F.slot_dict_getitem.lookup ?_)
  have fin : wpAny (model X.prog X.w) X.A (subscripted slice false (.ref a) u) (fun r s₃ => wpAny (model X.prog X.w) X.A (letTemporaryGo value (.ref a) r >>= fun _ => pure r) (EP X pins σ Q) X.xe s₃) X.xe s := by
    rw [hs]
    exact wpAny_operating (wpAny_mono h₂ (fun r s₃ h₃ => wpAny_bind (wpAny_letTemporaryGo (wpAny_pure h₃))) fun _ _ x => x)
  first
    | exact wpAny_pure (wpAny_bind fin)
    | exact wpAny_bind (wpAny_pure (wpAny_bind fin))
    | exact wpAny_bind fin
def gIx : Op2 := fun x y S => match y with
  | .p (.int i) => match x with
    | .p (.tuple ds) => match atI ds i with
      | some d => some (.p d, S)
      | none => none
    | .tup xs => match atI xs i with
      | some z => some (z, S)
      | none => none
    | .p (.str z) => match okLen z.length with
      | true => match atI z.cps.toList i with
        | some c => some (.p (.str ⟨#[c]⟩), S)
        | none => none
      | false => none
    | x => match seqL x S with
      | some xs => match atI xs i with
        | some z => some (z, S)
        | none => none
      | none => match dGet x y S with
        | some (some z) => some (z, S)
        | _ => none
  | y => match dGet x y S with
    | some (some z) => some (z, S)
    | _ => none
theorem atI_map {α β : Type} (f : α → β) (xs : List α) (i : Int) : atI (xs.map f) i = (atI xs i).map f := by
  unfold atI
  rw [List.length_map]
  cases ixN xs.length i with
  | none => rfl
  | some j => show (xs.map f)[j]? = (xs[j]?).map f; rw [List.getElem?_map]
theorem rps_atI {c : Ct} {w : Ws} {vs : List V} {xs : List AV} (r : Rps c w vs xs) {i : Int} {z : AV} (e : atI xs i = some z) : ∃ v, atI vs i = some v ∧ Rp c w v z := by
  unfold atI at e ⊢
  rw [r.length]
  cases q : ixN xs.length i with
  | none => rw [q] at e; cases e
  | some j =>
    rw [q] at e
    exact r.get e
theorem ix_imp (hkk : kkOf X.mg = false) {vx vy : V} {H : Hp} {Q : VK} (h : rB X.K X.mg gIx vx vy H Q) : rIx X.K vx vy H Q ∨ rDG vx vy H Q := by
  obtain ⟨c, w, S, x, y, z, S', hK, hM, k, rx, ry, e, q⟩ := h
  have dic : (match dGet x y S with
      | some (some z) => some (z, S)
      | _ => none) = some (z, S') → rIx X.K vx vy H Q ∨ rDG vx vy H Q := fun e => by
    cases hg : dGet x y S with
    | none => rw [hg] at e; cases e
    | some o =>
      rw [hg] at e
      cases o with
      | none => cases e
      | some z' =>
        cases e
        obtain ⟨a, ov, e1, g, v, e3, r3⟩ := rp_dGet (by show kkOf c.mg = false; rw [hM]; exact hkk) k hg rx ry
        subst e3
        exact .inr ⟨a, v, e1, g, post_same k r3 q⟩
  unfold gIx at e
  split at e
  · rename_i i
    have ey := rp_int ry
    split at e
    · rename_i ds
      split at e
      · rename_i d hd
        cases e
        obtain ⟨a, vs, rfl, ha, ra⟩ := rp_tupH (xs := ds.map AV.p) k rfl rx
        obtain ⟨v, hv, rv⟩ := rps_atI ra (z := .p d) (by rw [atI_map, hd]; rfl)
        exact .inl (.inr (.inl ⟨a, vs, i, v, rfl, ey, hK ▸ ha, hv, post_same k rv q⟩))
      · cases e
    · rename_i xs
      split at e
      · rename_i d hd
        cases e
        obtain ⟨a, vs, rfl, ha, ra⟩ := rp_tupH (xs := xs) k rfl rx
        obtain ⟨v, hv, rv⟩ := rps_atI ra hd
        exact .inl (.inr (.inl ⟨a, vs, i, v, rfl, ey, hK ▸ ha, hv, post_same k rv q⟩))
      · cases e
    · rename_i s
      split at e
      · rename_i hl
        split at e
        · rename_i c' hc
          cases e
          exact .inl (.inr (.inr ⟨_, _, c', rp_str rx, ey, okLen_le hl, hc, post_same k (.p (.str _)) q⟩))
        · cases e
      · cases e
    · split at e
      · rename_i xs hx
        split at e
        · rename_i d hd
          cases e
          obtain ⟨a, vs, rfl, ha, ra⟩ := rp_seqL k hx rx
          obtain ⟨v, hv, rv⟩ := rps_atI ra hd
          exact .inl (.inl ⟨a, vs, i, v, rfl, ey, .inl (.inl ha), hv, post_same k rv q⟩)
        · cases e
      · exact dic e
  · exact dic e
theorem ae_ix {a b : Expr} {fa fb : XE} (hkk : kkOf X.mg = false) (hu : X.A.units + 1 < cLine) (ha : AE X W a fa) (hb : AE X W b fb) (hs : PlainIx b) : AE X W (.Subscript a b pos) (e2 gIx fa fb) :=
  pe_imp (pe_ix (IxR.or ix_seq (ix_dict hu)) ha hb hs) fun _ _ _ h => e2_imp (fun _ _ _ _ q => ix_imp hkk q) h

/-! ### slices -/
abbrev XO := Env → Store → Cm (Option Int)
def oNone : XO := fun _ S => .ret none S
def oSome (f : XE) : XO := fun as S => (f as S).bind fun x S1 => match x with
  | .p (.int i) => .ret (some i) S1
  | _ => .stuck
def RpO (_ : Ct) (_ : Ws) (b b' : Option Int) : Prop := b = b'
abbrev AO (X : Cx) (W : XK) (e : Option Expr) (f : XO) : Prop := PO X e (rdG RpO X.K X.mg W f)
theorem po_imp {X : Cx} {e : Option Expr} {t t' : TO} (h : PO X e t) (q : ∀ σ H Q, t' σ H Q → t σ H Q) : PO X e t' := ⟨fun pins s σ H Q I x => h.run pins s σ H Q I (q σ H Q x)⟩
theorem ao_none : AO X W none oNone := po_imp po_none fun σ H Q ⟨c, w, S, as, hK, hM, hk, he, h⟩ => h none w H (Ext.refl ..) hk rfl
theorem ao_some {e : Expr} {f : XE} (h : AE X W e f) : AO X W (some e) (oSome f) := po_imp (po_some h) fun σ H Q ⟨c, w, S, as, hK, hM, hk, he, h⟩ => by
  refine rd_step hK hM hk he h fun v H1 x w1 S1 e1 k1 he1 r1 h1 => ?_
  cases x with
  | p d =>
    cases d with
    | int i =>
      cases rp_int r1
      exact ⟨i, rfl, h1 _ w1 H1 (Ext.refl ..) k1 rfl⟩
    | _ => exact h1.elim
  | _ => exact h1.elim
def cut {α : Type} (xs : List α) (lo hi : Option Int) : List α := (xs.drop (HT.sIx xs.length 0 lo)).take (HT.sIx xs.length xs.length hi - HT.sIx xs.length 0 lo)
theorem cut_map {α β : Type} (f : α → β) (xs : List α) (lo hi : Option Int) : cut (xs.map f) lo hi = (cut xs lo hi).map f := by
  unfold cut
  rw [List.length_map, ← List.map_drop, ← List.map_take]
/-- a slice of a tuple, a list (a new one, never changed), a text -/
def gCut (mu : Bool) (x : AV) (lo hi : Option Int) (S : Store) : Option (AV × Store) := match x with
  | .p (.tuple ds) => some (.p (.tuple (cut ds lo hi)), S)
  | .tup xs => some (mkTup (cut xs lo hi), S)
  | .p (.str z) => match okLen z.length with
    | true => some (.p (.str ⟨(cut z.cps.toList lo hi).toArray⟩), S)
    | false => none
  | x => match seqL x S with
    | some xs => some (newL mu (cut xs lo hi) S)
    | none => none
def eCut (mu : Bool) (f : XE) (l h : XO) : XE := fun as S => (f as S).bind fun x S1 => (l as S1).bind fun lo S2 => (h as S2).bind fun hi S3 => Cm.of (gCut mu x lo hi S3)
theorem cutV_cut (xs : List V) (lo hi : Option Int) : cutV xs lo hi = cut xs lo hi := rfl
theorem rps_cut {c : Ct} {w : Ws} {vs : List V} {xs : List AV} (r : Rps c w vs xs) (lo hi : Option Int) : Rps c w (cutV vs lo hi) (cut xs lo hi) := by
  rw [cutV_cut]
  unfold cut
  rw [r.length]
  exact (r.drop _).take _
theorem cut_all {α : Type} {xs : List α} {lo hi : Option Int} (h : HT.sIx xs.length 0 lo = 0 ∧ HT.sIx xs.length xs.length hi = xs.length) : cut xs lo hi = xs := by
  unfold cut
  rw [h.1, h.2]
  simp
theorem newL_eq {mu : Bool} {xs : List AV} {S S' : Store} {z : AV} (e : some (newL mu xs S) = some (z, S')) {c : Ct} {w : Ws} {H : Hp} {Q : VK} (q : Post c w H Q z S') : Post c w H Q (newL mu xs S).1 (newL mu xs S).2 := by
  rw [Option.some.inj e]; exact q
theorem cut_imp {mu : Bool} {c : Ct} {w : Ws} {S S' : Store} {H : Hp} {Q : VK} {v : V} {x z : AV} {lo hi : Option Int} (k : Hok c w S H) (r : Rp c w v x) (e : gCut mu x lo hi S = some (z, S')) (q : Post c w H Q z S') :
    rSlA c.K v lo hi H Q ∨ rSlL c.K v lo hi H Q ∨ rSlS v lo hi H Q := by
  have tup : ∀ xs, tupOf x = some xs → Post c w H Q (mkTup (cut xs lo hi)) S → rSlA c.K v lo hi H Q := fun xs hx q => by
    obtain ⟨a, vs, rfl, ha, ra⟩ := rp_tupH k hx r
    refine ⟨a, vs, rfl, ha, fun h => ?_, fun h p hp => post_tup k hp (rps_cut ra lo hi) q⟩
    rw [ra.length] at h
    rw [cut_all h] at q
    exact post_same k (rp_retup hx r) q
  unfold gCut at e
  split at e
  · rename_i ds
    cases e
    refine .inl (tup (ds.map AV.p) rfl ?_)
    rw [cut_map]
    unfold mkTup
    rw [pures_map]
    exact q
  · rename_i xs
    cases e
    exact .inl (tup xs rfl q)
  · split at e
    · rename_i hl
      cases e
      exact .inr (.inr ⟨_, rp_str r, okLen_le hl, post_same k (.p (.str _)) q⟩)
    · cases e
  · split at e
    · rename_i xs hx
      obtain ⟨a, vs, rfl, ha, ra⟩ := rp_seqL k hx r
      exact .inr (.inl ⟨a, vs, rfl, .inl (.inl ha), fun p hp => post_lst mu k hp (rps_cut ra lo hi) (newL_eq e q)⟩)
    · cases e
theorem ae_cut {e : Expr} {l h : Option Expr} {f : XE} {fl fh : XO} {p2 : Pos} (mu : Bool) (he : AE X W e f) (hl : AO X W l fl) (hh : AO X W h fh) : AE X W (.Subscript e (.Slice l h none p2) pos) (eCut mu f fl fh) :=
  pe_imp (pe_slice (SlR.or sl_tupA (SlR.or sl_list sl_str)) he hl hh) fun σ H Q ⟨c, w, S, as, hK, hM, hk, he, h⟩ => by
    refine rd_step hK hM hk he h fun v H1 x w1 S1 e1 k1 he1 r1 h1 => ?_
    refine rd_step hK hM k1 he1 h1 fun lo H2 lo' w2 S2 e2 k2 he2 r2 h2 => ?_
    refine rd_step hK hM k2 he2 h2 fun hi H3 hi' w3 S3 e3 k3 he3 r3 h3 => ?_
    cases r2
    cases r3
    obtain ⟨z, S4, hz, q⟩ := h3.of
    rw [← hK]
    exact cut_imp k3 (r1.le (e2.trans e3).le) hz q

/-! ### built-ins by values -/
variable {es : List Expr} {e : Expr} {ga : XA}
theorem ae_fn {x : Str} {p : Pos} {id : String} {g : OpN} (hc : CallR X (.builtin id) (rN X.K X.mg g)) (hg : Gl X x) (hm : X.mg x = none) (hv : bootBuiltins x = some (.builtin id)) (ha : AA X W (e :: es) ga) (hn : x ≠ "__name__" := by decide) (hdb : (x == ("__debug__" : Str)) = false := by decide)
    (h1 : starEach (e :: es) X.env = (false, eval e X.env) :: starEach es X.env := by rfl) (h2 : (backTo pos (starEach es X.env)).any (·.1) = false := by rfl) : AE X W (.Call (.Name x p) (e :: es) [] pos) (eN g ga) :=
  pe_imp (pe_callB hc hg hm hv ha hn hdb h1 h2) fun σ H Q ⟨c, w, S, as, hK, hM, hk, he, h⟩ => by
    refine rd_step hK hM hk he h fun vs H1 xs w1 S1 e1 k1 he1 r1 h1 => ?_
    obtain ⟨z, S4, hz, q⟩ := h1.of
    exact ⟨c, w1, S1, xs, z, S4, hK, hM, k1, r1, hz, q⟩
theorem ae_ty {x : Str} {p : Pos} {T : String} {g : OpN} (hc : CallR X (.type T) (rN X.K X.mg g)) (hg : Gl X x) (hm : X.mg x = none) (hv : bootBuiltins x = some (.type T)) (ha : AA X W (e :: es) ga) (hn : x ≠ "__name__" := by decide) (hdb : (x == ("__debug__" : Str)) = false := by decide)
    (h1 : starEach (e :: es) X.env = (false, eval e X.env) :: starEach es X.env := by rfl) (h2 : (backTo pos (starEach es X.env)).any (·.1) = false := by rfl) : AE X W (.Call (.Name x p) (e :: es) [] pos) (eN g ga) :=
  pe_imp (pe_callTy hc hg hm hv ha hn hdb h1 h2) fun σ H Q ⟨c, w, S, as, hK, hM, hk, he, h⟩ => by
    refine rd_step hK hM hk he h fun vs H1 xs w1 S1 e1 k1 he1 r1 h1 => ?_
    obtain ⟨z, S4, hz, q⟩ := h1.of
    exact ⟨c, w1, S1, xs, z, S4, hK, hM, k1, r1, hz, q⟩
theorem rps1 {c : Ct} {w : Ws} {vs : List V} {x : AV} (r : Rps c w vs [x]) : ∃ v, vs = [v] ∧ Rp c w v x := by
  cases r with
  | cons a b => cases b; exact ⟨_, rfl, a⟩
theorem rps2 {c : Ct} {w : Ws} {vs : List V} {x y : AV} (r : Rps c w vs [x, y]) : ∃ v u, vs = [v, u] ∧ Rp c w v x ∧ Rp c w u y := by
  cases r with
  | cons a b =>
    obtain ⟨u, rfl, c⟩ := rps1 b
    exact ⟨_, _, rfl, a, c⟩
/-- the parts of a tuple or of a list -/
def seqOf (x : AV) (S : Store) : Option (List AV) := match tupOf x with
  | some xs => some xs
  | none => seqL x S
theorem rp_seqOf {c : Ct} {w : Ws} {S : Store} {H : Hp} {v : V} {x : AV} {xs : List AV} (k : Hok c w S H) (e : seqOf x S = some xs) (r : Rp c w v x) : ∃ a vs, v = .ref a ∧ (SqL c.K H a vs ∨ SqT c.K H a vs) ∧ Rps c w vs xs := by
  unfold seqOf at e
  split at e
  · rename_i h
    cases e
    obtain ⟨a, vs, h1, h2, h3⟩ := rp_tupH k h r
    exact ⟨a, vs, h1, .inr h2, h3⟩
  · obtain ⟨a, vs, h1, h2, h3⟩ := rp_seqL k e r
    exact ⟨a, vs, h1, .inl (.inl (.inl h2)), h3⟩
def lenOf (x : AV) (S : Store) : Option Nat := match x with
  | .p (.tuple ds) => some ds.length
  | .p (.list ds) => some ds.length
  | .p (.str z) => match okLen z.length with
    | true => some z.length
    | false => none
  | x => match seqOf x S with
    | some xs => some xs.length
    | none => none
def gLen : OpN := fun xs S => match xs with
  | [x] => match lenOf x S with
    | some n => some (.p (.int n), S)
    | none => none
  | _ => none
theorem call_gLen : CallR X (.builtin "len") (rN X.K X.mg gLen) := CallR.imp (CallR.or call_len_seq call_len_str) fun vs H Q ⟨c, w, S, xs, z, S', hK, hM, k, r, e, q⟩ => by
  unfold gLen at e
  split at e
  · rename_i x
    obtain ⟨v, rfl, rx⟩ := rps1 r
    split at e
    · rename_i n hn
      cases e
      have seq : ∀ xs, seqOf x S = some xs → (n = xs.length) → (∃ p ys, [v] = [V.ref p] ∧ (SqL X.K H p ys ∨ SqT X.K H p ys) ∧ Q (.int ys.length) H) := fun xs hx hl => by
        obtain ⟨a, us, rfl, h1, h2⟩ := rp_seqOf k hx rx
        exact ⟨a, us, rfl, hK ▸ h1, by rw [h2.length, ← hl]; exact post_same k (.p (.int _)) q⟩
      unfold lenOf at hn
      split at hn
      · rename_i ds; cases hn; exact .inl (seq (ds.map AV.p) rfl (by simp))
      · rename_i ds; cases hn; exact .inl (seq (ds.map AV.p) rfl (by simp))
      · split at hn
        · rename_i hl
          cases hn
          exact .inr ⟨_, by rw [rp_str rx], okLen_le hl, post_same k (.p (.int _)) q⟩
        · cases hn
      · split at hn
        · rename_i xs hx
          cases hn
          exact .inl (seq xs hx rfl)
        · cases hn
    · cases e
  · cases e
def gTuple : OpN := fun xs S => match xs with
  | [x] => match seqOf x S with
    | some ys => some (mkTup ys, S)
    | none => none
  | _ => none
theorem call_gTuple : CallR X (.type "tuple") (rN X.K X.mg gTuple) := CallR.imp call_tuple_of fun vs H Q ⟨c, w, S, xs, z, S', hK, hM, k, r, e, q⟩ => by
  unfold gTuple at e
  split at e
  · rename_i x
    obtain ⟨v, rfl, rx⟩ := rps1 r
    split at e
    · rename_i ys hy
      cases e
      unfold seqOf at hy
      split at hy
      · rename_i h
        cases hy
        obtain ⟨a, us, rfl, h1, h2⟩ := rp_tupH k h rx
        exact ⟨a, us, rfl, .inr ⟨hK ▸ h1, post_same k (rp_retup h rx) q⟩⟩
      · obtain ⟨a, us, rfl, h1, h2⟩ := rp_seqL k hy rx
        exact ⟨a, us, rfl, .inl ⟨.inl (.inl h1), fun l hl => post_tup k hl h2 q⟩⟩
    · cases e
  · cases e
def gList (mu : Bool) : OpN := fun xs S => match xs with
  | [x] => match seqOf x S with
    | some ys => some (newL mu ys S)
    | none => none
  | _ => none
theorem call_gList (mu : Bool) : CallR X (.type "list") (rN X.K X.mg (gList mu)) := CallR.imp call_list_of fun vs H Q ⟨c, w, S, xs, z, S', hK, hM, k, r, e, q⟩ => by
  unfold gList at e
  split at e
  · rename_i x
    obtain ⟨v, rfl, rx⟩ := rps1 r
    split at e
    · rename_i ys hy
      obtain ⟨a, us, rfl, h1, h2⟩ := rp_seqOf k hy rx
      exact ⟨a, us, rfl, hK ▸ h1, fun l hl => post_lst mu k hl h2 (newL_eq e q)⟩
    · cases e
  · cases e
def intsOf : List AV → Option (List Int)
  | [] => some []
  | .p (.int i) :: xs => match intsOf xs with
    | some is => some (i :: is)
    | none => none
  | _ => none
theorem rps_ints {c : Ct} {w : Ws} : ∀ {xs : List AV} {vs : List V} {is : List Int}, intsOf xs = some is → Rps c w vs xs → vs = is.map V.int
  | [], _, _, e, r => by cases r; cases e; rfl
  | x :: xs, _, _, e, r => by
    cases r with
    | cons r1 r2 =>
      unfold intsOf at e
      split at e
      · rename_i h; cases h
      · rename_i i ys h
        cases h
        split at e
        · rename_i js hj
          cases e
          rw [rp_int r1, rps_ints hj r2]
          rfl
        · cases e
      · cases e
def sumI : List Int → Int
  | [] => 0
  | i :: is => i + sumI is
theorem sumI_eq : ∀ l : List Int, sumI l = l.sum
  | [] => rfl
  | i :: is => by rw [List.sum_cons, ← sumI_eq is]; rfl
/-- the sum of a list of ints -/
def gSum : OpN := fun xs S => match xs with
  | [x] => match seqL x S with
    | some ys => match intsOf ys with
      | some is => some (.p (.int (sumI is)), S)
      | none => none
    | none => none
  | _ => none
theorem call_gSum (hc : X.calm = true) : CallR X (.builtin "sum") (rN X.K X.mg gSum) := CallR.imp (cr_sum hc) fun vs H Q ⟨c, w, S, xs, z, S', hK, hM, k, r, e, q⟩ => by
  unfold gSum at e
  split at e
  · obtain ⟨v, rfl, rx⟩ := rps1 r
    split at e
    · rename_i ys hy
      split at e
      · rename_i is hi
        cases e
        obtain ⟨a, us, rfl, h1, h2⟩ := rp_seqL k hy rx
        refine ⟨a, is, rfl, ?_, by rw [← sumI_eq]; exact post_same k (.p (.int _)) q⟩
        rw [← rps_ints hi h2]
        exact .inl (.inl h1)
      · cases e
    · cases e
  · cases e
def boolsOf : List AV → Option (List Bool)
  | [] => some []
  | .p (.bool i) :: xs => match boolsOf xs with
    | some is => some (i :: is)
    | none => none
  | _ => none
theorem rps_bools {c : Ct} {w : Ws} : ∀ {xs : List AV} {vs : List V} {is : List Bool}, boolsOf xs = some is → Rps c w vs xs → vs = is.map V.bl
  | [], _, _, e, r => by cases r; cases e; rfl
  | x :: xs, _, _, e, r => by
    cases r with
    | cons r1 r2 =>
      unfold boolsOf at e
      split at e
      · rename_i h; cases h
      · rename_i i ys h
        cases h
        split at e
        · rename_i js hj
          cases e
          rw [rp_bool r1, rps_bools hj r2]
          rfl
        · cases e
      · cases e
def gAll : OpN := fun xs S => match xs with
  | [x] => match seqL x S with
    | some ys => match boolsOf ys with
      | some is => some (.p (.bool (is.all id)), S)
      | none => none
    | none => none
  | _ => none
theorem call_gAll (hc : X.calm = true) : CallR X (.builtin "all") (rN X.K X.mg gAll) := CallR.imp (cr_all hc) fun vs H Q ⟨c, w, S, xs, z, S', hK, hM, k, r, e, q⟩ => by
  unfold gAll at e
  split at e
  · obtain ⟨v, rfl, rx⟩ := rps1 r
    split at e
    · rename_i ys hy
      split at e
      · rename_i is hi
        cases e
        obtain ⟨a, us, rfl, h1, h2⟩ := rp_seqL k hy rx
        refine ⟨a, is, rfl, ?_, post_same k (.p (.bl _)) q⟩
        rw [← rps_bools hi h2]
        exact .inl (.inl h1)
      · cases e
    · cases e
  · cases e
def gAbs : OpN := fun xs S => match xs with
  | [.p (.int i)] => some (.p (.int (match decide (i < 0) with | true => -i | false => i)), S)
  | _ => none
theorem call_gAbs : CallR X (.builtin "abs") (rN X.K X.mg gAbs) := CallR.imp call_abs fun vs H Q ⟨c, w, S, xs, z, S', hK, hM, k, r, e, q⟩ => by
  unfold gAbs at e
  split at e
  · rename_i i
    cases e
    obtain ⟨v, rfl, rx⟩ := rps1 r
    refine ⟨i, by rw [rp_int rx], ?_⟩
    have := post_same k (.p (.int _)) q
    by_cases h : i < 0
    · rw [decide_eq_true h] at this; rw [if_pos h]; exact this
    · rw [decide_eq_false h] at this; rw [if_neg h]; exact this
  · cases e
def gMax : OpN := fun xs S => match xs with
  | [.p (.int i), .p (.int j)] => some (.p (.int (match decide (i < j) with | true => j | false => i)), S)
  | _ => none
theorem call_gMax (hc : X.calm = true) : CallR X (.builtin "max") (rN X.K X.mg gMax) := CallR.imp (call_max2 hc) fun vs H Q ⟨c, w, S, xs, z, S', hK, hM, k, r, e, q⟩ => by
  unfold gMax at e
  split at e
  · rename_i i j
    cases e
    obtain ⟨v, u, rfl, rx, ry⟩ := rps2 r
    refine ⟨i, j, by rw [rp_int rx, rp_int ry], ?_⟩
    have := post_same k (.p (.int _)) q
    by_cases h : i < j
    · rw [decide_eq_true h] at this; rw [if_pos h]; exact this
    · rw [decide_eq_false h] at this; rw [if_neg h]; exact this
  · cases e
def gMin : OpN := fun xs S => match xs with
  | [.p (.int i), .p (.int j)] => some (.p (.int (match decide (j < i) with | true => j | false => i)), S)
  | _ => none
theorem call_gMin (hc : X.calm = true) : CallR X (.builtin "min") (rN X.K X.mg gMin) := CallR.imp (call_min2 hc) fun vs H Q ⟨c, w, S, xs, z, S', hK, hM, k, r, e, q⟩ => by
  unfold gMin at e
  split at e
  · rename_i i j
    cases e
    obtain ⟨v, u, rfl, rx, ry⟩ := rps2 r
    refine ⟨i, j, by rw [rp_int rx, rp_int ry], ?_⟩
    have := post_same k (.p (.int _)) q
    by_cases h : j < i
    · rw [decide_eq_true h] at this; rw [if_pos h]; exact this
    · rw [decide_eq_false h] at this; rw [if_neg h]; exact this
  · cases e
def gInt1 : OpN := fun xs S => match xs with
  | [.p (.int i)] => some (.p (.int i), S)
  | [.p (.bool b)] => some (.p (.int (match b with | true => 1 | false => 0)), S)
  | _ => none
theorem call_gInt1 : CallR X (.type "int") (rN X.K X.mg gInt1) := CallR.imp call_int1 fun vs H Q ⟨c, w, S, xs, z, S', hK, hM, k, r, e, q⟩ => by
  unfold gInt1 at e
  split at e
  · rename_i i
    cases e
    obtain ⟨v, rfl, rx⟩ := rps1 r
    exact .inl ⟨i, by rw [rp_int rx], post_same k (.p (.int _)) q⟩
  · rename_i b
    cases e
    obtain ⟨v, rfl, rx⟩ := rps1 r
    refine .inr ⟨b, by rw [rp_bool rx], ?_⟩
    have := post_same k (.p (.int _)) q
    cases b <;> simpa using this
  · cases e
/-! ### isinstance with a built-in class that is written by its name -/
inductive Tg where | int | bool | str | tuple | list
def Tg.nm : Tg → String
  | .int => "int" | .bool => "bool" | .str => "str" | .tuple => "tuple" | .list => "list"
/-- the built-in type of plain data -/
def tyD : PyData → Option String
  | .none => some "NoneType"
  | .bool _ => some "bool"
  | .int _ => some "int"
  | .str _ => some "str"
  | .list _ => some "list"
  | .tuple _ => some "tuple"
  | .dict _ => none
def isD (t : Tg) : PyData → Bool := match t with
  | .int => fun d => match d with | .int _ => true | .bool _ => true | _ => false
  | .bool => fun d => match d with | .bool _ => true | _ => false
  | .str => fun d => match d with | .str _ => true | _ => false
  | .tuple => fun d => match d with | .tuple _ => true | _ => false
  | .list => fun d => match d with | .list _ => true | _ => false
def isA (t : Tg) (x : AV) (S : Store) : Option Bool := match x with
  | .p d => match tyD d with
    | some _ => some (isD t d)
    | none => none
  | .tup _ => some (isD t (.tuple []))
  | .lst _ => some (isD t (.list []))
  | .h n => match S[n]? with
    | some (.lst _) => some (isD t (.list []))
    | _ => none
  | _ => none
theorem dv_ty {c : Ct} {fz H : Hp} (hf : FzLe fz H) {v : V} {d : PyData} (r : Dv c fz v d) : ∃ T, tyD d = some T ∧ TyX c.K H v (.type T) := by
  cases r with
  | non => exact ⟨_, rfl, .base .non⟩
  | bl b => exact ⟨_, rfl, .base (.bl b)⟩
  | int i => exact ⟨_, rfl, .base (.int i)⟩
  | str s => exact ⟨_, rfl, .base (.str s)⟩
  | lst a _ => exact ⟨_, rfl, .base (.lst (hf _ _ a))⟩
  | tup a _ => exact ⟨_, rfl, .base (.tup (hf _ _ a))⟩
  | ktup _ a _ =>
    obtain ⟨o, its, n, h1, h2, _⟩ := a
    exact ⟨_, rfl, .kTuple h1 h2⟩
theorem kit_is {K : PySem.W.Frag} (t : Tg) (d : PyData) {T : String} (h : tyD d = some T) : PySem.W.kitOne K (.type T) (.type t.nm) = some (isD t d) := by
  cases d <;> cases h <;> cases t <;> first | exact kit_ty (r := true) (by decide +kernel) | exact kit_ty (r := false) (by decide +kernel)
theorem isA_ok {c : Ct} {w : Ws} {S : Store} {H : Hp} {v : V} {x : AV} {t : Tg} {b : Bool} (k : Hok c w S H) (e : isA t x S = some b) (r : Rp c w v x) : ∃ T, TyX c.K H v (.type T) ∧ PySem.W.kitOne c.K (.type T) (.type t.nm) = some b := by
  cases r with
  | p r =>
    rename_i d
    obtain ⟨T, h1, h2⟩ := dv_ty k.fz r
    refine ⟨T, h2, ?_⟩
    have e : (match tyD d with
      | some _ => some (isD t d)
      | none => none) = some b := e
    rw [h1] at e
    cases e
    exact kit_is t _ h1
  | h ha =>
    rename_i n a
    have e : (match S[n]? with
      | some (.lst _) => some (isD t (.list []))
      | _ => none) = some b := e
    cases q : S[n]? with
    | none => rw [q] at e; cases e
    | some m =>
      rw [q] at e
      cases m with
      | lst xs =>
        cases e
        obtain ⟨a', h1, _, vs, h3, h4⟩ := k.st _ _ q
        rw [ha] at h1
        cases h1
        exact ⟨"list", .base (.lst h3), kit_is t (.list []) rfl⟩
      | _ => cases e
  | cup _ => cases e
  | tup a _ => cases e; exact ⟨"tuple", .base (.tup (k.fz _ _ a)), kit_is t (.tuple []) rfl⟩
  | lst a _ => cases e; exact ⟨"list", .base (.lst (k.fz _ _ a)), kit_is t (.list []) rfl⟩
  | fn _ => cases e
def eIsi (t : Tg) (f : XE) : XE := fun as S => (f as S).bind fun x S1 => match isA t x S1 with
  | some b => .ret (.p (.bool b)) S1
  | none => .stuck
/-- isinstance(e, T) -/
theorem ae_isi {x : Str} {p : Pos} {f : XE} {c : Expr} (t : Tg) (hg : Gl X x) (hm : X.mg x = none) (hv : bootBuiltins x = some (.builtin "isinstance")) (ha : AE X W e f) (hT : PE X c (tC (.ty t.nm))) (hn : x ≠ "__name__" := by decide) (hdb : (x == ("__debug__" : Str)) = false := by decide)
    (s1 : starEach [e, c] X.env = (false, eval e X.env) :: starEach [c] X.env := by rfl) (s2 : starEach [c] X.env = (false, eval c X.env) :: starEach [] X.env := by rfl) (h2 : (backTo pos (starEach [c] X.env)).any (·.1) = false := by rfl) :
    AE X W (.Call (.Name x p) [e, c] [] pos) (eIsi t f) :=
  pe_imp (pe_callB call_isi hg hm hv (pa_cons ha (pa_cons hT pa_nil s2) s1) hn hdb s1 h2) fun σ H Q ⟨c, w, S, as, hK, hM, hk, he, h⟩ => by
    refine rd_step hK hM hk he h fun v H1 x w1 S1 e1 k1 he1 r1 h1 => ?_
    cases q : isA t x S1 with
    | none => rw [q] at h1; exact h1.elim
    | some b =>
      rw [q] at h1
      obtain ⟨T, h3, h4⟩ := isA_ok k1 q r1
      exact ⟨v, .ty t.nm, .type T, .type t.nm, b, rfl, .ty _, hK ▸ h3, hK ▸ h4, post_same k1 (.p (.bl _)) h1⟩
end
end RA

/-! RA6: rows of targets, what is walked, for, while, comprehensions. -/
namespace RA
open PySem PySem.Spec L2
section
variable {X : Cx} {W : XK} {pos : Pos}
/-! ### (a, b, ..) = -/
abbrev XGs := List AV → Env → Store → Cm Env
def gsNil : XGs := fun xs as S => match xs with
  | [] => .ret as S
  | _ => .stuck
def gsCons (g : XG) (gs : XGs) : XGs := fun xs as S => match xs with
  | x :: xs => (g x as S).bind fun as1 S1 => gs xs as1 S1
  | [] => .stuck
def tGts (K : PySem.W.Frag) (mg : Str → Option Value) (W : XK) (f : XGs) : TGs := fun vs σ H Q =>
  ∃ c w S as xs, c.K = K ∧ c.mg = mg ∧ Hok c w S H ∧ EnvOk c w as σ ∧ Rps c w vs xs ∧ (f xs as S).All (fun as' S' => ∀ σ' w' H', Ext c w H w' H' → Hok c w' S' H' → EnvOk c w' as' σ' → Q σ' H') (PostX c w H W)
abbrev AGs (X : Cx) (W : XK) (e : List Expr) (f : XGs) : Prop := PGs X e (tGts X.K X.mg W f)
theorem pgs_imp {X : Cx} {e : List Expr} {t t' : TGs} (h : PGs X e t) (q : ∀ v σ H Q, t' v σ H Q → t v σ H Q) : PGs X e t' := ⟨fun pins s σ H v u Q I r x => h.run pins s σ H v u Q I r (q v σ H Q x)⟩
theorem ags_nil : AGs X W [] gsNil := pgs_imp pgs_nil fun vs σ H Q ⟨c, w, S, as, xs, hK, hM, hk, he, r, h⟩ => by
  cases r with
  | nil => exact ⟨rfl, h σ w H (Ext.refl ..) hk he⟩
  | cons _ _ => exact h.elim
theorem ags_cons {e : Expr} {es : List Expr} {g : XG} {gs : XGs} (h1 : AG X W e g) (h2 : AGs X W es gs) (hs : (assignEach (e :: es) X.env).map (·.2) = assign e X.env :: (assignEach es X.env).map (·.2) := by rfl) : AGs X W (e :: es) (gsCons g gs) :=
  pgs_imp (pgs_cons h1 h2 hs) fun vs σ H Q ⟨c, w, S, as, xs, hK, hM, hk, he, r, h⟩ => by
    cases r with
    | nil => exact h.elim
    | cons r1 r2 =>
      refine ⟨_, _, rfl, c, w, S, as, _, hK, hM, hk, he, r1, h.bind.mono (fun as1 S1 q σ' w' H' e1 k1 he1 => ?_) fun _ _ q => q⟩
      exact ⟨c, w', S1, as1, _, hK, hM, k1, he1, Rps.le e1.le _ r2, q.mono (fun _ _ z σ2 w2 H2 e2 k2 he2 => z σ2 w2 H2 (e1.trans e2) k2 he2) fun _ _ z => z.mono e1⟩
def gTupX (n : Nat) (gs : XGs) : XG := fun x as S => match tupOf x with
  | some xs => match Nat.beq xs.length n with
    | true => gs xs as S
    | false => .stuck
  | none => .stuck
theorem ag_tup {es : List Expr} {k : Nat} {gs : XGs} {n : Nat} (hc : X.calm = true) (h : AGs X W es gs) (hn : (assignEach es X.env).length = n := by rfl) (hst : (assignEach es X.env).findIdx? (·.1) = none := by rfl) : AG X W (.Tuple es k pos) (gTupX n gs) :=
  pg_imp (pg_tup hc h hn hst) fun v σ H Q ⟨c, w, S, as, x, hK, hM, hk, he, r, h⟩ => by
    unfold gTupX at h
    split at h
    · rename_i xs hx
      split at h
      · rename_i hl
        obtain ⟨a, vs, rfl, h1, h2⟩ := rp_tupH hk hx r
        exact ⟨a, vs, rfl, hK ▸ h1, by rw [h2.length]; exact Nat.eq_of_beq_eq_true hl, c, w, S, as, xs, hK, hM, hk, he, h2, h⟩
      · exact h.elim
    · exact h.elim
/-- a, b = x, y with plain names -/
def sPar (i j : Nat) (g : XA) : XS := fun as S => (g as S).bind fun xs S1 => match xs with
  | [x, y] => .ret (.nx ((as.set i (some x)).set j (some y))) S1
  | _ => .stuck
theorem as_par {i j : Nat} {x y : Str} {a b : Expr} {ga : XA} {px py pt : Pos} {kt k2 : Nat} {pt2 : Pos} (hc : X.calm = true) (hN : X.N.Nodup) (hi : X.N[i]? = some x) (hj : X.N[j]? = some y) (hij : i ≠ j)
    (hx : X.env.scope.names.lookup x = some .local) (hy : X.env.scope.names.lookup y = some .local) (ha : AA X W [a, b] ga)
    (hw : swappedStores [.Tuple [.Name x px, .Name y py] kt pt] (.Tuple [a, b] k2 pt2) X.env = pure (some [x, y]))
    (hs : swapsWithSole [.Tuple [.Name x px, .Name y py] kt pt] (.Tuple [a, b] k2 pt2) pos.line X.env = pure false := by rfl) :
    AS X W (.Assign [.Tuple [.Name x px, .Name y py] kt pt] (.Tuple [a, b] k2 pt2) pos) (sPar i j ga) :=
  ps_imp (ps_par hc hN hi hj hij hx hy ha hw hs) fun D σ H ⟨c, w, S, as, hK, hM, hk, he, h⟩ => by
    refine rs_step hK hM hk he h fun vs H1 xs w1 S1 e1 k1 he1 r1 h1 => ?_
    split at h1
    · obtain ⟨v, u, rfl, rx, ry⟩ := rps2 r1
      exact ⟨v, u, rfl, h1 _ w1 H1 (Ext.refl ..) k1 ((he1.set i rx).set j ry)⟩
    · exact h1.elim
theorem rps3 {c : Ct} {w : Ws} {vs : List V} {x y z : AV} (r : Rps c w vs [x, y, z]) : ∃ v u t, vs = [v, u, t] ∧ Rp c w v x ∧ Rp c w u y ∧ Rp c w t z := by
  cases r with
  | cons a b =>
    obtain ⟨u, t, rfl, c, d⟩ := rps2 b
    exact ⟨_, _, _, rfl, a, c, d⟩

/-! ### what is walked -/
def enumA : Nat → List AV → List AV
  | _, [] => []
  | i, x :: xs => mkTup [.p (.int (i : Nat)), x] :: enumA (i + 1) xs
theorem enumA_get : ∀ (xs : List AV) (j i : Nat), (enumA j xs)[i]? = (xs[i]?).map fun x => mkTup [.p (.int ((j + i : Nat) : Int)), x]
  | [], j, i => by simp [enumA]
  | x :: xs, j, 0 => by simp [enumA]
  | x :: xs, j, i + 1 => by
    show (enumA (j + 1) xs)[i]? = _
    rw [enumA_get xs (j + 1) i]
    have : j + 1 + i = j + (i + 1) := by omega
    rw [this]
    simp
theorem pair_new {c : Ct} {w : Ws} {S : Store} {H : Hp} {T : Addr} {v u : V} {x y : AV} (k : Hok c w S H) (hT : H T = none) (r : Rp c w v x) (q : Rp c w u y) : ∃ w', Ext c w H w' (upd H T (.tup [v, u])) ∧ Hok c w' S (upd H T (.tup [v, u])) ∧ Rp c w' (.ref T) (mkTup [x, y]) := by
  have E := Ext.addF (o := .tup [v, u]) k hT
  exact ⟨w.addF T (.tup [v, u]), E, k.addF hT, rp_tup upd_same (.cons (Rp.le E.le _ r) (.cons (Rp.le E.le _ q) .nil))⟩
inductive ItV where
  | fz (xs : List AV)
  | mu (h : Nat) (en : Bool)
/-- a list of the store as it stands now, its items or its items with their places -/
def muAt (h : Nat) (en : Bool) (S : Store) : Option (List AV) := match S[h]? with
  | some (.lst xs) => some (match en with | true => enumA 0 xs | false => xs)
  | _ => none
abbrev XI := Env → Store → Cm ItV
def itemsAt (v : ItV) (S : Store) : Option (List AV) := match v with
  | .fz xs => some xs
  | .mu h en => muAt h en S
/-- the iterator gives just these, as long as the list stands so -/
def ItFor (c : Ct) (w : Ws) (H : Hp) (J : It) (v : ItV) : Prop := ∀ w1 S1 H1, Ext c w H w1 H1 → Hok c w1 S1 H1 → ∀ xs, itemsAt v S1 = some xs → ∀ i : Nat,
  (xs[i]? = none → J.stop i H1) ∧ ∀ z, xs[i]? = some z → J.go i H1 ∧ ∀ x H', J.yld i H1 x H' → ∃ w', Ext c w1 H1 w' H' ∧ Hok c w' S1 H' ∧ Rp c w' x z
def tI (K : PySem.W.Frag) (mg : Str → Option Value) (W : XK) (f : XI) : TI := fun σ H R =>
  ∃ c w S as, c.K = K ∧ c.mg = mg ∧ Hok c w S H ∧ EnvOk c w as σ ∧ (f as S).All (fun v S' => ∀ J w' H', Ext c w H w' H' → Hok c w' S' H' → ItFor c w' H' J v → R J H') (PostX c w H W)
abbrev AI (X : Cx) (W : XK) (tg e : Expr) (f : XI) : Prop := PI X tg e (tI X.K X.mg W f)
theorem pi_imp {X : Cx} {tg e : Expr} {t t' : TI} (h : PI X tg e t) (q : ∀ σ H Q, t' σ H Q → t σ H Q) : PI X tg e t' := ⟨fun pins s σ H Q I x => h.run pins s σ H Q I (q σ H Q x)⟩
/-- one after another, ahead of a walk -/
theorem ri_step {α β : Type} {rel : Ct → Ws → β → α → Prop} {K : PySem.W.Frag} {mg : Str → Option Value} {c : Ct} {w : Ws} {S : Store} {H : Hp} {as : Env} {σ : St} {f : Env → Store → Cm α} {k : α → Store → Cm ItV} {R' : It → Hp → Prop} {R : β → Hp → Prop}
    (hK : c.K = K) (hM : c.mg = mg) (hk : Hok c w S H) (he : EnvOk c w as σ) (h : ((f as S).bind k).All (fun v S' => ∀ J w' H', Ext c w H w' H' → Hok c w' S' H' → ItFor c w' H' J v → R' J H') (PostX c w H W))
    (go : ∀ v H1 x w1 S1, Ext c w H w1 H1 → Hok c w1 S1 H1 → EnvOk c w1 as σ → rel c w1 v x → (k x S1).All (fun v S' => ∀ J w' H', Ext c w1 H1 w' H' → Hok c w' S' H' → ItFor c w' H' J v → R' J H') (PostX c w1 H1 W) → R v H1) : rdG rel K mg W f σ H R :=
  ⟨c, w, S, as, hK, hM, hk, he, h.bind.mono (fun x S1 hx v w1 H1 e k1 r => go v H1 x w1 S1 e k1 (he.le e.le) r (hx.mono (fun _ _ q J w' H' e' k' i => q J w' H' (e.trans e') k' i) fun _ _ q => q.mono e)) fun _ _ q => q⟩
variable {tg e : Expr} {f : XE}
theorem SqT.ext {c : Ct} {w w1 : Ws} {S : Store} {H H1 : Hp} {a : Addr} {vs : List V} (k : Hok c w S H) (h : SqT c.K w.fz a vs) (e : Ext c w H w1 H1) (k1 : FzLe w1.fz H1) : SqT c.K H1 a vs := SqT.lift k1 (SqT.lift e.fz h)
/-- a tuple -/
def iTupX (f : XE) : XI := fun as S => (f as S).bind fun x S1 => match tupOf x with
  | some xs => .ret (.fz xs) S1
  | none => .stuck
theorem sqT_inj {K : PySem.W.Frag} {H : Hp} {a : Addr} {xs ys : List V} (h : SqT K H a xs) (h' : SqT K H a ys) (hK : ∀ o, K.lookup a = some o → H a = none) : xs = ys := by
  have t1 : ∀ {xs ys}, Rd H a (.tup xs) → Rd H a (.tup ys) → xs = ys := fun r r' => by
    rcases r with r | ⟨o, r⟩ <;> rcases r' with r' | ⟨o', r'⟩ <;> rw [r] at r' <;> cases r' <;> rfl
  rcases h with h | ⟨o, its, n, h1, h2, h3, h4, h5⟩
  · rcases h' with h' | ⟨o, its, n, h1, _⟩
    · exact t1 h h'
    · rcases h with h | ⟨_, h⟩ <;> rw [hK o h1] at h <;> cases h
  · rcases h' with h' | ⟨o', its', n', g1, g2, g3, g4, g5⟩
    · rcases h' with h' | ⟨_, h'⟩ <;> rw [hK o h1] at h' <;> cases h'
    · rw [h1] at g1
      cases g1
      rw [h3] at g3
      injection g3 with g3 _
      subst g3
      exact h5.inj g5
theorem get_of {α : Type} {xs : List α} {i : Nat} (h : xs[i]? = none) : xs.length ≤ i := List.getElem?_eq_none_iff.mp h
theorem itFor_tup {c : Ct} {w : Ws} {S : Store} {H : Hp} {a : Addr} {vs : List V} {xs : List AV} (k : Hok c w S H) (h : SqT c.K w.fz a vs) (r : Rps c w vs xs) : ItFor c w H (Itt c.K a) (.fz xs) := by
  intro w1 S1 H1 e1 k1 xs' hx i
  cases hx
  have h1 : SqT c.K H1 a vs := SqT.ext k h e1 k1.fz
  refine ⟨fun hi => ⟨vs, h1, by rw [r.length]; exact get_of hi⟩, fun z hz => ?_⟩
  obtain ⟨v, hv, rv⟩ := r.get hz
  exact ⟨⟨vs, v, h1, hv⟩, fun x H' ⟨e2, y⟩ => ⟨w1, by rw [e2]; exact Ext.refl .., by rw [e2]; exact k1, by
    have := y vs h1
    rw [hv] at this
    cases this
    exact Rp.le e1.le _ rv⟩⟩
theorem ai_tup (he : AE X W e f) : AI X W tg e (iTupX f) := pi_imp (pi_tup he) fun σ H R ⟨c, w, S, as, hK, hM, hk, he, h⟩ => by
  refine ri_step hK hM hk he h fun v H1 x w1 S1 e1 k1 he1 r1 h1 => ?_
  split at h1
  · rename_i xs hx
    obtain ⟨a, vs, rfl, h2, h3⟩ := rp_tupOf hx r1
    exact ⟨a, rfl, ⟨vs, hK ▸ SqT.lift k1.fz h2⟩, h1 _ w1 H1 (Ext.refl ..) k1 (hK ▸ itFor_tup k1 h2 h3)⟩
  · exact h1.elim
/-- a list -/
def iLstX (f : XE) : XI := fun as S => (f as S).bind fun x S1 => match x with
  | .h n => match S1[n]? with
    | some (.lst _) => .ret (.mu n false) S1
    | _ => .stuck
  | x => match lstOf x with
    | some xs => .ret (.fz xs) S1
    | none => .stuck
theorem sqL_inj {K : PySem.W.Frag} {H : Hp} {a : Addr} {xs ys : List V} (h : H a = some (.lst xs)) (h' : SqL K H a ys) (hK : ∀ o, K.lookup a = some o → H a = none) : xs = ys := by
  rcases h' with h' | ⟨o, its, n, h1, _⟩
  · rcases h' with h' | ⟨_, h'⟩ <;> rw [h] at h' <;> cases h' <;> rfl
  · rw [hK o h1] at h; cases h
theorem itFor_lst {c : Ct} {w : Ws} {S : Store} {H : Hp} {a : Addr} {vs : List V} {xs : List AV} (k : Hok c w S H) (h : w.fz a = some (.lst vs)) (r : Rps c w vs xs) : ItFor c w H (Itl c.K a) (.fz xs) := by
  intro w1 S1 H1 e1 k1 xs' hx i
  cases hx
  have h1 : SqL c.K H1 a vs := .inl (.inl (k1.fz _ _ (e1.fz _ _ h)))
  refine ⟨fun hi => ⟨vs, h1, by rw [r.length]; exact get_of hi⟩, fun z hz => ?_⟩
  obtain ⟨v, hv, rv⟩ := r.get hz
  exact ⟨⟨vs, v, h1, hv⟩, fun x H' ⟨e2, y⟩ => ⟨w1, by rw [e2]; exact Ext.refl .., by rw [e2]; exact k1, by
    have := y vs h1
    rw [hv] at this
    cases this
    exact Rp.le e1.le _ rv⟩⟩
theorem itFor_mu {c : Ct} {w : Ws} {S : Store} {H : Hp} {a : Addr} {n : Nat} (k : Hok c w S H) (h : w.ad[n]? = some a) : ItFor c w H (Itl c.K a) (.mu n false) := by
  intro w1 S1 H1 e1 k1 xs hx i
  have hx : (match S1[n]? with
    | some (.lst xs) => some xs
    | _ => none) = some xs := hx
  cases q : S1[n]? with
  | none => rw [q] at hx; cases hx
  | some m =>
    rw [q] at hx
    cases m with
    | lst ys =>
      cases hx
      obtain ⟨a', h1, _, vs, h3, r⟩ := k1.st _ _ q
      rw [e1.le.ad _ _ h] at h1
      cases h1
      have h1 : SqL c.K H1 a vs := .inl (.inl h3)
      refine ⟨fun hi => ⟨vs, h1, by rw [r.length]; exact get_of hi⟩, fun z hz => ?_⟩
      obtain ⟨v, hv, rv⟩ := r.get hz
      exact ⟨⟨vs, v, h1, hv⟩, fun x H' ⟨e2, y⟩ => ⟨w1, by rw [e2]; exact Ext.refl .., by rw [e2]; exact k1, by
        have := y vs h1
        rw [hv] at this
        cases this
        exact rv⟩⟩
    | _ => cases hx
theorem ai_lst (he : AE X W e f) : AI X W tg e (iLstX f) := pi_imp (pi_list he) fun σ H R ⟨c, w, S, as, hK, hM, hk, he, h⟩ => by
  refine ri_step hK hM hk he h fun v H1 x w1 S1 e1 k1 he1 r1 h1 => ?_
  have fzc : (match lstOf x with
      | some xs => Cm.ret (ItV.fz xs) S1
      | none => .stuck).All (fun v S' => ∀ J w' H', Ext c w1 H1 w' H' → Hok c w' S' H' → ItFor c w' H' J v → R J H') (PostX c w1 H1 W) → ∃ a, v = .ref a ∧ (∃ xs, SqL X.K H1 a xs) ∧ R (Itl X.K a) H1 := fun h1 => by
    split at h1
    · rename_i xs hx
      obtain ⟨a, vs, rfl, h2, h3⟩ := rp_lstOf hx r1
      exact ⟨a, rfl, ⟨vs, .inl (.inl (k1.fz _ _ h2))⟩, h1 _ w1 H1 (Ext.refl ..) k1 (hK ▸ itFor_lst k1 h2 h3)⟩
    · exact h1.elim
  cases x with
  | h n =>
    cases r1 with
    | h ha =>
      have h1 : (match S1[n]? with
        | some (.lst _) => Cm.ret (ItV.mu n false) S1
        | _ => .stuck).All (fun v S' => ∀ J w' H', Ext c w1 H1 w' H' → Hok c w' S' H' → ItFor c w' H' J v → R J H') (PostX c w1 H1 W) := h1
      cases q : S1[n]? with
      | none => rw [q] at h1; exact h1.elim
      | some m =>
        rw [q] at h1
        cases m with
        | lst ys =>
          obtain ⟨a', h2, _, vs, h3, _⟩ := k1.st _ _ q
          rw [ha] at h2
          cases h2
          exact ⟨_, rfl, ⟨vs, .inl (.inl h3)⟩, h1 _ w1 H1 (Ext.refl ..) k1 (hK ▸ itFor_mu k1 ha)⟩
        | _ => exact h1.elim
  | _ => exact fzc h1
/-- lo, lo + 1, .. below hi -/
def rgA (lo : Int) : Nat → List AV
  | 0 => []
  | n + 1 => .p (.int lo) :: rgA (lo + 1) n
theorem rgA_get : ∀ (n : Nat) (lo : Int) (i : Nat), (rgA lo n)[i]? = if i < n then some (.p (.int (lo + i))) else none
  | 0, lo, i => by simp [rgA]
  | n + 1, lo, 0 => by simp [rgA]
  | n + 1, lo, i + 1 => by
    show (rgA (lo + 1) n)[i]? = _
    rw [rgA_get n (lo + 1) i]
    by_cases h : i < n
    · rw [if_pos h, if_pos (by omega)]
      congr 3
      omega
    · rw [if_neg h, if_neg (by omega)]
def okRg (i : Int) : Bool := inI (-4611686018427387904) 4611686018427387904 i
def iRg1 (g : XA) : XI := fun as S => (g as S).bind fun xs S1 => match xs with
  | [.p (.int j)] => match okRg j with
    | true => .ret (.fz (rgA 0 j.toNat)) S1
    | false => .stuck
  | _ => .stuck
def iRg2 (g : XA) : XI := fun as S => (g as S).bind fun xs S1 => match xs with
  | [.p (.int i), .p (.int j)] => match okRg i with
    | true => match okRg j with
      | true => .ret (.fz (rgA i (j - i).toNat)) S1
      | false => .stuck
    | false => .stuck
  | _ => .stuck
theorem itFor_rg {c : Ct} {w : Ws} {H : Hp} {lo : Int} {n : Nat} : ItFor c w H (Itr lo n) (.fz (rgA lo n)) := by
  intro w1 S1 H1 e1 k1 xs hx i
  cases hx
  rw [rgA_get]
  refine ⟨fun hi => ?_, fun z hz => ?_⟩
  · by_cases h : i < n
    · rw [if_pos h] at hi; cases hi
    · exact Nat.le_of_not_lt h
  · by_cases h : i < n
    · rw [if_pos h] at hz
      cases hz
      exact ⟨h, fun x H' ⟨e2, y⟩ => ⟨w1, by rw [e2]; exact Ext.refl .., by rw [e2]; exact k1, by rw [y]; exact .p (.int _)⟩⟩
    · rw [if_neg h] at hz; cases hz
theorem ai_rg1 {a : Expr} {ga : XA} {p : Pos} (hg : Gl X "range") (hm : X.mg "range" = none) (ha : AA X W [a] ga) (hs : starEach [a] X.env = [(false, eval a X.env)] := by rfl) : AI X W tg (.Call (.Name "range" p) [a] [] pos) (iRg1 ga) :=
  pi_imp (pi_range1 hg hm ha hs) fun σ H R ⟨c, w, S, as, hK, hM, hk, he, h⟩ => by
    refine ri_step hK hM hk he h fun vs H1 xs w1 S1 e1 k1 he1 r1 h1 => ?_
    split at h1
    · rename_i j
      split at h1
      · rename_i hj
        obtain ⟨v, rfl, rv⟩ := rps1 r1
        obtain ⟨h2, h3⟩ := inI_ok hj
        exact ⟨j, by rw [rp_int rv], by omega, by omega, h1 _ w1 H1 (Ext.refl ..) k1 itFor_rg⟩
      · exact h1.elim
    · exact h1.elim
theorem ai_rg2 {a b : Expr} {ga : XA} {p : Pos} (hg : Gl X "range") (hm : X.mg "range" = none) (ha : AA X W [a, b] ga) (hs : starEach [a, b] X.env = [(false, eval a X.env), (false, eval b X.env)] := by rfl) (hs2 : starEach [b] X.env = [(false, eval b X.env)] := by rfl) :
    AI X W tg (.Call (.Name "range" p) [a, b] [] pos) (iRg2 ga) :=
  pi_imp (pi_range2 hg hm ha hs hs2) fun σ H R ⟨c, w, S, as, hK, hM, hk, he, h⟩ => by
    refine ri_step hK hM hk he h fun vs H1 xs w1 S1 e1 k1 he1 r1 h1 => ?_
    split at h1
    · rename_i i j
      split at h1
      · rename_i hi
        split at h1
        · rename_i hj
          obtain ⟨v, u, rfl, rv, ru⟩ := rps2 r1
          obtain ⟨h2, h3⟩ := inI_ok hj
          obtain ⟨h4, h5⟩ := inI_ok hi
          exact ⟨i, j, by rw [rp_int rv, rp_int ru], ⟨by omega, by omega, by omega, by omega⟩, h1 _ w1 H1 (Ext.refl ..) k1 itFor_rg⟩
        · exact h1.elim
      · exact h1.elim
    · exact h1.elim
/-! ### enumerate of a list, zip of two lists or of two tuples -/
/-- enumerate of a list: unchanging, or in the store -/
def iEnX (g : XA) : XI := fun as S => (g as S).bind fun xs S1 => match xs with
  | [x] => match x with
    | .h n => match S1[n]? with
      | some (.lst _) => .ret (.mu n true) S1
      | _ => .stuck
    | x => match lstOf x with
      | some ys => .ret (.fz (enumA 0 ys)) S1
      | none => .stuck
  | _ => .stuck
theorem itFor_enm {c : Ct} {w : Ws} {S : Store} {H : Hp} {a : Addr} {n : Nat} (k : Hok c w S H) (h : w.ad[n]? = some a) : ItFor c w H (Ite c.K a) (.mu n true) := by
  intro w1 S1 H1 e1 k1 xs hx i
  have hx : (match S1[n]? with
    | some (.lst xs) => some (enumA 0 xs)
    | _ => none) = some xs := hx
  cases q : S1[n]? with
  | none => rw [q] at hx; cases hx
  | some m =>
    rw [q] at hx
    cases m with
    | lst ys =>
      cases hx
      obtain ⟨a', h1, _, vs, h3, r⟩ := k1.st _ _ q
      rw [e1.le.ad _ _ h] at h1
      cases h1
      have h1 : SqL c.K H1 a vs := .inl (.inl h3)
      rw [enumA_get]
      refine ⟨fun hi => ⟨vs, h1, by rw [r.length]; exact get_of (by cases q : ys[i]? with | none => rfl | some z => rw [q] at hi; cases hi)⟩, fun z hz => ?_⟩
      cases q : ys[i]? with
      | none => rw [q] at hz; cases hz
      | some x =>
        rw [q] at hz
        cases hz
        obtain ⟨v, hv, rv⟩ := r.get q
        refine ⟨⟨vs, v, h1, hv⟩, fun y H' ⟨T, u, e2, hT, e3, e4⟩ => ?_⟩
        have := e4 vs h1
        rw [hv] at this
        cases this
        rw [e2, e3]
        have e5 : ((0 + i : Nat) : Int) = (i : Nat) := by omega
        rw [e5]
        exact pair_new k1 hT (.p (.int _)) rv
    | _ => cases hx
theorem itFor_en {c : Ct} {w : Ws} {S : Store} {H : Hp} {a : Addr} {vs : List V} {xs : List AV} (k : Hok c w S H) (h : w.fz a = some (.lst vs)) (r : Rps c w vs xs) : ItFor c w H (Ite c.K a) (.fz (enumA 0 xs)) := by
  intro w1 S1 H1 e1 k1 xs' hx i
  cases hx
  have h1 : SqL c.K H1 a vs := .inl (.inl (k1.fz _ _ (e1.fz _ _ h)))
  rw [enumA_get]
  refine ⟨fun hi => ⟨vs, h1, by rw [r.length]; exact get_of (by cases q : xs[i]? with | none => rfl | some z => rw [q] at hi; cases hi)⟩, fun z hz => ?_⟩
  cases q : xs[i]? with
  | none => rw [q] at hz; cases hz
  | some x =>
    rw [q] at hz
    cases hz
    obtain ⟨v, hv, rv⟩ := r.get q
    refine ⟨⟨vs, v, h1, hv⟩, fun y H' ⟨T, u, e2, hT, e3, e4⟩ => ?_⟩
    have := e4 vs h1
    rw [hv] at this
    cases this
    rw [e2, e3]
    have e5 : ((0 + i : Nat) : Int) = (i : Nat) := by omega
    rw [e5]
    exact pair_new k1 hT (.p (.int _)) (Rp.le e1.le _ rv)
theorem ai_en {p tpos : Pos} {elts : List Expr} {kk : Nat} {ga : XA} (hg : Gl X "enumerate") (hm : X.mg "enumerate" = none) (ha : AA X W [e] ga) (hs : starEach [e] X.env = [(false, eval e X.env)] := by rfl) :
    AI X W (.Tuple elts kk tpos) (.Call (.Name "enumerate" p) [e] [] pos) (iEnX ga) := pi_imp (pi_enum hg hm ha hs) fun σ H R ⟨c, w, S, as, hK, hM, hk, he, h⟩ => by
    refine ri_step hK hM hk he h fun vs H1 xs w1 S1 e1 k1 he1 r1 h1 => ?_
    split at h1
    · obtain ⟨v, rfl, rv⟩ := rps1 r1
      split at h1
      · rename_i n
        split at h1
        · rename_i q
          cases rv with
          | @h _ a ha =>
            obtain ⟨a', h2, _, vs, h3, _⟩ := k1.st _ _ q
            rw [ha] at h2
            cases h2
            exact ⟨a, vs, rfl, .inl (.inl h3), h1 _ w1 H1 (Ext.refl ..) k1 (hK ▸ itFor_enm k1 ha)⟩
        · exact h1.elim
      · split at h1
        · rename_i ys hy
          obtain ⟨a, us, rfl, h2, h3⟩ := rp_lstOf hy rv
          exact ⟨a, us, rfl, .inl (.inl (k1.fz _ _ h2)), h1 _ w1 H1 (Ext.refl ..) k1 (hK ▸ itFor_en k1 h2 h3)⟩
        · exact h1.elim
    · exact h1.elim
def zipA : List AV → List AV → List AV
  | x :: xs, y :: ys => mkTup [x, y] :: zipA xs ys
  | _, _ => []
theorem zipA_get : ∀ (xs ys : List AV) (i : Nat), (zipA xs ys)[i]? = match xs[i]?, ys[i]? with
    | some x, some y => some (mkTup [x, y])
    | _, _ => none
  | [], ys, i => by simp [zipA]
  | x :: xs, [], i => by cases h : (x :: xs)[i]? <;> simp [zipA]
  | x :: xs, y :: ys, 0 => by simp [zipA]
  | x :: xs, y :: ys, i + 1 => by
    show (zipA xs ys)[i]? = _
    rw [zipA_get xs ys i]
    simp
def iZpX (g : XA) : XI := fun as S => (g as S).bind fun xs S1 => match xs with
  | [x, y] => match lstOf x, lstOf y with
    | some xs, some ys => .ret (.fz (zipA xs ys)) S1
    | _, _ => match tupOf x, tupOf y with
      | some xs, some ys => .ret (.fz (zipA xs ys)) S1
      | _, _ => .stuck
  | _ => .stuck
theorem zip_none {xs ys : List AV} {i : Nat} (h : (zipA xs ys)[i]? = none) : xs.length ≤ i ∨ ys.length ≤ i := by
  rw [zipA_get] at h
  cases q : xs[i]? with
  | none => exact .inl (get_of q)
  | some x => cases q2 : ys[i]? with
    | none => exact .inr (get_of q2)
    | some y => rw [q, q2] at h; cases h
theorem zip_some {xs ys : List AV} {i : Nat} {z : AV} (h : (zipA xs ys)[i]? = some z) : ∃ x y, xs[i]? = some x ∧ ys[i]? = some y ∧ z = mkTup [x, y] := by
  rw [zipA_get] at h
  cases q : xs[i]? with
  | none => rw [q] at h; cases h
  | some x => cases q2 : ys[i]? with
    | none => rw [q, q2] at h; cases h
    | some y => rw [q, q2] at h; cases h; exact ⟨x, y, rfl, rfl, rfl⟩
theorem itFor_zl {c : Ct} {w : Ws} {S : Store} {H : Hp} {a b : Addr} {vs us : List V} {xs ys : List AV} (k : Hok c w S H) (h : w.fz a = some (.lst vs)) (h' : w.fz b = some (.lst us)) (r : Rps c w vs xs) (r' : Rps c w us ys) : ItFor c w H (Itz c.K a b) (.fz (zipA xs ys)) := by
  intro w1 S1 H1 e1 k1 xs' hx i
  cases hx
  have h1 : SqL c.K H1 a vs := .inl (.inl (k1.fz _ _ (e1.fz _ _ h)))
  have h2 : SqL c.K H1 b us := .inl (.inl (k1.fz _ _ (e1.fz _ _ h')))
  refine ⟨fun hi => ⟨vs, us, h1, h2, by rw [r.length, r'.length]; exact zip_none hi⟩, fun z hz => ?_⟩
  obtain ⟨x, y, q1, q2, rfl⟩ := zip_some hz
  obtain ⟨v, hv, rv⟩ := r.get q1
  obtain ⟨u, hu, ru⟩ := r'.get q2
  refine ⟨⟨vs, us, v, u, h1, h2, hv, hu⟩, fun t H' ⟨T, p, q, e2, hT, e3, e4, e5⟩ => ?_⟩
  have e4 := e4 vs h1
  rw [hv] at e4
  cases e4
  have e5 := e5 us h2
  rw [hu] at e5
  cases e5
  rw [e2, e3]
  exact pair_new k1 hT (Rp.le e1.le _ rv) (Rp.le e1.le _ ru)
theorem itFor_zt {c : Ct} {w : Ws} {S : Store} {H : Hp} {a b : Addr} {vs us : List V} {xs ys : List AV} (k : Hok c w S H) (h : SqT c.K w.fz a vs) (h' : SqT c.K w.fz b us) (r : Rps c w vs xs) (r' : Rps c w us ys) : ItFor c w H (RZ.ItzT c.K a b) (.fz (zipA xs ys)) := by
  intro w1 S1 H1 e1 k1 xs' hx i
  cases hx
  have h1 : SqT c.K H1 a vs := SqT.ext k h e1 k1.fz
  have h2 : SqT c.K H1 b us := SqT.ext k h' e1 k1.fz
  refine ⟨fun hi => ⟨vs, us, h1, h2, by rw [r.length, r'.length]; exact zip_none hi⟩, fun z hz => ?_⟩
  obtain ⟨x, y, q1, q2, rfl⟩ := zip_some hz
  obtain ⟨v, hv, rv⟩ := r.get q1
  obtain ⟨u, hu, ru⟩ := r'.get q2
  refine ⟨⟨vs, us, v, u, h1, h2, hv, hu⟩, fun t H' ⟨T, p, q, e2, hT, e3, e4, e5⟩ => ?_⟩
  have e4 := e4 vs h1
  rw [hv] at e4
  cases e4
  have e5 := e5 us h2
  rw [hu] at e5
  cases e5
  rw [e2, e3]
  exact pair_new k1 hT (Rp.le e1.le _ rv) (Rp.le e1.le _ ru)
theorem ai_zp {p tpos : Pos} {elts : List Expr} {kk : Nat} {e2 : Expr} {ga : XA} (hg : Gl X "zip") (hm : X.mg "zip" = none) (ha : AA X W [e, e2] ga) (hs : starEach [e, e2] X.env = (false, eval e X.env) :: starEach [e2] X.env := by rfl)
    (hpl : (backTo pos (starEach [e2] X.env)).any (·.1) = false := by rfl) : AI X W (.Tuple elts kk tpos) (.Call (.Name "zip" p) [e, e2] [] pos) (iZpX ga) := pi_imp (RZ.pi_zipA hg hm ha hs hpl) fun σ H R ⟨c, w, S, as, hK, hM, hk, he, h⟩ => by
    refine ri_step hK hM hk he h fun vs H1 xs w1 S1 e1 k1 he1 r1 h1 => ?_
    split at h1
    · obtain ⟨v, u, rfl, rv, ru⟩ := rps2 r1
      split at h1
      · rename_i ys zs hy hz
        obtain ⟨a, us, rfl, h2, h3⟩ := rp_lstOf hy rv
        obtain ⟨b, ts, rfl, h4, h5⟩ := rp_lstOf hz ru
        exact ⟨a, b, us, ts, rfl, .inl ⟨.inl (.inl (k1.fz _ _ h2)), .inl (.inl (k1.fz _ _ h4)), h1 _ w1 H1 (Ext.refl ..) k1 (hK ▸ itFor_zl k1 h2 h4 h3 h5)⟩⟩
      · split at h1
        · rename_i ys zs hy hz
          obtain ⟨a, us, rfl, h2, h3⟩ := rp_tupOf hy rv
          obtain ⟨b, ts, rfl, h4, h5⟩ := rp_tupOf hz ru
          exact ⟨a, b, us, ts, rfl, .inr ⟨hK ▸ SqT.lift k1.fz h2, hK ▸ SqT.lift k1.fz h4, h1 _ w1 H1 (Ext.refl ..) k1 (hK ▸ itFor_zt k1 h2 h4 h3 h5)⟩⟩
        · exact h1.elim
    · exact h1.elim

/-! ### for -/
/-- behind a turn of a loop -/
def turnK (k : Env → Store → Cm Fl) : Fl → Store → Cm Fl
  | .nx as, S => k as S
  | .ct as, S => k as S
  | .bk as, S => .ret (.nx as) S
  | .rt v, S => .ret (.rt v) S
def forL (g : XG) (b : XS) : List AV → XS
  | [] => fun as S => .ret (.nx as) S
  | z :: zs => fun as S => (g z as S).bind fun as1 S1 => (b as1 S1).bind (turnK (forL g b zs))
/-- over a list of the store, as it stands at each turn -/
def forM (g : XG) (b : XS) (h : Nat) (en : Bool) : Nat → Nat → XS
  | 0, _ => fun _ _ => .stuck
  | n + 1, i => fun as S => match muAt h en S with
    | some xs => match xs[i]? with
      | none => .ret (.nx as) S
      | some z => (g z as S).bind fun as1 S1 => (b as1 S1).bind (turnK (forM g b h en n (i + 1)))
    | none => .stuck
def lenH (h : Nat) (S : Store) : Nat := match S[h]? with
  | some (.lst xs) => xs.length
  | _ => 0
def forI (g : XG) (b : XS) (v : ItV) : XS := match v with
  | .fz xs => forL g b xs
  | .mu h en => fun as S => forM g b h en (lenH h S + 1) 0 as S
def sFor (f : XI) (g : XG) (b : XS) : XS := fun as S => (f as S).bind fun v S1 => forI g b v as S1
/-- one turn: the target, the body, what follows -/
theorem turn_ok {c : Ct} {w : Ws} {S : Store} {H : Hp} {as : Env} {σ : L2.St} {g : XG} {b : XS} {k : Env → Store → Cm Fl} {D : Ends} {x : V} {z : AV} {N : L2.St → Hp → Prop}
    (hK : c.K = X.K) (hM : c.mg = X.mg) (hk : Hok c w S H) (he : EnvOk c w as σ) (r : Rp c w x z) (h : ((g z as S).bind fun as1 S1 => (b as1 S1).bind (turnK k)).All (PostS c w H D) (PostX c w H W))
    (hN : ∀ w' S' H' as' σ', Ext c w H w' H' → Hok c w' S' H' → EnvOk c w' as' σ' → (k as' S').All (PostS c w' H' D) (PostX c w' H' W) → N σ' H') :
    tGt X.K X.mg W g x σ H fun σ2 H2 => tS X.K X.mg W b { D with nx := N, ct := N, bk := D.nx } σ2 H2 := by
  refine ⟨c, w, S, as, z, hK, hM, hk, he, r, h.bind.mono (fun as1 S1 q σ' w1 H1 e1 k1 he1 => ?_) fun _ _ q => q⟩
  refine ⟨c, w1, S1, as1, hK, hM, k1, he1, q.bind.mono (fun fl S2 q2 => ?_) fun _ _ q => q.mono e1⟩
  cases fl with
  | nx as2 => exact fun σ2 w2 H2 e2 k2 he2 => hN w2 S2 H2 as2 σ2 (e1.trans e2) k2 he2 (q2.mono (fun _ _ z => z.mono (e1.trans e2)) fun _ _ z => z.mono (e1.trans e2))
  | ct as2 => exact fun σ2 w2 H2 e2 k2 he2 => hN w2 S2 H2 as2 σ2 (e1.trans e2) k2 he2 (q2.mono (fun _ _ z => z.mono (e1.trans e2)) fun _ _ z => z.mono (e1.trans e2))
  | bk as2 => exact fun σ2 w2 H2 e2 k2 he2 => q2 σ2 w2 H2 (e1.trans e2) k2 he2
  | rt v => exact fun u w2 H2 e2 k2 r2 => q2 u w2 H2 (e1.trans e2) k2 r2
theorem for_imp {f : XI} {g : XG} {b : XS} {D : Ends} {σ : L2.St} {H : Hp} (h : tS X.K X.mg W (sFor f g b) D σ H) : tFor (tI X.K X.mg W f) (tGt X.K X.mg W g) (tS X.K X.mg W b) D σ H := by
  obtain ⟨c, w0, S0, as0, hK, hM, hk0, he0, h⟩ := h
  refine ⟨c, w0, S0, as0, hK, hM, hk0, he0, h.bind.mono (fun v S' q J w1 H1 e1 k1 hJ => ?_) fun _ _ q => q⟩
  cases v with
  | fz xs =>
    refine ⟨fun i m σ H => i ≤ xs.length ∧ m = xs.length - i ∧ ∃ w S as, Ext c w1 H1 w H ∧ Hok c w S H ∧ EnvOk c w as σ ∧ (forL g b (xs.drop i) as S).All (PostS c w H D) (PostX c w H W),
      ⟨xs.length, Nat.zero_le _, by simp, w1, S', as0, Ext.refl .., k1, he0.le e1.le, by rw [List.drop_zero]; exact Cm.All.mono (fun _ _ z => PostS.mono e1 z) (fun _ _ z => PostX.mono e1 z) q⟩, ?_⟩
    rintro i m σ H ⟨hi, rfl, w, S, as, e2, k2, he2, h2⟩
    obtain ⟨st, go⟩ := hJ w S H e2 k2 xs rfl i
    cases hx : xs[i]? with
    | none =>
      rw [List.drop_eq_nil_of_le (get_of hx)] at h2
      exact .inl ⟨st hx, h2 σ w H (Ext.refl ..) k2 he2⟩
    | some z =>
      have hl : i < xs.length := (List.getElem?_eq_some_iff.mp hx).1
      rw [List.drop_eq_getElem_cons hl, (List.getElem?_eq_some_iff.mp hx).2] at h2
      obtain ⟨go, yl⟩ := go z hx
      refine .inr ⟨go, fun σ' H' => i + 1 ≤ xs.length ∧ ∃ w S as, Ext c w1 H1 w H' ∧ Hok c w S H' ∧ EnvOk c w as σ' ∧ (forL g b (xs.drop (i + 1)) as S).All (PostS c w H' D) (PostX c w H' W), fun σ' H' ⟨a1, a2⟩ => ⟨xs.length - (i + 1), by omega, a1, rfl, a2⟩, fun x H' y => ?_⟩
      obtain ⟨w', e3, k3, r3⟩ := yl x H' y
      refine turn_ok hK hM k3 (he2.le e3.le) r3 (h2.mono (fun _ _ z => z.mono e3) fun _ _ z => z.mono e3) fun w4 S4 H4 as4 σ4 e4 k4 he4 h4 => ?_
      exact ⟨hl, w4, S4, as4, e2.trans (e3.trans e4), k4, he4, h4⟩
  | mu n en =>
    refine ⟨fun i m σ H => ∃ w S as, Ext c w1 H1 w H ∧ Hok c w S H ∧ EnvOk c w as σ ∧ (forM g b n en m i as S).All (PostS c w H D) (PostX c w H W),
      ⟨lenH n S' + 1, w1, S', as0, Ext.refl .., k1, he0.le e1.le, Cm.All.mono (fun _ _ z => PostS.mono e1 z) (fun _ _ z => PostX.mono e1 z) q⟩, ?_⟩
    rintro i m σ H ⟨w, S, as, e2, k2, he2, h2⟩
    cases m with
    | zero => exact h2.elim
    | succ m =>
      have h2 : (match muAt n en S with
        | some xs => (match xs[i]? with
          | none => Cm.ret (Fl.nx as) S
          | some z => (g z as S).bind fun as1 S1 => (b as1 S1).bind (turnK (forM g b n en m (i + 1))))
        | none => .stuck).All (PostS c w H D) (PostX c w H W) := h2
      cases q1 : muAt n en S with
      | none => rw [q1] at h2; exact h2.elim
      | some xs =>
        rw [q1] at h2
        obtain ⟨st, go⟩ := hJ w S H e2 k2 xs q1 i
        have h2 : (match xs[i]? with
          | none => Cm.ret (Fl.nx as) S
          | some z => (g z as S).bind fun as1 S1 => (b as1 S1).bind (turnK (forM g b n en m (i + 1)))).All (PostS c w H D) (PostX c w H W) := h2
        cases hx : xs[i]? with
        | none =>
          rw [hx] at h2
          exact .inl ⟨st hx, h2 σ w H (Ext.refl ..) k2 he2⟩
        | some z =>
          rw [hx] at h2
          obtain ⟨go, yl⟩ := go z hx
          refine .inr ⟨go, fun σ' H' => ∃ w S as, Ext c w1 H1 w H' ∧ Hok c w S H' ∧ EnvOk c w as σ' ∧ (forM g b n en m (i + 1) as S).All (PostS c w H' D) (PostX c w H' W), fun σ' H' a2 => ⟨m, Nat.lt_succ_self _, a2⟩, fun x H' y => ?_⟩
          obtain ⟨w', e3, k3, r3⟩ := yl x H' y
          refine turn_ok hK hM k3 (he2.le e3.le) r3 (Cm.All.mono (fun _ _ z => PostS.mono e3 z) (fun _ _ z => PostX.mono e3 z) h2) fun w4 S4 H4 as4 σ4 e4 k4 he4 h4 => ?_
          exact ⟨w4, S4, as4, e2.trans (e3.trans e4), k4, he4, h4⟩
theorem as_for {iter : Expr} {body : List Stmt} {f : XI} {g : XG} {b : XS} (hp : PassesOwn (model X.prog X.w) X.A X.env X.xe) (hc : X.calm = true) (hi : AI X W tg iter f) (hg : AG X W tg g) (hb : ASs X W body b)
    (hs : ∀ x, foldedSetIterable iter X.env x = pure x := by intro _; rfl) : AS X W (.For tg iter body [] pos) (sFor f g b) := ps_imp (ps_for hp hc hi hg hb hs) fun _ _ _ h => for_imp h
/-! ### while: at most so many turns -/
def whileX (t : XT) (b : XS) : Nat → XS
  | 0 => fun _ _ => .stuck
  | n + 1 => fun as S => (t as S).bind fun q S1 => match q with
    | true => (b as S1).bind (turnK (whileX t b n))
    | false => .ret (.nx as) S1
theorem while_imp {n : Nat} {t : XT} {b : XS} {D : Ends} {σ : L2.St} {H0 : Hp} (h : tS X.K X.mg W (whileX t b n) D σ H0) : tWhile (tT X.K X.mg W t) (tS X.K X.mg W b) D σ H0 := by
  obtain ⟨c, w0, S0, as0, hK, hM, hk0, he0, h⟩ := h
  refine ⟨fun m σ H => ∃ w S as, Ext c w0 H0 w H ∧ Hok c w S H ∧ EnvOk c w as σ ∧ (whileX t b m as S).All (PostS c w H D) (PostX c w H W), ⟨n, w0, S0, as0, Ext.refl .., hk0, he0, h⟩, ?_⟩
  rintro m σ H ⟨w, S, as, e2, k2, he2, h2⟩
  cases m with
  | zero => exact h2.elim
  | succ m =>
    refine rs_step hK hM k2 he2 h2 fun v H1 x w1 S1 e1 k1 he1 r1 h1 => ?_
    cases r1
    cases v with
    | false => exact h1 σ w1 H1 (Ext.refl ..) k1 he1
    | true =>
      rw [if_pos rfl]
      refine ⟨fun σ' H' => ∃ w S as, Ext c w0 H0 w H' ∧ Hok c w S H' ∧ EnvOk c w as σ' ∧ (whileX t b m as S).All (PostS c w H' D) (PostX c w H' W), fun σ' H' a => ⟨m, Nat.lt_succ_self _, a⟩, ?_⟩
      refine ⟨c, w1, S1, as, hK, hM, k1, he1, Cm.All.mono (fun fl S2 q2 => ?_) (fun _ _ q => q) (Cm.All.bind h1)⟩
      cases fl with
      | nx as2 => exact fun σ2 w2 H2 e3 k3 he3 => ⟨w2, S2, as2, e2.trans (e1.trans e3), k3, he3, Cm.All.mono (fun _ _ z => PostS.mono e3 z) (fun _ _ z => PostX.mono e3 z) q2⟩
      | ct as2 => exact fun σ2 w2 H2 e3 k3 he3 => ⟨w2, S2, as2, e2.trans (e1.trans e3), k3, he3, Cm.All.mono (fun _ _ z => PostS.mono e3 z) (fun _ _ z => PostX.mono e3 z) q2⟩
      | bk as2 => exact fun σ2 w2 H2 e3 k3 he3 => q2 σ2 w2 H2 e3 k3 he3
      | rt v => exact fun u w2 H2 e3 k3 r3 => q2 u w2 H2 e3 k3 r3
theorem as_while {q : Expr} {body : List Stmt} {t : XT} {b : XS} (n : Nat) (hp : PassesOwn (model X.prog X.w) X.A X.env X.xe) (hc : AT X W q t) (hb : ASs X W body b) : AS X W (.While q body [] pos) (whileX t b n) := ps_imp (ps_while hp hc hb) fun _ _ _ h => while_imp h
end
end RA

/-! RA7: list comprehensions. -/
namespace RA
open PySem PySem.Spec L2
/-! ### targets of names -/
inductive Pat where
  | nm (i : Nat)
  | tup (ps : List Pat)
mutual
def gPat (K : PySem.W.Frag) : Pat → TG
  | .nm i => gName i
  | .tup ps => gTup K ps.length (gPats K ps)
def gPats (K : PySem.W.Frag) : List Pat → TGs
  | [] => gNil
  | p :: ps => gCons (gPat K p) (gPats K ps)
end
mutual
def patE : Pat → AV → Env → Option Env
  | .nm i, x, as => some (as.set i (some x))
  | .tup ps, x, as => match tupOf x with
    | some xs => match Nat.beq xs.length ps.length with
      | true => patsE ps xs as
      | false => none
    | none => none
def patsE : List Pat → List AV → Env → Option Env
  | [], [], as => some as
  | p :: ps, x :: xs, as => match patE p x as with
    | some as1 => patsE ps xs as1
    | none => none
  | _, _, _ => none
end
mutual
def patIn (vs : List Nat) : Pat → Bool
  | .nm i => vs.contains i
  | .tup ps => patsIn vs ps
def patsIn (vs : List Nat) : List Pat → Bool
  | [] => true
  | p :: ps => patIn vs p && patsIn vs ps
end
theorem wipe_set0 {σ : L2.St} {i : Nat} {y : Option V} : ∀ vs : List Nat, (wipe (σ.set i y) vs).set i none = (wipe σ vs).set i none
  | [] => by simp [wipe]
  | v :: vs => by
    unfold wipe
    by_cases h : v = i
    · subst h
      rw [List.set_set, List.set_set, wipe_set0 vs]
    · rw [List.set_comm _ _ h, List.set_comm _ _ h, wipe_set0 vs]
theorem wipe_set {σ : L2.St} {i : Nat} {y : Option V} : ∀ {vs : List Nat}, i ∈ vs → wipe (σ.set i y) vs = wipe σ vs
  | v :: vs, h => by
    unfold wipe
    by_cases e : i = v
    · subst e
      exact wipe_set0 vs
    · have h' : i ∈ vs := by
        rcases List.mem_cons.mp h with h | h
        · exact absurd h e
        · exact h
      rw [wipe_set h']
mutual
theorem pat_ok {K : PySem.W.Frag} {c : Ct} {w : Ws} {S : Store} {H : Hp} (hK : c.K = K) (hk : Hok c w S H) {vs : List Nat} : ∀ (p : Pat) {as as' : Env} {σ : L2.St} {v : V} {x : AV} {Q : L2.St → Hp → Prop}, EnvOk c w as σ → Rp c w v x → patE p x as = some as' → patIn vs p = true →
    (∀ σ', EnvOk c w as' σ' → wipe σ' vs = wipe σ vs → Q σ' H) → gPat K p v σ H Q
  | .nm i, as, as', σ, v, x, Q, he, r, e, hi, q => by
    have e : some (as.set i (some x)) = some as' := by simpa [patE] using e
    cases e
    have hi : vs.contains i = true := by simpa [patIn] using hi
    show gPat K (.nm i) v σ H Q
    unfold gPat
    exact q _ (he.set i r) (wipe_set (List.contains_iff_mem.mp hi))
  | .tup ps, as, as', σ, v, x, Q, he, r, e, hi, q => by
    unfold patE at e
    split at e
    · rename_i xs hx
      split at e
      · rename_i hl
        obtain ⟨a, us, rfl, h1, h2⟩ := rp_tupH hk hx r
        unfold gPat
        refine ⟨a, us, rfl, hK ▸ h1, by rw [h2.length]; exact Nat.eq_of_beq_eq_true hl, ?_⟩
        exact pats_ok hK hk ps he h2 e (by simpa [patIn] using hi) q
      · cases e
    · cases e
theorem pats_ok {K : PySem.W.Frag} {c : Ct} {w : Ws} {S : Store} {H : Hp} (hK : c.K = K) (hk : Hok c w S H) {vs : List Nat} : ∀ (ps : List Pat) {as as' : Env} {σ : L2.St} {us : List V} {xs : List AV} {Q : L2.St → Hp → Prop}, EnvOk c w as σ → Rps c w us xs → patsE ps xs as = some as' → patsIn vs ps = true →
    (∀ σ', EnvOk c w as' σ' → wipe σ' vs = wipe σ vs → Q σ' H) → gPats K ps us σ H Q
  | [], as, as', σ, us, xs, Q, he, r, e, hi, q => by
    cases r with
    | nil =>
      have e : some as = some as' := by simpa [patsE] using e
      cases e
      unfold gPats
      exact ⟨rfl, q σ he rfl⟩
    | cons _ _ => simp [patsE] at e
  | p :: ps, as, as', σ, us, xs, Q, he, r, e, hi, q => by
    cases r with
    | nil => simp [patsE] at e
    | cons r1 r2 =>
      have hi : patIn vs p = true ∧ patsIn vs ps = true := by simpa [patsIn] using hi
      unfold patsE at e
      split at e
      · rename_i as1 h1
        unfold gPats
        refine ⟨_, _, rfl, pat_ok hK hk p he r1 h1 hi.1 fun σ1 he1 w1 => ?_⟩
        exact pats_ok hK hk ps he1 r2 e hi.2 fun σ2 he2 w2 => q σ2 he2 (w2.trans w1)
      · cases e
end
abbrev AP (X : Cx) (e : Expr) (p : Pat) : Prop := PG X e (gPat X.K p)
abbrev APs (X : Cx) (e : List Expr) (p : List Pat) : Prop := PGs X e (gPats X.K p)
section
variable {X : Cx} {W : XK} {pos : Pos}
theorem ap_nm {e : Expr} (i : Nat) (h : PG X e (gName i)) : AP X e (.nm i) := by
  show PG X e (gPat X.K (.nm i))
  unfold gPat
  exact h
theorem aps_nil : APs X [] [] := by
  show PGs X [] (gPats X.K [])
  unfold gPats
  exact pgs_nil
theorem aps_cons {e : Expr} {es : List Expr} {p : Pat} {ps : List Pat} (h1 : AP X e p) (h2 : APs X es ps) (hs : (assignEach (e :: es) X.env).map (·.2) = assign e X.env :: (assignEach es X.env).map (·.2) := by rfl) : APs X (e :: es) (p :: ps) := by
  show PGs X (e :: es) (gPats X.K (p :: ps))
  unfold gPats
  exact pgs_cons h1 h2 hs
theorem ap_tup {es : List Expr} {ps : List Pat} {k : Nat} (hc : X.calm = true) (h : APs X es ps) (hn : (assignEach es X.env).length = ps.length := by rfl) (hst : (assignEach es X.env).findIdx? (·.1) = none := by rfl) : AP X (.Tuple es k pos) (.tup ps) := by
  show PG X (.Tuple es k pos) (gPat X.K (.tup ps))
  unfold gPat
  exact pg_tup hc h hn hst

/-! ### [e for p in it if t] -/
def wipeE (as : Env) : List Nat → Env
  | [] => as
  | v :: vs => (wipeE as vs).set v none
theorem EnvOk.wipe {c : Ct} {w : Ws} {as : Env} {σ : L2.St} (e : EnvOk c w as σ) : ∀ vs : List Nat, EnvOk c w (wipeE as vs) (L2.wipe σ vs)
  | [] => e
  | v :: vs => by
    have ih := EnvOk.wipe e vs
    refine ⟨by show ((wipeE as vs).set v none).length = ((L2.wipe σ vs).set v none).length; simp [ih.len], fun i x q => ?_⟩
    have q : ((wipeE as vs).set v none)[i]? = some (some x) := q
    show ∃ u, ((L2.wipe σ vs).set v none)[i]? = some (some u) ∧ _
    by_cases h : v = i
    · subst h
      by_cases hl : v < (wipeE as vs).length
      · rw [List.getElem?_set_self hl] at q; cases q
      · rw [List.getElem?_eq_none (by simpa using hl)] at q; cases q
    · rw [List.getElem?_set_ne h] at q ⊢
      exact ih.at_ i x q
def tYesX : XT := fun _ S => .ret true S
def compL (p : Pat) (t : XT) (e : XE) (as : Env) : List AV → Store → Cm (List AV)
  | [], S => .ret [] S
  | z :: zs, S => match patE p z as with
    | some as1 => (t as1 S).bind fun b S1 => match b with
      | true => (e as1 S1).bind fun y S2 => (compL p t e as zs S2).bind fun ys S3 => .ret (y :: ys) S3
      | false => compL p t e as zs S1
    | none => .stuck
def compM (p : Pat) (t : XT) (e : XE) (as : Env) (h : Nat) (en : Bool) : Nat → Nat → Store → Cm (List AV)
  | 0, _, _ => .stuck
  | n + 1, i, S => match muAt h en S with
    | some xs => match xs[i]? with
      | none => .ret [] S
      | some z => match patE p z as with
        | some as1 => (t as1 S).bind fun b S1 => match b with
          | true => (e as1 S1).bind fun y S2 => (compM p t e as h en n (i + 1) S2).bind fun ys S3 => .ret (y :: ys) S3
          | false => compM p t e as h en n (i + 1) S1
        | none => .stuck
    | none => .stuck
def compI (p : Pat) (t : XT) (e : XE) (as : Env) (v : ItV) (S : Store) : Cm (List AV) := match v with
  | .fz xs => match okLen xs.length with
    | true => compL p t e as xs S
    | false => .stuck
  | .mu h en => match okLen (lenH h S + 1) with
    | true => compM p t e as h en (lenH h S + 1) 0 S
    | false => .stuck
def eComp (mu : Bool) (vs : List Nat) (f : XI) (p : Pat) (t : XT) (e : XE) : XE := fun as S => (f as S).bind fun v S1 => (compI p t e (wipeE as vs) v S1).calm.bind fun ys S2 => .ret (newL mu ys S2).1 (newL mu ys S2).2
theorem rd_step0 {α β α' : Type} {rel : Ct → Ws → β → α → Prop} {K : PySem.W.Frag} {mg : Str → Option Value} {c : Ct} {w : Ws} {S : Store} {H : Hp} {as : Env} {σ : L2.St} {f : Env → Store → Cm α} {k : α → Store → Cm α'} {P : α' → Store → Prop} {R : β → Hp → Prop}
    (hK : c.K = K) (hM : c.mg = mg) (hk : Hok c w S H) (he : EnvOk c w as σ) (h : ((f as S).bind k).All P (fun _ _ => False))
    (go : ∀ v H1 x w1 S1, Ext c w H w1 H1 → Hok c w1 S1 H1 → EnvOk c w1 as σ → rel c w1 v x → (k x S1).All P (fun _ _ => False) → R v H1) : rdG rel K mg W f σ H R :=
  ⟨c, w, S, as, hK, hM, hk, he, h.bind.mono (fun x S1 hx v w1 H1 e k1 r => go v H1 x w1 S1 e k1 (he.le e.le) r hx) fun _ _ q => q.elim⟩
/-- an object that neither is known to stand nor is in the store -/
structure Apart (c : Ct) (w : Ws) (D : Addr) : Prop where
  fz : w.fz D = none
  ad : D ∉ w.ad
  cu : c.cu ≠ some D
theorem Apart.new {c : Ct} {w : Ws} {S : Store} {H : Hp} {D : Addr} (k : Hok c w S H) (h : H D = none) : Apart c w D := ⟨k.fzNone h, k.notAd h, k.notCu h⟩
theorem Apart.ext {c : Ct} {w w' : Ws} {H H' : Hp} {D : Addr} {o : HO} (a : Apart c w D) (h : H D = some o) (e : Ext c w H w' H') : Apart c w' D ∧ H' D = some o := by
  refine ⟨⟨?_, ?_, a.cu⟩, e.fr D o h a.ad a.cu⟩
  · cases q : w'.fz D with
    | none => rfl
    | some u => have := e.nf D u q a.fz; rw [h] at this; cases this
  · obtain ⟨m, em, hm⟩ := e.ad
    rw [em]
    intro z
    rcases List.mem_append.mp z with z | z
    · exact a.ad z
    · rw [hm D z] at h; cases h
theorem Hok.other {c : Ct} {w : Ws} {S : Store} {H : Hp} {D : Addr} {o : HO} (k : Hok c w S H) (a : Apart c w D) (hn : ∀ x, H D ≠ some (.own x)) : Hok c w S (upd H D o) := by
  refine ⟨fun b u e => ?_, fun i m e => ?_, k.len, k.nd, fun b e => ?_⟩
  · rw [upd_ne (fun (z : b = D) => by subst z; rw [a.fz] at e; cases e)]
    exact k.fz b u e
  · obtain ⟨b, h1, h2, h3⟩ := k.st i m e
    have hb : b ≠ D := fun z => a.ad (by rw [← z]; exact List.mem_of_getElem? h1)
    exact ⟨b, h1, h2, h3.keep (WsLe.refl w) (fun u q => by rw [upd_ne hb]; exact q) fun d q => by rw [upd_ne (fun (z : d = D) => hn b (by rw [← z]; exact q))]; exact q⟩
  · obtain ⟨h1, h2, h3⟩ := k.cu b e
    exact ⟨h1, h2, h3.keep fun u q => by rw [upd_ne (fun (z : b = D) => a.cu (by rw [← z]; exact e))]; exact q⟩
theorem Ext.other {c : Ct} {w w' : Ws} {H H' : Hp} {D : Addr} {o : HO} (e : Ext c w H w' H') (h : H D = none) : Ext c w H w' (upd H' D o) :=
  ⟨e.fz, e.ad, fun b u q hn hc => by rw [upd_ne (ne_of_none q h)]; exact e.fr b u q hn hc, e.nf, fun b q => by
    by_cases hb : b = D
    · rw [hb]; exact h
    · rw [upd_ne hb] at q; exact e.kp b q⟩
/-- it is taken in at last -/
theorem adopt {c : Ct} {w w' : Ws} {S : Store} {H H' : Hp} {D : Addr} {vs : List V} {xs : List AV} {Q : VK} (mu : Bool) (e : Ext c w H w' H') (k : Hok c w' S H') (a : Apart c w' D) (h : H D = none) (h' : H' D = some (.lst vs)) (r : Rps c w' vs xs)
    (q : Post c w H Q (newL mu xs S).1 (newL mu xs S).2) : Q (.ref D) H' := by
  cases mu with
  | false =>
    have l : WsLe w' (w'.addF D (.lst vs)) := ⟨fun b u q => by
      show upd w'.fz D (.lst vs) b = some u
      rw [upd_ne (fun (z : b = D) => by subst z; rw [a.fz] at q; cases q)]; exact q, fun _ _ q => q⟩
    refine q (.ref D) (w'.addF D (.lst vs)) H' ⟨fun b u q => l.fz b u (e.fz b u q), e.ad, e.fr, fun b u q hn => ?_, e.kp⟩ ⟨fun b u q => ?_, fun i m q => ?_, k.len, k.nd, fun b q => ?_⟩ (rp_lst upd_same (r.le l))
    · by_cases hb : b = D
      · rw [hb]; exact h
      · have q : upd w'.fz D (.lst vs) b = some u := q
        rw [upd_ne hb] at q
        exact e.nf b u q hn
    · have q : upd w'.fz D (.lst vs) b = some u := q
      by_cases hb : b = D
      · subst hb; rw [upd_same] at q; cases q; exact h'
      · rw [upd_ne hb] at q; exact k.fz b u q
    · obtain ⟨b, h1, h2, h3⟩ := k.st i m q
      have hb : b ≠ D := fun z => a.ad (by rw [← z]; exact List.mem_of_getElem? h1)
      exact ⟨b, h1, by show upd w'.fz D (.lst vs) b = none; rw [upd_ne hb]; exact h2, h3.keep l (fun _ q => q) fun _ q => q⟩
    · obtain ⟨h1, h2, h3⟩ := k.cu b q
      refine ⟨?_, h2, h3⟩
      show upd w'.fz D (.lst vs) b = none
      rw [upd_ne (fun (z : b = D) => a.cu (by rw [← z]; exact q))]; exact h1
  | true =>
    have l : WsLe w' (w'.addH D) := ⟨fun _ _ q => q, fun n b q => by
      show (w'.ad ++ [D])[n]? = some b
      rw [List.getElem?_append_left (List.getElem?_eq_some_iff.mp q).1]; exact q⟩
    obtain ⟨m, em, hm⟩ := e.ad
    refine q (.ref D) (w'.addH D) H' ⟨e.fz, ⟨m ++ [D], by show w'.ad ++ [D] = _; rw [em, List.append_assoc], fun b hb => ?_⟩, e.fr, e.nf, e.kp⟩ ⟨k.fz, fun i m q => ?_, by show (S ++ [MO.lst xs]).length = (w'.ad ++ [D]).length; simp [k.len], ?_, fun b q => ?_⟩ (.h ?_)
    · rcases List.mem_append.mp hb with hb | hb
      · exact hm b hb
      · rw [List.mem_singleton.mp hb]; exact h
    · have q : (S ++ [MO.lst xs])[i]? = some m := q
      by_cases hi : i < S.length
      · rw [List.getElem?_append_left hi] at q
        obtain ⟨b, h1, h2, h3⟩ := k.st i m q
        exact ⟨b, l.ad _ _ h1, h2, h3.keep l (fun _ q => q) fun _ q => q⟩
      · have hi' : i = S.length := by
          have := (List.getElem?_eq_some_iff.mp q).1
          simp at this
          omega
        subst hi'
        rw [List.getElem?_append_right (Nat.le_refl _)] at q
        simp at q
        subst q
        refine ⟨D, ?_, a.fz, vs, h', r.le l⟩
        show (w'.ad ++ [D])[S.length]? = some D
        rw [k.len, List.getElem?_append_right (Nat.le_refl _)]
        simp
    · show (w'.ad ++ [D]).Nodup
      rw [List.nodup_append]
      exact ⟨k.nd, by simp, fun x hx y hy => by
        rw [List.mem_singleton.mp hy]
        exact fun (z : x = D) => a.ad (by rw [← z]; exact hx)⟩
    · obtain ⟨h1, h2, h3⟩ := k.cu b q
      refine ⟨h1, fun z => ?_, h3⟩
      rcases List.mem_append.mp z with z | z
      · exact h2 z
      · exact a.cu (by rw [← List.mem_singleton.mp z]; exact q)
    · show (w'.ad ++ [D])[S.length]? = some D
      rw [k.len, List.getElem?_append_right (Nat.le_refl _)]
      simp
theorem wipe_get (σ : L2.St) (i : Nat) : ∀ vs : List Nat, (L2.wipe σ vs)[i]? = if i ∈ vs ∧ i < σ.length then some none else σ[i]?
  | [] => by simp [L2.wipe]
  | v :: vs => by
    unfold L2.wipe
    by_cases h : v = i
    · subst h
      by_cases hl : v < σ.length
      · rw [List.getElem?_set_self (by rw [wipe_length]; exact hl), if_pos ⟨List.mem_cons_self, hl⟩]
      · rw [List.getElem?_eq_none (by rw [List.length_set, wipe_length]; omega), if_neg (by omega), List.getElem?_eq_none (by omega)]
    · rw [List.getElem?_set_ne h, wipe_get σ i vs]
      have : (i ∈ v :: vs) ↔ i ∈ vs := by
        rw [List.mem_cons]
        exact ⟨fun z => z.resolve_left (fun e => h e.symm), .inr⟩
      simp only [this]
theorem wipe_idem {σ : L2.St} (vs : List Nat) : L2.wipe (L2.wipe σ vs) vs = L2.wipe σ vs := by
  refine List.ext_getElem? fun i => ?_
  rw [wipe_get, wipe_length, wipe_get]
  by_cases h : i ∈ vs ∧ i < σ.length
  · rw [if_pos h, if_pos h]
  · rw [if_neg h, if_neg h]
/-- what is to be shown of the rest of a comprehension -/
theorem comp_turn {c : Ct} {w1 w : Ws} {S : Store} {H1 H : Hp} {D : Addr} {acc : List V} {xacc : List AV} {as : Env} {σ : L2.St} {vs : List Nat} {p : Pat} {t : XT} {e : XE} {z : AV} {x : V} {k : Store → Cm (List AV)} {P : List AV → Store → Prop} {Nx : Hp → Prop}
    (hK : c.K = X.K) (hM : c.mg = X.mg) (e1 : Ext c w1 H1 w H) (hk : Hok c w S H) (ha : Apart c w D) (hD1 : H1 D = none) (hD : H D = some (.lst acc)) (hr : Rps c w acc xacc) (he : EnvOk c w (wipeE as vs) (L2.wipe σ vs)) (hz : acc.length < sizeLine) (rx : Rp c w x z) (hp : patIn vs p = true)
    (h : (match patE p z (wipeE as vs) with
        | some as1 => (t as1 S).bind fun b S1 => match b with
          | true => (e as1 S1).bind fun y S2 => (k S2).bind fun ys S3 => .ret (y :: ys) S3
          | false => k S1
        | none => .stuck).All P (fun _ _ => False))
    (hN : ∀ w' S' H' acc' more, Ext c w1 H1 w' H' → Hok c w' S' H' → Apart c w' D → H' D = some (.lst acc') → Rps c w' acc' (xacc ++ more) → more.length ≤ 1 → (k S').All (fun ys S3 => P (more ++ ys) S3) (fun _ _ => False) → Nx H') :
    gPat X.K p x (L2.wipe σ vs) H fun σ2 H2 => L2.wipe σ2 vs = L2.wipe σ vs ∧ tT X.K X.mg E0 t σ2 H2 fun b H3 =>
      if b = true then tE X.K X.mg E0 e σ2 H3 fun y H4 => ∃ acc, H4 D = some (.lst acc) ∧ acc.length < sizeLine ∧ Nx (upd H4 D (.lst (acc ++ [y]))) else Nx H3 := by
  cases q : patE p z (wipeE as vs) with
  | none => rw [q] at h; exact h.elim
  | some as1 =>
    rw [q] at h
    refine pat_ok hK hk p he rx q hp fun σ2 he2 hw => ⟨hw.trans (wipe_idem vs), ?_⟩
    refine rd_step0 hK hM hk he2 h fun b H3 b' w3 S3 e3 k3 he3 r3 h3 => ?_
    cases r3
    obtain ⟨a3, hD3⟩ := ha.ext hD e3
    cases b with
    | false =>
      rw [if_neg Bool.false_ne_true]
      exact hN w3 S3 H3 acc [] (e1.trans e3) k3 a3 hD3 (by rw [List.append_nil]; exact hr.le e3.le) (Nat.zero_le _) h3
    | true =>
      rw [if_pos rfl]
      refine rd_step0 hK hM k3 he3 h3 fun y H4 y' w4 S4 e4 k4 he4 r4 h4 => ?_
      obtain ⟨a4, hD4⟩ := a3.ext hD3 e4
      refine ⟨acc, hD4, hz, ?_⟩
      refine hN w4 S4 _ (acc ++ [y]) [y'] (((e1.trans e3).trans e4).other hD1) (k4.other a4 fun x z => by rw [hD4] at z; cases z) a4 upd_same ((hr.le (e3.trans e4).le).app (.cons r4 .nil)) (Nat.le_refl _) ?_
      exact h4.bind
theorem comp_imp {mu : Bool} {vs : List Nat} {f : XI} {p : Pat} {t : XT} {e : XE} {σ : L2.St} {H : Hp} {Q : VK} (hp : patIn vs p = true) (h : tE X.K X.mg W (eComp mu vs f p t e) σ H Q) : tLc (tI X.K X.mg W f) (gPat X.K p) (tT X.K X.mg E0 t) (tE X.K X.mg E0 e) vs σ H Q := by
  obtain ⟨c, w0, S0, as, hK, hM, hk0, he0, h⟩ := h
  refine ⟨c, w0, S0, as, hK, hM, hk0, he0, h.bind.mono (fun v S1 q J w1 H1 e1 k1 hJ D hD => ?_) fun _ _ q => q⟩
  have q : (compI p t e (wipeE as vs) v S1).All (fun ys S2 => Post c w1 H1 Q (newL mu ys S2).1 (newL mu ys S2).2) (fun _ _ => False) := Cm.All.calm (Cm.All.mono (fun _ _ z => PostG.mono e1 z) (fun _ _ z => z) (Cm.All.bind q))
  have k1' : Hok c w1 S1 (upd H1 D (.lst [])) := k1.other (Apart.new k1 hD) fun x z => by rw [hD] at z; cases z
  have he1 : EnvOk c w1 (wipeE as vs) (L2.wipe σ vs) := (he0.le e1.le).wipe vs
  cases v with
  | fz xs =>
    have q : (match okLen xs.length with
      | true => compL p t e (wipeE as vs) xs S1
      | false => .stuck).All (fun ys S2 => Post c w1 H1 Q (newL mu ys S2).1 (newL mu ys S2).2) (fun _ _ => False) := q
    cases hl : okLen xs.length with
    | false => rw [hl] at q; exact q.elim
    | true =>
      rw [hl] at q
      have hl := okLen_le hl
      refine ⟨fun i m H => i ≤ xs.length ∧ m = xs.length - i ∧ ∃ w S acc xacc, Ext c w1 H1 w H ∧ Hok c w S H ∧ Apart c w D ∧ H D = some (.lst acc) ∧ Rps c w acc xacc ∧ xacc.length ≤ i ∧ (compL p t e (wipeE as vs) (xs.drop i) S).All (fun ys S2 => Post c w1 H1 Q (newL mu (xacc ++ ys) S2).1 (newL mu (xacc ++ ys) S2).2) (fun _ _ => False),
        ⟨xs.length, Nat.zero_le _, by simp, w1, S1, [], [], (Ext.refl ..).other hD, k1', Apart.new k1 hD, upd_same, .nil, Nat.le_refl _, by rw [List.drop_zero]; exact q⟩, ?_⟩
      rintro i m H ⟨hi, rfl, w, S, acc, xacc, e2, k2, a2, hD2, r2, hla, h2⟩
      obtain ⟨st, go⟩ := hJ w S H e2 k2 xs rfl i
      cases hx : xs[i]? with
      | none =>
        rw [List.drop_eq_nil_of_le (get_of hx)] at h2
        refine .inl ⟨st hx, adopt mu e2 k2 a2 hD hD2 r2 ?_⟩
        have h2 : Post c w1 H1 Q (newL mu (xacc ++ []) S).1 (newL mu (xacc ++ []) S).2 := h2
        rw [List.append_nil] at h2
        exact h2
      | some z =>
        have hlt : i < xs.length := (List.getElem?_eq_some_iff.mp hx).1
        rw [List.drop_eq_getElem_cons hlt, (List.getElem?_eq_some_iff.mp hx).2] at h2
        obtain ⟨go, yl⟩ := go z hx
        refine .inr ⟨go, fun H' => i + 1 ≤ xs.length ∧ ∃ w S acc xacc, Ext c w1 H1 w H' ∧ Hok c w S H' ∧ Apart c w D ∧ H' D = some (.lst acc) ∧ Rps c w acc xacc ∧ xacc.length ≤ i + 1 ∧ (compL p t e (wipeE as vs) (xs.drop (i + 1)) S).All (fun ys S2 => Post c w1 H1 Q (newL mu (xacc ++ ys) S2).1 (newL mu (xacc ++ ys) S2).2) (fun _ _ => False),
          fun H' ⟨b1, b2⟩ => ⟨xs.length - (i + 1), by omega, b1, rfl, b2⟩, fun x H' y => ?_⟩
        obtain ⟨w', e3, k3, r3⟩ := yl x H' y
        obtain ⟨a3, hD3⟩ := a2.ext hD2 e3
        refine comp_turn hK hM (e2.trans e3) k3 a3 hD hD3 (r2.le e3.le) (he1.le (e2.trans e3).le) (by have := r2.length; omega) r3 hp h2 fun w4 S4 H4 acc4 more e4 k4 a4 hD4 r4 hm h4 => ?_
        exact ⟨hlt, w4, S4, acc4, xacc ++ more, e4, k4, a4, hD4, r4, by rw [List.length_append]; omega, h4.mono (fun ys S2 z => by rw [List.append_assoc]; exact z) fun _ _ z => z⟩
  | mu n en =>
    have q : (match okLen (lenH n S1 + 1) with
      | true => compM p t e (wipeE as vs) n en (lenH n S1 + 1) 0 S1
      | false => .stuck).All (fun ys S2 => Post c w1 H1 Q (newL mu ys S2).1 (newL mu ys S2).2) (fun _ _ => False) := q
    cases hl : okLen (lenH n S1 + 1) with
    | false => rw [hl] at q; exact q.elim
    | true =>
      rw [hl] at q
      have hl := okLen_le hl
      refine ⟨fun i m H => i + m = lenH n S1 + 1 ∧ ∃ w S acc xacc, Ext c w1 H1 w H ∧ Hok c w S H ∧ Apart c w D ∧ H D = some (.lst acc) ∧ Rps c w acc xacc ∧ xacc.length ≤ i ∧ (compM p t e (wipeE as vs) n en m i S).All (fun ys S2 => Post c w1 H1 Q (newL mu (xacc ++ ys) S2).1 (newL mu (xacc ++ ys) S2).2) (fun _ _ => False),
        ⟨lenH n S1 + 1, by omega, w1, S1, [], [], (Ext.refl ..).other hD, k1', Apart.new k1 hD, upd_same, .nil, Nat.le_refl _, q⟩, ?_⟩
      rintro i m H ⟨hi, w, S, acc, xacc, e2, k2, a2, hD2, r2, hla, h2⟩
      cases m with
      | zero => exact h2.elim
      | succ m =>
        have h2 : (match muAt n en S with
          | some xs => (match xs[i]? with
            | none => Cm.ret [] S
            | some z => (match patE p z (wipeE as vs) with
              | some as1 => (t as1 S).bind fun b S1 => (match b with
                | true => (e as1 S1).bind fun y S2 => (compM p t e (wipeE as vs) n en m (i + 1) S2).bind fun ys S3 => .ret (y :: ys) S3
                | false => compM p t e (wipeE as vs) n en m (i + 1) S1)
              | none => .stuck))
          | none => .stuck).All (fun ys S2 => Post c w1 H1 Q (newL mu (xacc ++ ys) S2).1 (newL mu (xacc ++ ys) S2).2) (fun _ _ => False) := h2
        cases q1 : muAt n en S with
        | none => rw [q1] at h2; exact h2.elim
        | some xs =>
          rw [q1] at h2
          obtain ⟨st, go⟩ := hJ w S H e2 k2 xs q1 i
          have h2 : (match xs[i]? with
            | none => Cm.ret [] S
            | some z => (match patE p z (wipeE as vs) with
              | some as1 => (t as1 S).bind fun b S1 => (match b with
                | true => (e as1 S1).bind fun y S2 => (compM p t e (wipeE as vs) n en m (i + 1) S2).bind fun ys S3 => .ret (y :: ys) S3
                | false => compM p t e (wipeE as vs) n en m (i + 1) S1)
              | none => .stuck)).All (fun ys S2 => Post c w1 H1 Q (newL mu (xacc ++ ys) S2).1 (newL mu (xacc ++ ys) S2).2) (fun _ _ => False) := h2
          cases hx : xs[i]? with
          | none =>
            rw [hx] at h2
            refine .inl ⟨st hx, adopt mu e2 k2 a2 hD hD2 r2 ?_⟩
            have h2 : Post c w1 H1 Q (newL mu (xacc ++ []) S).1 (newL mu (xacc ++ []) S).2 := h2
            rw [List.append_nil] at h2
            exact h2
          | some z =>
            rw [hx] at h2
            obtain ⟨go, yl⟩ := go z hx
            refine .inr ⟨go, fun H' => ∃ w S acc xacc, Ext c w1 H1 w H' ∧ Hok c w S H' ∧ Apart c w D ∧ H' D = some (.lst acc) ∧ Rps c w acc xacc ∧ xacc.length ≤ i + 1 ∧ (compM p t e (wipeE as vs) n en m (i + 1) S).All (fun ys S2 => Post c w1 H1 Q (newL mu (xacc ++ ys) S2).1 (newL mu (xacc ++ ys) S2).2) (fun _ _ => False),
              fun H' b2 => ⟨m, Nat.lt_succ_self _, by omega, b2⟩, fun x H' y => ?_⟩
            obtain ⟨w', e3, k3, r3⟩ := yl x H' y
            obtain ⟨a3, hD3⟩ := a2.ext hD2 e3
            refine comp_turn hK hM (e2.trans e3) k3 a3 hD hD3 (r2.le e3.le) (he1.le (e2.trans e3).le) (by have := r2.length; omega) r3 hp h2 fun w4 S4 H4 acc4 more e4 k4 a4 hD4 r4 hm h4 => ?_
            exact ⟨w4, S4, acc4, xacc ++ more, e4, k4, a4, hD4, r4, by rw [List.length_append]; omega, h4.mono (fun ys S2 z => by rw [List.append_assoc]; exact z) fun _ _ z => z⟩
theorem ae_comp {elt tg iter : Expr} {ifs : List Expr} {scope : Scope} {own : List (Str × Nat)} {f : XI} {p : Pat} {t : XT} {e : XE} (mu : Bool) (hc : X.calm = true) (hN : X.N.Nodup) (hi : AI X W tg iter f) (ok : BlkOk X.N X.env.scope scope own) (hp : patIn (own.map (·.2)) p = true)
    (hg : ∀ (s : Shared) (H : Hp) (C : Addr) (cl : List (Str × Addr)) (fp : List Addr), AP (X.blk s H scope (compEnvC scope cl C X.env) fp) tg p) (ht : ∀ (s : Shared) (H : Hp) (C : Addr) (cl : List (Str × Addr)) (fp : List Addr), PTs (X.blk s H scope (compEnvC scope cl C X.env) fp) ifs (tT X.K X.mg E0 t))
    (he : ∀ (s : Shared) (H : Hp) (C : Addr) (cl : List (Str × Addr)) (fp : List Addr), AE (X.blk s H scope (compEnvC scope cl C X.env) fp) E0 elt e) (hs : ∀ x, foldedSetIterable iter X.env x = pure x := by intro _; rfl) :
    AE X W (.ListComp elt [⟨tg, iter, ifs, 0⟩] scope pos) (eComp mu (own.map (·.2)) f p t e) :=
  pe_imp (pe_lc hc hN hi ok hg ht he hs) fun _ _ _ h => comp_imp hp h
theorem ats_nil : PTs X [] (tT X.K X.mg E0 tYesX) := ⟨fun pins s σ H Q I ⟨c, w, S, as, hK, hM, hk, he, h⟩ => (pts_nil (X := X)).run pins s σ H Q I (h true w H (Ext.refl ..) hk rfl)⟩
theorem ats_one {q : Expr} {t : XT} (h : AT X E0 q t) : PTs X [q] (tT X.K X.mg E0 t) := pts_one h
/-- name = [..] on one line -/
theorem as_setComp {i : Nat} {y : Str} {py spos : Pos} {elt tg iter : Expr} {ifs : List Expr} {scope : Scope} {own : List (Str × Nat)} {f : XI} {p : Pat} {t : XT} {e : XE} (mu : Bool) (hc : X.calm = true) (hN : X.N.Nodup) (hy : X.N[i]? = some y) (hyl : X.env.scope.names.lookup y = some .local)
    (hsw : swapsWith (.ListComp elt [⟨tg, iter, ifs, 0⟩] scope pos) (some (.Name y py)) spos.line X.env = pure true) (hi : AI X W tg iter f) (ok : BlkOk X.N X.env.scope scope own) (hp : patIn (own.map (·.2)) p = true)
    (hg : ∀ (s : Shared) (H : Hp) (C : Addr) (cl : List (Str × Addr)) (fp : List Addr), AP (X.blk s H scope (compEnvC scope cl C X.env) fp) tg p) (ht : ∀ (s : Shared) (H : Hp) (C : Addr) (cl : List (Str × Addr)) (fp : List Addr), PTs (X.blk s H scope (compEnvC scope cl C X.env) fp) ifs (tT X.K X.mg E0 t))
    (he : ∀ (s : Shared) (H : Hp) (C : Addr) (cl : List (Str × Addr)) (fp : List Addr), AE (X.blk s H scope (compEnvC scope cl C X.env) fp) E0 elt e) (hs : ∀ x, foldedSetIterable iter X.env x = pure x := by intro _; rfl) :
    AS X W (.Assign [.Name y py] (.ListComp elt [⟨tg, iter, ifs, 0⟩] scope pos) spos) (sSet i (eComp mu (own.map (·.2)) f p t e)) :=
  ps_imp (ps_setLc hc hN hy hyl hsw hi ok hg ht he hs) fun _ _ _ h => sSet_imp (fun _ _ _ q => comp_imp hp q) h
end
end RA

/-! RA8: stores to items, dicts, methods of lists and dicts, fields. -/
namespace RA
open PySem PySem.Spec L2
section
variable {X : Cx} {W : XK} {pos : Pos}
theorem PSet.or {t u : TSet} (a : PSet X t) (b : PSet X u) : PSet X (fun o i v H Q => t o i v H Q ∨ u o i v H Q) := fun pins s σ H o i v ov iv w Q I ro ri rv h => by
  rcases h with h | h
  · exact a pins s σ H o i v ov iv w Q I ro ri rv h
  · exact b pins s σ H o i v ov iv w Q I ro ri rv h
def putM (m : MO) (i v : AV) : Option MO := match m with
  | .lst xs => match i with
    | .p (.int k) => match ixN xs.length k with
      | some j => some (.lst (xs.set j v))
      | none => none
    | _ => none
  | .dk kvs => match keyK i with
    | some k => match okLen (kvs.length + 1) with
      | true => some (.dk (putA keyB kvs k v))
      | false => none
    | none => none
  | .dt kvs => match keyT i with
    | some k => match okLen (kvs.length + 1) with
      | true => some (.dt (putA keysB kvs k v))
      | false => none
    | none => none
  | .ins _ _ => none
/-- an object of the store is changed -/
def chg (o : AV) (S : Store) (f : MO → Option MO) : Option Store := match o with
  | .h n => match S[n]? with
    | some m => match f m with
      | some m' => some (S.set n m')
      | none => none
    | none => none
  | _ => none
theorem chg_ok {c : Ct} {w : Ws} {S S' : Store} {H : Hp} {o : AV} {vo : V} {f : MO → Option MO} (k : Hok c w S H) (ro : Rp c w vo o) (e : chg o S f = some S') :
    ∃ n a m m', o = .h n ∧ vo = .ref a ∧ w.ad[n]? = some a ∧ S[n]? = some m ∧ n < S.length ∧ f m = some m' ∧ S' = S.set n m' ∧ MOk c w H a m := by
  unfold chg at e
  split at e
  · rename_i n
    split at e
    · rename_i m hm
      split at e
      · rename_i m' hm'
        cases e
        cases ro with
        | @h _ a ha =>
          obtain ⟨a', h1, h2, h3⟩ := k.st _ _ hm
          rw [ha] at h1
          cases h1
          exact ⟨n, a, m, m', rfl, rfl, ha, hm, (List.getElem?_eq_some_iff.mp hm).1, hm', rfl, h3⟩
      · cases e
    · cases e
  · cases e
def gPut (o i v : AV) (S : Store) : Option Store := chg o S fun m => putM m i v
theorem lt_line {n : Nat} (h : okLen (n + 1) = true) : n < sizeLine := Nat.lt_of_lt_of_le (Nat.lt_succ_self n) (okLen_le h)
theorem put_imp (hkk : kkOf X.mg = false) {c : Ct} {w : Ws} {S S' : Store} {H : Hp} {o i v : AV} {vo vi vv : V} {Q : Hp → Prop} (hK : c.K = X.K) (hM : c.mg = X.mg) (k : Hok c w S H) (ro : Rp c w vo o) (ri : Rp c w vi i) (rv : Rp c w vv v) (e : gPut o i v S = some S')
    (q : ∀ H', Ext c w H w H' → Hok c w S' H' → Q H') : rSetL vo vi vv H Q ∨ rSetD vo vi vv H Q := by
  obtain ⟨n, a, m, m', rfl, rfl, ha, hq, hn, e', rfl, h3⟩ := chg_ok k ro e
  clear e
  have e : putM m i v = some m' := e'
  clear e'
  unfold putM at e
  split at e
  · rename_i xs
    obtain ⟨vs, h3, h4⟩ := h3
    split at e
    · rename_i z
      split at e
      · rename_i j hj
        cases e
        exact .inl ⟨a, vs, z, j, rfl, rp_int ri, h3, by rw [h4.length]; exact hj, q _ (Ext.put k ha) (k.put hn ha ⟨_, upd_same, h4.set rv j⟩)⟩
      · cases e
    · cases e
  · rename_i kvs
    obtain ⟨vs, h3, h4⟩ := h3
    split at e
    · rename_i kk hkk'
      split at e
      · rename_i hl
        cases e
        cases rp_keyK hkk' ri
        exact .inr ⟨a, _, rfl, DPut.k h3 (by rw [h4.length]; exact lt_line hl), q _ (Ext.put k ha) (k.put hn ha ⟨_, upd_same, putA_ok keyB_eq h4 kk rv⟩)⟩
      · cases e
    · cases e
  · rename_i kvs
    obtain ⟨vs, h3, h4⟩ := h3
    split at e
    · rename_i kk hkk'
      split at e
      · rename_i hl
        cases e
        obtain ⟨b, rfl, hb⟩ := rp_keyT (by show kkOf c.mg = false; rw [hM]; exact hkk) k hkk' ri
        exact .inr ⟨a, _, rfl, DPut.t h3 hb (by rw [h4.length]; exact lt_line hl), q _ (Ext.put k ha) (k.put hn ha ⟨_, upd_same, putA_ok keysB_eq h4 kk rv⟩)⟩
      · cases e
    · cases e
  · cases e
def gPutX (fo fi : XE) : XG := fun v as S => (fo as S).bind fun o S1 => (fi as S1).bind fun i S2 => match gPut o i v S2 with
  | some S3 => .ret as S3
  | none => .stuck
theorem ag_sub {o i : Expr} {fo fi : XE} (hkk : kkOf X.mg = false) (hu : X.A.units + 1 < cLine) (ho : AE X W o fo) (hi : AE X W i fi)
    (ha : ∀ v, assign (.Subscript o i pos) X.env v = (do
      let ov ← holding [v] (eval o X.env)
      let iv ← holding [v, ov] (eval i X.env)
      standAt pos
      holding [v, ov, iv] (setItem ov iv v)
      release [v, ov, iv] []) := by intro _; rfl) : AG X W (.Subscript o i pos) (gPutX fo fi) :=
  pg_imp (pg_sub ho hi (PSet.or set_list (set_dict hu)) ha) fun v σ H Q ⟨c, w, S, as, x, hK, hM, hk, he, r, h⟩ => by
    refine ⟨c, w, S, as, hK, hM, hk, he, h.bind.mono (fun o S1 h1 ov w1 H1 e1 k1 r1 => ⟨c, w1, S1, as, hK, hM, k1, he.le e1.le, (Cm.All.bind h1).mono (fun i S2 h2 iv w2 H2 e2 k2 r2 => ?_) fun _ _ q => PostX.mono e1 q⟩) fun _ _ q => q⟩
    cases hp : gPut o i x S2 with
    | none => rw [hp] at h2; exact h2.elim
    | some S3 =>
      rw [hp] at h2
      exact put_imp hkk hK hM k2 (r1.le e2.le) r2 (r.le (e1.trans e2).le) hp fun H3 e3 k3 => h2 σ w2 H3 ((e1.trans e2).trans e3) k3 (he.le (e1.trans e2).le)

/-! ### new dicts -/
def eDk : XE := fun _ S => .ret (.h S.length) (S ++ [.dk []])
def eDt : XE := fun _ S => .ret (.h S.length) (S ++ [.dt []])
theorem post_new {c : Ct} {w : Ws} {S : Store} {H : Hp} {p : Addr} {o : HO} {m : MO} {Q : VK} (k : Hok c w S H) (hp : H p = none) (hm : MOk c (w.addH p) (upd H p o) p m) (q : Post c w H Q (.h S.length) (S ++ [m])) : Q (.ref p) (upd H p o) := by
  refine q _ (w.addH p) _ (Ext.addH k hp) (k.addH hp hm) (.h ?_)
  show (w.ad ++ [p])[S.length]? = some p
  rw [k.len, List.getElem?_append_right (Nat.le_refl _)]
  simp
theorem ae_dk : AE X W (.Dict [] [] pos) eDk := pe_imp pe_dnewK fun σ H Q ⟨c, w, S, as, hK, hM, hk, he, h⟩ p hp => post_new (m := .dk []) hk hp ⟨[], upd_same, .nil⟩ h
theorem ae_dt : AE X W (.Dict [] [] pos) eDt := pe_imp pe_dnewT fun σ H Q ⟨c, w, S, as, hK, hM, hk, he, h⟩ p hp => post_new (m := .dt []) hk hp ⟨[], upd_same, .nil⟩ h

/-! ### a dict's display -/
def pairsX : List (XE × XE) → Env → Store → Cm (List (AV × AV))
  | [], _, S => .ret [] S
  | (f, g) :: r, as, S => (f as S).bind fun x S1 => (g as S1).bind fun y S2 => (pairsX r as S2).bind fun ps S3 => .ret ((x, y) :: ps) S3
def keysOf : List (AV × AV) → Option (List (Key × AV))
  | [] => some []
  | (x, y) :: r => match keyK x with
    | some k => match keysOf r with
      | some ks => some ((k, y) :: ks)
      | none => none
    | none => none
def mergeA (kvs more : List (Key × AV)) : List (Key × AV) := more.foldl (fun acc kv => putA keyB acc kv.1 kv.2) kvs
def eDisp (ps : List (XE × XE)) : XE := fun as S => (pairsX ps as S).bind fun xs S1 => match keysOf xs with
  | some kvs => match Nat.ble kvs.length 15 with
    | true => .ret (.h S1.length) (S1 ++ [.dk (mergeA [] kvs)])
    | false => .stuck
  | none => .stuck
structure AD (X : Cx) (W : XK) (pos : Pos) (keys : List (Option Expr)) (values : List Expr) (fs : List (XE × XE)) : Prop where
  run : PPs X pos keys values (fs.map fun p => (tE X.K X.mg W p.1, tE X.K X.mg W p.2))
theorem ad_nil : AD X W pos [] [] [] := ⟨pps_nil⟩
theorem ad_cons {k v : Expr} {ks : List (Option Expr)} {vs : List Expr} {fk fv : XE} {fs : List (XE × XE)} (hk : AE X W k fk) (hv : AE X W v fv) (hr : AD X W pos ks vs fs) : AD X W pos (some k :: ks) (v :: vs) ((fk, fv) :: fs) :=
  ⟨pps_cons hk hv hr.run⟩
theorem keysOf_ok {c : Ct} {w : Ws} : ∀ {ps : List (AV × AV)} {vs : List (V × V)} {kvs : List (Key × AV)}, keysOf ps = some kvs → Paired (fun (p : V × V) (q : AV × AV) => Rp c w p.1 q.1 ∧ Rp c w p.2 q.2) vs ps → ∃ ks : List (Key × V), vs = ks.map (fun kv => (kV kv.1, kv.2)) ∧ KVok c w ks kvs
  | [], _, _, e, .nil => by cases e; exact ⟨[], rfl, .nil⟩
  | (x, y) :: r, (p1, p2) :: vs, _, e, .cons h t => by
    unfold keysOf at e
    split at e
    · rename_i k hk
      split at e
      · rename_i ks hks
        cases e
        obtain ⟨ks', rfl, h2⟩ := keysOf_ok hks t
        have e1 : p1 = kV k := rp_keyK hk h.1
        subst e1
        exact ⟨(k, p2) :: ks', rfl, .cons ⟨rfl, h.2⟩ h2⟩
      · cases e
    · cases e
theorem merge_ok {c : Ct} {w : Ws} : ∀ {more : List (Key × V)} {rs : List (Key × AV)} {kvs : List (Key × V)} {xs : List (Key × AV)}, KVok c w more rs → KVok c w kvs xs → KVok c w (mergeK kvs more) (mergeA xs rs)
  | [], [], _, _, _, s => s
  | p :: ps, q :: qs, kvs, xs, .cons h t, s => by
    have e : p.1 = q.1 := h.1
    have s' : KVok c w (putK kvs p.1 p.2) (putA keyB xs q.1 q.2) := by
      rw [← e]
      exact putA_ok keyB_eq s p.1 h.2
    exact merge_ok (more := ps) (rs := qs) t s'
theorem WsLe.addH (w : Ws) (p : Addr) : WsLe w (w.addH p) := ⟨fun _ _ q => q, fun n b q => by
  show (w.ad ++ [p])[n]? = some b
  rw [List.getElem?_append_left (List.getElem?_eq_some_iff.mp q).1]; exact q⟩
/-- an object made in between is taken in at last -/
theorem adoptM {c : Ct} {w w' : Ws} {S : Store} {H H' : Hp} {D : Addr} {m : MO} {Q : VK} (e : Ext c w H w' H') (k : Hok c w' S H') (a : Apart c w' D) (h : H D = none) (hm : MOk c (w'.addH D) H' D m) (q : Post c w H Q (.h S.length) (S ++ [m])) : Q (.ref D) H' := by
  have l : WsLe w' (w'.addH D) := ⟨fun _ _ q => q, fun n b q => by
    show (w'.ad ++ [D])[n]? = some b
    rw [List.getElem?_append_left (List.getElem?_eq_some_iff.mp q).1]; exact q⟩
  obtain ⟨ms, em, hms⟩ := e.ad
  refine q (.ref D) (w'.addH D) H' ⟨e.fz, ⟨ms ++ [D], by show w'.ad ++ [D] = _; rw [em, List.append_assoc], fun b hb => ?_⟩, e.fr, e.nf, e.kp⟩ ⟨k.fz, fun i mo q => ?_, by show (S ++ [m]).length = (w'.ad ++ [D]).length; simp [k.len], ?_, fun b q => ?_⟩ (.h ?_)
  · rcases List.mem_append.mp hb with hb | hb
    · exact hms b hb
    · rw [List.mem_singleton.mp hb]; exact h
  · have q : (S ++ [m])[i]? = some mo := q
    by_cases hi : i < S.length
    · rw [List.getElem?_append_left hi] at q
      obtain ⟨b, h1, h2, h3⟩ := k.st i mo q
      exact ⟨b, l.ad _ _ h1, h2, h3.keep l (fun _ q => q) fun _ q => q⟩
    · have hi' : i = S.length := by
        have := (List.getElem?_eq_some_iff.mp q).1
        simp at this
        omega
      subst hi'
      rw [List.getElem?_append_right (Nat.le_refl _)] at q
      simp at q
      subst q
      refine ⟨D, ?_, a.fz, hm⟩
      show (w'.ad ++ [D])[S.length]? = some D
      rw [k.len, List.getElem?_append_right (Nat.le_refl _)]
      simp
  · show (w'.ad ++ [D]).Nodup
    rw [List.nodup_append]
    exact ⟨k.nd, by simp, fun x hx y hy => by
      rw [List.mem_singleton.mp hy]
      exact fun (z : x = D) => a.ad (by rw [← z]; exact hx)⟩
  · obtain ⟨h1, h2, h3⟩ := k.cu b q
    refine ⟨h1, fun z => ?_, h3⟩
    rcases List.mem_append.mp z with z | z
    · exact h2 z
    · exact a.cu (by rw [← List.mem_singleton.mp z]; exact q)
  · show (w'.ad ++ [D])[S.length]? = some D
    rw [k.len, List.getElem?_append_right (Nat.le_refl _)]
    simp
theorem pairs_imp {c : Ct} {as : Env} {σ : L2.St} (hK : c.K = X.K) (hM : c.mg = X.mg) {D : Addr} : ∀ {fs : List (XE × XE)} {w : Ws} {S : Store} {H : Hp} {C : List (AV × AV) → Store → Prop} {Q : List (V × V) → Hp → Prop} {H0 : Hp} {w0 : Ws},
    Ext c w0 H0 w H → Hok c w S H → Apart c w D → H D = some (.dK []) → EnvOk c w as σ → (pairsX fs as S).All C (PostX c w0 H0 W) →
    (∀ ps vs w' S' H', Ext c w0 H0 w' H' → Hok c w' S' H' → Apart c w' D → H' D = some (.dK []) → Paired (fun (p : V × V) (q : AV × AV) => Rp c w' p.1 q.1 ∧ Rp c w' p.2 q.2) vs ps → WsLe w w' → C ps S' → Q vs H') →
    tPairs (fs.map fun p => (tE X.K X.mg W p.1, tE X.K X.mg W p.2)) σ H Q
  | [], w, S, H, C, Q, H0, w0, e0, k0, a0, hD, he, h, go => go [] [] w S H e0 k0 a0 hD .nil (WsLe.refl w) h
  | (f, g) :: r, w, S, H, C, Q, H0, w0, e0, k0, a0, hD, he, h, go => by
    have h : ((f as S).bind fun x S1 => (g as S1).bind fun y S2 => (pairsX r as S2).bind fun ps S3 => Cm.ret ((x, y) :: ps) S3).All C (PostX c w0 H0 W) := h
    refine ⟨c, w, S, as, hK, hM, k0, he, h.bind.mono (fun x S1 h1 v w1 H1 e1 k1 r1 => ?_) fun _ _ q => q.mono e0⟩
    obtain ⟨a1, hD1⟩ := a0.ext hD e1
    refine ⟨c, w1, S1, as, hK, hM, k1, he.le e1.le, h1.bind.mono (fun y S2 h2 u w2 H2 e2 k2 r2 => ?_) fun _ _ q => q.mono (e0.trans e1)⟩
    obtain ⟨a2, hD2⟩ := a1.ext hD1 e2
    refine pairs_imp hK hM ((e0.trans e1).trans e2) k2 a2 hD2 (he.le (e1.trans e2).le) h2.bind fun ps vs w3 S3 H3 e3 k3 a3 hD3 r3 l3 h3 => ?_
    exact go _ _ w3 S3 H3 e3 k3 a3 hD3 (.cons ⟨r1.le (e2.le.trans l3), r2.le l3⟩ r3) ((e1.trans e2).le.trans l3) h3
theorem ae_disp {keys : List (Option Expr)} {values : List Expr} {fs : List (XE × XE)} (h : AD X W pos keys values fs) (hall : keys.all (·.isSome) = true := by rfl) (hl : keys.length = values.length := by rfl) (h0 : keys ≠ [] := by exact List.cons_ne_nil _ _)
    (h15 : keys.length ≤ 15 := by decide) : AE X W (.Dict keys values pos) (eDisp fs) :=
  pe_imp (pe_disp h.run hall hl h0 h15) fun σ H Q ⟨c, w, S, as, hK, hM, hk, he, h⟩ p hp => by
    have a0 := Apart.new hk hp
    refine pairs_imp (W := W) hK hM ((Ext.refl c w H).other hp) (hk.other a0 fun x z => by rw [hp] at z; cases z) a0 upd_same he h.bind fun ps vs w' S' H' e' k' a' hD' r' l' h' => ⟨hD', ?_⟩
    cases hq : keysOf ps with
    | none => rw [hq] at h'; exact h'.elim
    | some kvs =>
      rw [hq] at h'
      dsimp only at h'
      cases hb : Nat.ble kvs.length 15 with
      | false => rw [hb] at h'; exact h'.elim
      | true =>
        rw [hb] at h'
        obtain ⟨ks, rfl, r2⟩ := keysOf_ok hq r'
        refine ⟨ks, rfl, by rw [r2.length]; exact Nat.le_of_ble_eq_true hb, ?_⟩
        have rm := merge_ok r2 (c := c) (w := w') (kvs := []) (xs := []) .nil
        have k2 := k'.other (o := .dK (mergeK [] ks)) a' fun x z => by rw [hD'] at z; cases z
        have e2 := e'.other (o := .dK (mergeK [] ks)) hp
        exact adoptM (m := .dk (mergeA [] kvs)) e2 k2 a' hp ⟨_, upd_same, rm.le (WsLe.addH _ _)⟩ h'
end
end RA

/-! RA9: methods of built-ins, fields. -/
namespace RA
open PySem PySem.Spec L2
section
variable {X : Cx} {W : XK} {apos cpos : Pos} {o e e2 : Expr} {es : List Expr} {fo f g : XE} {ga : XA}
/-! ### d.get -/
def isDict (x : AV) (S : Store) : Bool := match x with
  | .h n => match S[n]? with
    | some (.dk _) => true
    | some (.dt _) => true
    | _ => false
  | _ => false
theorem isD_h {c : Ct} {w : Ws} {S : Store} {H : Hp} {v : V} {x : AV} (k : Hok c w S H) (r : Rp c w v x) (h : isDict x S = true) : ∃ a, v = .ref a ∧ IsD H a := by
  cases x with
  | h n =>
    cases r with
    | @h _ a ha =>
      refine ⟨a, rfl, ?_⟩
      have h : (match S[n]? with
        | some (.dk _) => true
        | some (.dt _) => true
        | _ => false) = true := h
      cases q : S[n]? with
      | none => rw [q] at h; cases h
      | some m =>
        rw [q] at h
        obtain ⟨a', h1, _, h3⟩ := k.st _ _ q
        rw [ha] at h1
        cases h1
        cases m with
        | dk kvs => obtain ⟨ks, h3, _⟩ := h3; exact .inl ⟨ks, .inl h3⟩
        | dt kvs => obtain ⟨ks, h3, _⟩ := h3; exact .inr ⟨ks, .inl h3⟩
        | _ => cases h
  | _ => cases h
def eGet2 (fo f g : XE) : XE := fun as S => (fo as S).bind fun x S1 => match isDict x S1 with
  | true => (f as S1).bind fun y S2 => (g as S2).bind fun z S3 => match dGet x y S3 with
    | some (some u) => .ret u S3
    | some none => .ret z S3
    | none => .stuck
  | false => .stuck
theorem ae_get2 (hkk : kkOf X.mg = false) (hu : X.A.units + 1 < cLine) (ho : AE X W o fo) (he : AE X W e f) (hf : AE X W e2 g) (m : M2 X o "get" apos e e2 cpos := by exact ⟨rfl, rfl, rfl, rfl⟩) : AE X W (.Call (.Attribute o "get" apos) [e, e2] [] cpos) (eGet2 fo f g) :=
  pe_imp (pe_dget2 hu ho he hf m) fun σ H Q ⟨c, w, S, as, hK, hM, hk, he, h⟩ => by
    refine rd_step hK hM hk he h fun v H1 x w1 S1 e1 k1 he1 r1 h1 => ?_
    cases hd : isDict x S1 with
    | false => rw [hd] at h1; exact h1.elim
    | true =>
      rw [hd] at h1
      obtain ⟨a, rfl, ha⟩ := isD_h k1 r1 hd
      refine ⟨a, rfl, ha, ?_⟩
      refine rd_step hK hM k1 he1 h1 fun u H2 y w2 S2 e2 k2 he2 r2 h2 => ?_
      refine rd_step hK hM k2 he2 h2 fun t H3 z w3 S3 e3 k3 he3 r3 h3 => ?_
      cases hg : dGet x y S3 with
      | none => rw [hg] at h3; exact h3.elim
      | some ov =>
        rw [hg] at h3
        obtain ⟨a', ov', q1, q2, q3⟩ := rp_dGet (by show kkOf c.mg = false; rw [hM]; exact hkk) k3 hg (r1.le (e2.trans e3).le) (r2.le e3.le)
        cases q1
        refine ⟨ov', q2, ?_⟩
        cases ov with
        | none => rw [show ov' = none from q3]; exact h3 _ w3 H3 (Ext.refl ..) k3 r3
        | some u =>
          obtain ⟨v', q4, q5⟩ := q3
          rw [q4]
          exact h3 _ w3 H3 (Ext.refl ..) k3 q5
/-! ### methods by values -/
theorem rps_one {c : Ct} {w : Ws} {vs : List V} {x : AV} (r : Rps c w vs [x]) : ∃ v, vs = [v] ∧ Rp c w v x := rps1 r
def rBM (K : PySem.W.Frag) (mg : Str → Option Value) (g : AV → List AV → Store → Option (AV × Store)) : V → List V → Hp → VK → Prop := fun v vs H Q =>
  ∃ c w S x xs z S', c.K = K ∧ c.mg = mg ∧ Hok c w S H ∧ Rp c w v x ∧ Rps c w vs xs ∧ g x xs S = some (z, S') ∧ Post c w H Q z S'
/-- the receiver is of the type -/
def tyA (T : String) (x : AV) (S : Store) : Bool := match x with
  | .p (.str _) => T == "str"
  | .p (.list _) => T == "list"
  | .lst _ => T == "list"
  | .h n => match S[n]? with
    | some (.lst _) => T == "list"
    | some (.dk _) => T == "dict"
    | some (.dt _) => T == "dict"
    | _ => false
  | _ => false
theorem tyA_ok {c : Ct} {w : Ws} {S : Store} {H : Hp} {v : V} {x : AV} {T : String} (k : Hok c w S H) (r : Rp c w v x) (h : tyA T x S = true) : tyV c.K T v H := by
  unfold tyA at h
  split at h
  · rw [rp_str r]; exact beq_iff_eq.mp h
  · cases r with
    | p r =>
      cases r with
      | lst a _ => exact .inl ⟨beq_iff_eq.mp h, _, .inl (.inl (k.fz _ _ a))⟩
  · cases r with
    | lst a _ => exact .inl ⟨beq_iff_eq.mp h, _, .inl (.inl (k.fz _ _ a))⟩
  · cases r with
    | @h n a ha =>
      split at h
      all_goals first
        | (rename_i q
           obtain ⟨a', h1, _, h3⟩ := k.st _ _ q
           rw [ha] at h1
           cases h1
           obtain ⟨ks, h3, _⟩ := h3
           first
             | exact .inl ⟨beq_iff_eq.mp h, _, .inl (.inl h3)⟩
             | exact .inr (.inr (.inl ⟨beq_iff_eq.mp h, .inl ⟨_, h3⟩⟩))
             | exact .inr (.inr (.inl ⟨beq_iff_eq.mp h, .inr ⟨_, h3⟩⟩)))
        | cases h
  · cases h
def eBM (T : String) (g : AV → List AV → Store → Option (AV × Store)) (fo : XE) (ga : XA) : XE := fun as S => (fo as S).bind fun x S1 => match tyA T x S1 with
  | true => (ga as S1).bind fun xs S2 => Cm.of (g x xs S2)
  | false => .stuck
theorem ae_bm {g : AV → List AV → Store → Option (AV × Store)} {name : Str} {T id : String} (pa : PlainAttrs T) (slot : Slot T name id) (hty : typeOf (.builtin id) = pure (.type "method_descriptor")) (hm : MtR X id (rBM X.K X.mg g)) (ho : AE X W o fo) (ha : AA X W (e :: es) ga)
    (hbase : attributeBase o name X.env (eval o X.env) = eval o X.env := by rfl)
    (hfew : ((backTo cpos (starEach (e :: es) X.env)).all (fun x => !x.1) && (backToKw cpos (keywordEach [] X.env)).all (fun x => x.1.isSome)
      && decide ((e :: es).length + ([] : List Keyword).length + (if ([] : List Keyword).isEmpty then 0 else 1) < 30)) = true := by rfl)
    (hline : (apos.endLine == cpos.line) = true := by rfl) (hs : starEach (e :: es) X.env = (false, eval e X.env) :: starEach es X.env := by rfl) (hplain : (backTo cpos (starEach es X.env)).any (·.1) = false := by rfl) :
    AE X W (.Call (.Attribute o name apos) (e :: es) [] cpos) (eBM T g fo ga) :=
  pe_imp (pe_bm pa slot hty hm ho ha hbase hfew hline hs hplain) fun σ H Q ⟨c, w, S, as, hK, hM, hk, he, h⟩ => by
    refine rd_step hK hM hk he h fun v H1 x w1 S1 e1 k1 he1 r1 h1 => ?_
    cases hd : tyA T x S1 with
    | false => rw [hd] at h1; exact h1.elim
    | true =>
      rw [hd] at h1
      refine ⟨hK ▸ tyA_ok k1 r1 hd, ?_⟩
      refine rd_step hK hM k1 he1 h1 fun us H2 xs w2 S2 e2 k2 he2 r2 h2 => ?_
      obtain ⟨z, S3, hz, q⟩ := h2.of
      exact ⟨c, w2, S2, x, xs, z, S3, hK, hM, k2, r1.le e2.le, r2, hz, q⟩
theorem MtR.imp {id : String} {r r' : V → List V → Hp → VK → Prop} (h : MtR X id r) (q : ∀ x xs H Q, r' x xs H Q → r x xs H Q) : MtR X id r' := fun pins s σ H x xs v us Q I rx rxs z => h pins s σ H x xs v us Q I rx rxs (q _ _ _ _ z)
def gApp : AV → List AV → Store → Option (AV × Store) := fun o xs S => match xs with
  | [v] => match chg o S fun m => match m with
      | .lst ys => match okLen (ys.length + 1) with
        | true => some (.lst (ys ++ [v]))
        | false => none
      | _ => none with
    | some S' => some (.p .none, S')
    | none => none
  | _ => none
theorem mt_gApp : MtR X "list.append" (rBM X.K X.mg gApp) := MtR.imp mt_append fun v vs H Q ⟨c, w, S, x, xs, z, S', hK, hM, k, rx, rs, e, q⟩ => by
  unfold gApp at e
  split at e
  · rename_i y
    obtain ⟨u, rfl, ru⟩ := rps1 rs
    split at e
    · rename_i S1 h1
      cases e
      obtain ⟨n, a, m, m', rfl, rfl, ha, hq, hn, e', rfl, h3⟩ := chg_ok k rx h1
      split at e'
      · rename_i ys
        split at e'
        · rename_i hl
          cases e'
          obtain ⟨us, h3, h4⟩ := h3
          refine ⟨a, us, u, rfl, rfl, h3, by rw [h4.length]; exact lt_line hl, ?_⟩
          exact q .non w _ (Ext.put k ha) (k.put hn ha ⟨_, upd_same, h4.app (.cons ru .nil)⟩) (.p .non)
        · cases e'
      · cases e'
    · cases e
  · cases e
theorem ae_app (ho : AE X W o fo) (ha : AA X W [e] ga) (hbase : attributeBase o "append" X.env (eval o X.env) = eval o X.env := by rfl)
    (hfew : ((backTo cpos (starEach [e] X.env)).all (fun x => !x.1) && (backToKw cpos (keywordEach [] X.env)).all (fun x => x.1.isSome)
      && decide (([e] : List Expr).length + ([] : List Keyword).length + (if ([] : List Keyword).isEmpty then 0 else 1) < 30)) = true := by rfl)
    (hline : (apos.endLine == cpos.line) = true := by rfl) (hs : starEach [e] X.env = (false, eval e X.env) :: starEach [] X.env := by rfl) : AE X W (.Call (.Attribute o "append" apos) [e] [] cpos) (eBM "list" gApp fo ga) :=
  ae_bm PySem.F.plainAttrs_list PySem.F.slot_list_append PySem.F.type_list_append mt_gApp ho ha hbase hfew hline hs rfl
/-- xs.pop(i) -/
def gPopAt : AV → List AV → Store → Option (AV × Store) := fun o xs S => match xs with
  | [.p (.int i)] => match o with
    | .h n => match S[n]? with
      | some (.lst ys) => match okRg i with
        | true => match seqIndex? i ys.length with
          | some k => match ys[k]? with
            | some y => some (y, S.set n (.lst (ys.eraseIdx k)))
            | none => none
          | none => none
        | false => none
      | _ => none
    | _ => none
  | _ => none
theorem mt_gPopAt : MtR X "list.pop" (rBM X.K X.mg gPopAt) := MtR.imp mt_popAt fun v vs H Q ⟨c, w, S, x, xs, z, S', hK, hM, k, rx, rs, e, q⟩ => by
  unfold gPopAt at e
  split at e
  · rename_i i
    obtain ⟨u, rfl, ru⟩ := rps1 rs
    split at e
    · rename_i n
      split at e
      · rename_i ys hy
        split at e
        · rename_i hr
          split at e
          · rename_i j hj
            split at e
            · rename_i y hyj
              cases e
              cases rx with
              | @h _ a ha =>
                obtain ⟨a', h1, _, us, h3, h4⟩ := k.st _ _ hy
                rw [ha] at h1
                cases h1
                have hn : n < S.length := (List.getElem?_eq_some_iff.mp hy).1
                obtain ⟨w1, w2⟩ := inI_ok hr
                obtain ⟨v', g1, g2⟩ := h4.get hyj
                refine ⟨a, us, i, j, v', rfl, by rw [rp_int ru], h3, by omega, by omega, by rw [h4.length]; exact hj, g1, ?_⟩
                exact q v' w _ (Ext.put k ha) (k.put hn ha ⟨_, upd_same, h4.eraseIdx j⟩) g2
            · cases e
          · cases e
        · cases e
      · cases e
    · cases e
  · cases e
end
end RA

/-! RA10: fields, the calls of defs, methods and classes. -/
namespace RA
open PySem PySem.Spec L2
/-! ### fields -/
theorem strE_dec (a b : Str) : strE a b = decide (a = b) := by rw [strE_eq]
def putFA (f : Str) (x : AV) : List (Str × AV) → List (Str × AV)
  | [] => [(f, x)]
  | (g, y) :: r => match strE g f with
    | true => (g, x) :: r
    | false => (g, y) :: putFA f x r
theorem lookF_ok {c : Ct} {w : Ws} (f : Str) : ∀ {ks : List (Str × V)} {fs : List (Str × AV)}, KVok c w ks fs → OptRp c w (lookA strE f fs) (ks.lookup f)
  | [], [], .nil => rfl
  | (a, v) :: ks, (a', x) :: fs, .cons ⟨e, r⟩ t => by
    have e : a = a' := e
    subst e
    show OptRp c w (match strE a f with
      | true => some x
      | false => lookA strE f fs) (List.lookup f ((a, v) :: ks))
    rw [strE_dec]
    by_cases h : a = f
    · subst h
      rw [decide_eq_true rfl]
      exact ⟨v, by simp [List.lookup], r⟩
    · rw [decide_eq_false h]
      have hb : (f == a) = false := beq_eq_false_iff_ne.mpr (Ne.symm h)
      show OptRp c w (lookA strE f fs) (List.lookup f ((a, v) :: ks))
      simp only [List.lookup, hb]
      exact lookF_ok f t
theorem putF_ok {c : Ct} {w : Ws} (f : Str) {v : V} {x : AV} (rv : Rp c w v x) : ∀ {ks : List (Str × V)} {fs : List (Str × AV)}, KVok c w ks fs → KVok c w (putF f v ks) (putFA f x fs)
  | [], [], .nil => .cons ⟨rfl, rv⟩ .nil
  | (a, u) :: ks, (a', y) :: fs, .cons ⟨e, r⟩ t => by
    have e : a = a' := e
    subst e
    show KVok c w (if a = f then (a, v) :: ks else (a, u) :: putF f v ks) (match strE a f with
      | true => (a, x) :: fs
      | false => (a, y) :: putFA f x fs)
    rw [strE_dec]
    by_cases h : a = f
    · rw [if_pos h, decide_eq_true h]; exact .cons ⟨rfl, rv⟩ t
    · rw [if_neg h, decide_eq_false h]; exact .cons ⟨rfl, r⟩ (putF_ok f rv t)
/-- the class by its name -/
structure ClsA (K : PySem.W.Frag) (mg : Str → Option Value) (C : Str) : Prop where
  ex : ∀ Ca, mg C = some (.ref Ca) → Cls K Ca
def NoA (K : PySem.W.Frag) (mg : Str → Option Value) (C f : Str) : Prop := ∀ Ca, mg C = some (.ref Ca) → NoAttr K Ca f
section
variable {X : Cx} {W : XK} {pos apos pos' : Pos} {o e : Expr} {es : List Expr} {fo fe : XE} {ga : XA}
def insOf (C : Str) (x : AV) (S : Store) : Option (Nat × List (Str × AV)) := match x with
  | .h n => match S[n]? with
    | some (.ins D fs) => match strE C D with
      | true => some (n, fs)
      | false => none
    | _ => none
  | _ => none
theorem insOf_ok {c : Ct} {w : Ws} {S : Store} {H : Hp} {v : V} {x : AV} {C : Str} {n : Nat} {fs : List (Str × AV)} (k : Hok c w S H) (r : Rp c w v x) (h : insOf C x S = some (n, fs)) :
    ∃ a Ca dx ks, v = .ref a ∧ x = .h n ∧ w.ad[n]? = some a ∧ n < S.length ∧ S[n]? = some (.ins C fs) ∧ c.mg C = some (.ref Ca) ∧ H a = some (.ins Ca dx ks) ∧ H dx = some (.own a) ∧ KVok c w ks fs := by
  unfold insOf at h
  split at h
  · rename_i i
    split at h
    · rename_i D gs hq
      split at h
      · rename_i hs
        cases h
        rw [strE_eq] at hs
        have hs : C = D := by simpa using hs
        subst hs
        cases r with
        | @h _ a ha =>
          obtain ⟨a', h1, _, Ca, dx, ks, h3, h4, h5, h6⟩ := k.st _ _ hq
          rw [ha] at h1
          cases h1
          exact ⟨a, Ca, dx, ks, rfl, rfl, ha, (List.getElem?_eq_some_iff.mp hq).1, hq, h3, h4, h5, h6⟩
      · cases h
    · cases h
  · cases h
def eFld (C f : Str) (fo : XE) : XE := fun as S => (fo as S).bind fun x S1 => match insOf C x S1 with
  | some (_, fs) => match lookA strE f fs with
    | some y => .ret y S1
    | none => .stuck
  | none => .stuck
theorem ae_fld {C f : Str} (hc : ClsA X.K X.mg C) (hn : NoA X.K X.mg C f) (ho : AE X W o fo) (hb : attributeBase o f X.env (eval o X.env) = eval o X.env := by rfl) : AE X W (.Attribute o f pos) (eFld C f fo) :=
  pe_imp (pe_fld ho hb) fun σ H Q ⟨c, w, S, as, hK, hM, hk, he, h⟩ => by
    refine rd_step hK hM hk he h fun v H1 x w1 S1 e1 k1 he1 r1 h1 => ?_
    cases hi : insOf C x S1 with
    | none => rw [hi] at h1; exact h1.elim
    | some p =>
      obtain ⟨n, fs⟩ := p
      rw [hi] at h1
      obtain ⟨a, Ca, dx, ks, rfl, rfl, ha, hl, hs, hm, hH, hd, hks⟩ := insOf_ok k1 r1 hi
      dsimp only at h1
      have lk := lookF_ok f hks
      cases hq : lookA strE f fs with
      | none => rw [hq] at h1; exact h1.elim
      | some y =>
        rw [hq] at h1 lk
        obtain ⟨u, l1, l2⟩ := lk
        rw [hM] at hm
        exact ⟨a, Ca, dx, ks, u, rfl, hH, hc.ex _ hm, hn _ hm, l1, h1 u w1 H1 (Ext.refl ..) k1 l2⟩
/-- o.f = value -/
def sFldX (C f : Str) (fo fe : XE) : XS := fun as S => (fe as S).bind fun y S1 => (fo as S1).bind fun x S2 => match insOf C x S2 with
  | some (n, fs) => match Nat.ble (fs.length + 1) 1000 with
    | true => .ret (.nx as) (S2.set n (.ins C (putFA f y fs)))
    | false => .stuck
  | none => .stuck
theorem as_fld {C f : Str} (hc : ClsA X.K X.mg C) (hn : NoA X.K X.mg C f) (ho : AE X W o fo) (he : AE X W e fe) (hs : swapsWith e (some (.Attribute o f pos')) pos.line X.env = pure false := by rfl) : AS X W (.Assign [.Attribute o f pos'] e pos) (sFldX C f fo fe) :=
  ps_imp (ps_fld ho he hs) fun D σ H ⟨c, w, S, as, hK, hM, hk, he, h⟩ => by
    refine rs_step hK hM hk he h fun v H1 y w1 S1 e1 k1 he1 r1 h1 => ?_
    refine rs_step hK hM k1 he1 h1 fun u H2 x w2 S2 e2 k2 he2 r2 h2 => ?_
    cases hi : insOf C x S2 with
    | none => rw [hi] at h2; exact h2.elim
    | some p =>
      obtain ⟨n, fs⟩ := p
      rw [hi] at h2
      obtain ⟨a, Ca, dx, ks, rfl, rfl, ha, hl, hs, hm, hH, hd, hks⟩ := insOf_ok k2 r2 hi
      dsimp only at h2
      cases hq : Nat.ble (fs.length + 1) 1000 with
      | false => rw [hq] at h2; exact h2.elim
      | true =>
        rw [hq] at h2
        have hq := Nat.le_of_ble_eq_true hq
        have hlk : ks.length = fs.length := hks.length
        have hm' := hm
        rw [hM] at hm
        have hda : dx ≠ a := fun z => by
          rw [z, hH] at hd
          cases hd
        refine ⟨a, Ca, dx, ks, rfl, hH, hc.ex _ hm, hn _ hm, by omega, ?_⟩
        exact h2 σ w2 _ (Ext.put k2 ha) (k2.put hl ha ⟨Ca, dx, _, hm', upd_same, by rw [upd_ne hda]; exact hd, putF_ok f (r1.le e2.le) hks⟩) he2
end

/-! ### defs -/
abbrev Mf := List AV → Store → Cm AV
def spA (K : PySem.W.Frag) (mg : Str → Option Value) (m : Mf) : Sp := fun vs H Q E => ∃ c w S xs, c.K = K ∧ c.mg = mg ∧ Hok c w S H ∧ Rps c w vs xs ∧ (m xs S).All (Post c w H Q) (PostX c w H E)
/-- a def by its name: m is what it does -/
def FnA (P : Program) (w : World) (K : PySem.W.Frag) (mg : Str → Option Value) (base : Heap) (k : Nat) (x : Str) (m : Mf) : Prop :=
  ∃ f fd ps, mg x = some (.ref f) ∧ FnOk P w K mg base (CX P w) k f fd ps (spA K mg m) ∧ PySem.W.keepIn K (.ref f) = true ∧ Binds K fd ps []
def endK : Fl → Store → Cm AV := fun r S => match r with
  | .nx _ => .ret (.p .none) S
  | .rt v => .ret v S
  | _ => .stuck
/-- n parameters, l further slots -/
def defRun (n l : Nat) (f : XS) : Mf := fun xs S => match Nat.beq xs.length n with
  | true => (f (xs.map some ++ List.replicate l none) S).bind endK
  | false => .stuck
theorem spA_len {K : PySem.W.Frag} {mg : Str → Option Value} {n l : Nat} {f : XS} {vs : List V} {H : Hp} {Q : VK} {E : XK} (h : spA K mg (defRun n l f) vs H Q E) : vs.length = n := by
  obtain ⟨c, w, S, xs, _, _, _, r, h⟩ := h
  unfold defRun at h
  split at h
  · rename_i q
    rw [r.length]
    exact Nat.eq_of_beq_eq_true q
  · exact h.elim
theorem env_start {c : Ct} {w : Ws} {N : List Str} {vs : List V} {xs : List AV} {l : Nat} (r : Rps c w vs xs) (h : N.length = xs.length + l) : EnvOk c w (xs.map some ++ List.replicate l none) (L2.start N vs) := by
  have hl := r.length
  refine ⟨by simp [L2.start]; omega, fun i x q => ?_⟩
  by_cases hi : i < xs.length
  · rw [List.getElem?_append_left (by simpa using hi), List.getElem?_map] at q
    cases hx : xs[i]? with
    | none => rw [hx] at q; cases q
    | some y =>
      rw [hx] at q
      cases q
      obtain ⟨v, h1, h2⟩ := r.get hx
      refine ⟨v, ?_, h2⟩
      unfold L2.start
      rw [List.getElem?_append_left (by simp; omega), List.getElem?_map, h1]
      rfl
  · rw [List.getElem?_append_right (by simpa using Nat.le_of_not_lt hi), List.getElem?_replicate] at q
    split at q <;> cases q
theorem fnA_of {P : Program} {w : World} {K : PySem.W.Frag} {mg : Str → Option Value} {base : Heap} {x qual : Str} {params : Arguments} {body : List Stmt} {scope : Scope} {f : Addr} {fd : FuncData} {N ps : List Str} {k n l : Nat} {d : XS}
    (F : FunD K x qual params body scope [] [] f fd) (S : FnScope N ps scope) (hn : ps.length = n) (hl : N.length = n + l)
    (hbody : ∀ (cdv : Value) (A : Around) (outer : List PySem.Env) (s : Shared) (H : Hp) (E : XK), Room k (A.deeper (PyProof.Rows.envOfC qual scope s.heap.objs.size f cdv)) →
      Takes (cxOf (CX P w) P w K mg base N qual scope f cdv A outer s H E) (K0 E) → ASs (cxOf (CX P w) P w K mg base N qual scope f cdv A outer s H E) E body d) :
    FnOk P w K mg base (CX P w) (k + 1) f fd ps (spA K mg (defRun n l d)) := by
  refine F.ok S (fun vs H Q E h => by rw [spA_len h, hn]) fun cdv A outer s H vs Q E hr h => ?_
  refine ⟨_, hbody cdv A outer s H E hr (takes_of rfl rfl rfl rfl), ?_⟩
  obtain ⟨c, w, S, xs, hK, hM, hk, r, h⟩ := h
  unfold defRun at h
  split at h
  · rename_i q
    have q := Nat.eq_of_beq_eq_true q
    refine ⟨c, w, S, _, hK, hM, hk, env_start r (by omega), h.bind.mono (fun fl S' z => ?_) fun _ _ z => z⟩
    cases fl with
    | nx as' => exact fun σ' w' H' e k _ => z .non w' H' e k (.p .non)
    | rt v => exact z
    | bk as' => exact False.elim z
    | ct as' => exact False.elim z
  · exact h.elim
/-- what it does, told otherwise -/
theorem FnA.imp {P : Program} {w : World} {K : PySem.W.Frag} {mg : Str → Option Value} {base : Heap} {k : Nat} {x : Str} {m m' : Mf} (h : FnA P w K mg base k x m) (q : ∀ xs S (R : AV → Store → Prop) (R' : Ex → Store → Prop), (m' xs S).All R R' → (m xs S).All R R') : FnA P w K mg base k x m' := by
  obtain ⟨f, fd, ps, h1, h2, h3, h4⟩ := h
  exact ⟨f, fd, ps, h1, h2.imp fun vs H Q E ⟨c, w, S, xs, a, b, d, e, z⟩ => ⟨c, w, S, xs, a, b, d, e, q _ _ _ _ z⟩, h3, h4⟩
theorem FnA.mono {P : Program} {w : World} {K : PySem.W.Frag} {mg : Str → Option Value} {base : Heap} {j k : Nat} {x : Str} {m : Mf} (h : FnA P w K mg base j x m) (q : j ≤ k) : FnA P w K mg base k x m := by
  obtain ⟨f, fd, ps, h1, h2, h3, h4⟩ := h
  exact ⟨f, fd, ps, h1, h2.mono q, h3, h4⟩
section
variable {X : Cx} {W : XK} {p pos apos : Pos} {o e : Expr} {es : List Expr} {fo fe : XE} {ga : XA} {k : Nat} {m : Mf} {x : Str}
def eCall (m : Mf) (ga : XA) : XE := fun as S => (ga as S).bind fun xs S1 => m xs S1
theorem call_step {K : PySem.W.Frag} {mg : Str → Option Value} {m : Mf} {ga : XA} {σ : St} {H : Hp} {Q : VK} (hK : K = X.K) (hM : mg = X.mg) (h : tE X.K X.mg W (eCall m ga) σ H Q) : tCall (spA K mg m) [] W (tA X.K X.mg W ga) σ H Q := by
  subst hK
  subst hM
  obtain ⟨c, w, S, as, hK, hM, hk, he, h⟩ := h
  refine rd_step hK hM hk he h fun vs H1 xs w1 S1 e1 k1 he1 r1 h1 => ?_
  rw [List.append_nil]
  exact ⟨c, w1, S1, xs, hK, hM, k1, r1, h1⟩
theorem ae_call (F : FnA X.prog X.w X.K X.mg X.base k x m) (hr : Room k X.A) (tk : Takes X (K0 W)) (hg : Gl X x) (ha : AA X W (e :: es) ga) (hdb : (x == ("__debug__" : Str)) = false := by decide)
    (he : starEach (e :: es) X.env = (false, eval e X.env) :: starEach es X.env := by rfl) (hpl : (backTo pos (starEach es X.env)).any (·.1) = false := by rfl) : AE X W (.Call (.Name x p) (e :: es) [] pos) (eCall m ga) := by
  obtain ⟨f, fd, ps, h1, h2, h3, h4⟩ := F
  exact pe_imp (pe_call h2 hr hg h1 h3 h4 .nil (passes_call tk fun _ _ _ _ h => h) ha hdb he hpl) fun _ _ _ h => call_step rfl rfl h
theorem ae_call0 (F : FnA X.prog X.w X.K X.mg X.base k x m) (hr : Room k X.A) (tk : Takes X (K0 W)) (hg : Gl X x) (hdb : (x == ("__debug__" : Str)) = false := by decide) : AE X W (.Call (.Name x p) [] [] pos) (eCall m aNil) := by
  obtain ⟨f, fd, ps, h1, h2, h3, h4⟩ := F
  exact pe_imp (pe_call0 h2 hr hg h1 h3 h4 .nil (passes_call tk fun _ _ _ _ h => h) hdb) fun σ H Q h => by
    obtain ⟨c, w, S, as, hK, hM, hk, he, h⟩ := h
    exact ⟨c, w, S, [], hK, hM, hk, .nil, h⟩
/-! ### methods -/
def FnM (P : Program) (w : World) (K : PySem.W.Frag) (mg : Str → Option Value) (base : Heap) (k : Nat) (C x : Str) (m : Mf) : Prop :=
  ∀ Ca, mg C = some (.ref Ca) → ∃ f fd ps, Cls K Ca ∧ Meth K Ca x f ∧ FnOk P w K mg base (CX P w) k f fd ps (spA K mg m) ∧ Binds K fd ps []
theorem FnM.imp {P : Program} {w : World} {K : PySem.W.Frag} {mg : Str → Option Value} {base : Heap} {k : Nat} {C x : Str} {m m' : Mf} (h : FnM P w K mg base k C x m) (q : ∀ xs S (R : AV → Store → Prop) (R' : Ex → Store → Prop), (m' xs S).All R R' → (m xs S).All R R') : FnM P w K mg base k C x m' := fun Ca e => by
  obtain ⟨f, fd, ps, h1, h2, h3, h4⟩ := h Ca e
  exact ⟨f, fd, ps, h1, h2, h3.imp fun vs H Q E ⟨c, w, S, xs, a, b, d, e, z⟩ => ⟨c, w, S, xs, a, b, d, e, q _ _ _ _ z⟩, h4⟩
theorem FnM.mono {P : Program} {w : World} {K : PySem.W.Frag} {mg : Str → Option Value} {base : Heap} {j k : Nat} {C x : Str} {m : Mf} (h : FnM P w K mg base j C x m) (q : j ≤ k) : FnM P w K mg base k C x m := fun Ca e => by
  obtain ⟨f, fd, ps, h1, h2, h3, h4⟩ := h Ca e
  exact ⟨f, fd, ps, h1, h2, h3.mono q, h4⟩
/-- o.m(..), o an instance of the class -/
def eMeth (C x : Str) (m : Mf) (fo : XE) (ga : XA) : XE := fun as S => (fo as S).bind fun y S1 => match insOf C y S1 with
  | some (_, fs) => match lookA strE x fs with
    | none => (ga as S1).bind fun xs S2 => m (y :: xs) S2
    | some _ => .stuck
  | none => .stuck
theorem meth_look {c : Ct} {w : Ws} {x : Str} {ks : List (Str × V)} {fs : List (Str × AV)} (r : KVok c w ks fs) (h : lookA strE x fs = none) : ks.lookup x = none := by
  have := lookF_ok x r
  rw [h] at this
  exact this
theorem meth_step {C : Str} (F : FnM X.prog X.w X.K X.mg X.base k C x m) {σ : St} {H : Hp} {Q : VK} (h : tE X.K X.mg W (eMeth C x m fo ga) σ H Q) : ∀ Ca, X.mg C = some (.ref Ca) → tMeth Ca x (spA X.K X.mg m) [] W (tE X.K X.mg W fo) (tA X.K X.mg W ga) σ H Q := by
  intro Ca hCa
  obtain ⟨c, w, S, as, hK, hM, hk, he, h⟩ := h
  refine rd_step hK hM hk he h fun v H1 y w1 S1 e1 k1 he1 r1 h1 => ?_
  cases hi : insOf C y S1 with
  | none => rw [hi] at h1; exact h1.elim
  | some p =>
    obtain ⟨n, fs⟩ := p
    rw [hi] at h1
    obtain ⟨a, Ca', dx, ks, rfl, rfl, ha, hl, hs, hm, hH, hd, hks⟩ := insOf_ok k1 r1 hi
    dsimp only at h1
    rw [hM, hCa] at hm
    cases hm
    cases hq : lookA strE x fs with
    | some y => rw [hq] at h1; exact h1.elim
    | none =>
      rw [hq] at h1
      refine ⟨a, dx, ks, rfl, hH, meth_look hks hq, ?_⟩
      refine rd_step hK hM k1 he1 h1 fun vs H2 xs w2 S2 e2 k2 he2 r2 h2 => ?_
      rw [List.append_nil]
      exact ⟨c, w2, S2, _, hK, hM, k2, .cons (r1.le e2.le) r2, h2⟩
theorem ae_meth {C : Str} {pl : Sem Bool} (F : FnM X.prog X.w X.K X.mg X.base k C x m) (hC : ∃ Ca, X.mg C = some (.ref Ca)) (hr : Room k X.A) (tk : Takes X (K0 W)) (ho : AE X W o fo) (ha : AA X W (e :: es) ga)
    (hst : starEach (e :: es) X.env = (false, eval e X.env) :: starEach es X.env := by rfl) (hpl : (backTo pos (starEach es X.env)).any (·.1) = false := by rfl)
    (ht : eval (.Call (.Attribute o x apos) (e :: es) [] pos) X.env = (do
      let ov ← eval o X.env
      standAt apos.atName
      let (f, first) ← holding [ov] (getMethod ov x pl)
      callWith pos f first (backTo pos (starEach (e :: es) X.env)) (backToKw pos (keywordEach [] X.env))) := by rfl) : AE X W (.Call (.Attribute o x apos) (e :: es) [] pos) (eMeth C x m fo ga) := by
  obtain ⟨Ca, hC⟩ := hC
  obtain ⟨f, fd, ps, h1, h2, h3, h4⟩ := F Ca hC
  exact pe_imp (pe_meth (pl := pl) ho h1 h2 h3 hr h4 .nil (passes_call tk fun _ _ _ _ h => h) ha hst hpl ht) fun _ _ _ h => meth_step F h Ca hC
theorem ae_meth0 {C : Str} {pl : Sem Bool} (F : FnM X.prog X.w X.K X.mg X.base k C x m) (hC : ∃ Ca, X.mg C = some (.ref Ca)) (hr : Room k X.A) (tk : Takes X (K0 W)) (ho : AE X W o fo)
    (ht : eval (.Call (.Attribute o x apos) [] [] pos) X.env = (do
      let ov ← eval o X.env
      standAt apos.atName
      let (f, first) ← holding [ov] (getMethod ov x pl)
      callWith pos f first (backTo pos (starEach [] X.env)) (backToKw pos (keywordEach [] X.env))) := by rfl) : AE X W (.Call (.Attribute o x apos) [] [] pos) (eMeth C x m fo aNil) := by
  obtain ⟨Ca, hC⟩ := hC
  obtain ⟨f, fd, ps, h1, h2, h3, h4⟩ := F Ca hC
  exact pe_imp (pe_meth0 (pl := pl) ho h1 h2 h3 hr h4 .nil (passes_call tk fun _ _ _ _ h => h) ht) fun σ H Q h => by
    obtain ⟨c, w, S, as, hK, hM, hk, he, h⟩ := h
    refine rd_step hK hM hk he h fun v H1 y w1 S1 e1 k1 he1 r1 h1 => ?_
    cases hi : insOf C y S1 with
    | none => rw [hi] at h1; exact h1.elim
    | some p =>
      obtain ⟨n, fs⟩ := p
      rw [hi] at h1
      obtain ⟨a, Ca', dx, ks, rfl, rfl, ha, hl, hs, hm, hH, hd, hks⟩ := insOf_ok k1 r1 hi
      dsimp only at h1
      rw [hM, hC] at hm
      cases hm
      cases hq : lookA strE x fs with
      | some y => rw [hq] at h1; exact h1.elim
      | none =>
        rw [hq] at h1
        exact ⟨a, dx, ks, rfl, hH, meth_look hks hq, c, w1, S1, _, hK, hM, k1, .cons r1 .nil, h1⟩
/-! ### new instances -/
def FnMk (P : Program) (w : World) (K : PySem.W.Frag) (mg : Str → Option Value) (base : Heap) (k : Nat) (C : Str) (m : Mf) : Prop :=
  ∃ Ca f fd ps, mg C = some (.ref Ca) ∧ Mk K Ca f ∧ FnOk P w K mg base (CX P w) k f fd ps (spA K mg m) ∧ Binds K fd ps []
def eMake (C : Str) (m : Mf) (ga : XA) : XE := fun as S => (ga as S).bind fun xs S1 => (m (.h S1.length :: xs) (S1 ++ [.ins C []])).bind fun r S2 => match r with
  | .p .none => .ret (.h S1.length) S2
  | _ => .stuck
theorem make_step {C : Str} {Ca : Addr} (hC : X.mg C = some (.ref Ca)) {σ : St} {H : Hp} {Q : VK} (h : tE X.K X.mg W (eMake C m ga) σ H Q) : tMake Ca (spA X.K X.mg m) [] W (tA X.K X.mg W ga) σ H Q := by
  obtain ⟨c, w, S, as, hK, hM, hk, he, h⟩ := h
  refine rd_step hK hM hk he h fun vs H1 xs w1 S1 e1 k1 he1 r1 h1 => ?_
  intro x dx hx hdx hne
  rw [List.append_nil]
  have k2 : Hok c w1 S1 (upd H1 dx (.own x)) := k1.other (Apart.new k1 hdx) fun y z => by rw [hdx] at z; cases z
  have hx2 : upd H1 dx (.own x) x = none := by rw [upd_ne (Ne.symm hne)]; exact hx
  have E1 : Ext c w1 H1 w1 (upd H1 dx (.own x)) := (Ext.refl c w1 H1).other hdx
  have E2 := E1.trans (Ext.addH (o := .ins Ca dx []) k2 hx2)
  have k3 := k2.addH (m := .ins C []) hx2 ⟨Ca, dx, [], by rw [hM]; exact hC, upd_same, by rw [upd_ne hne, upd_same], .nil⟩
  have hh : (w1.addH x).ad[S1.length]? = some x := by
    show (w1.ad ++ [x])[S1.length]? = some x
    rw [k1.len, List.getElem?_append_right (Nat.le_refl _)]
    simp
  refine ⟨c, w1.addH x, S1 ++ [.ins C []], .h S1.length :: xs, hK, hM, k3, .cons (.h hh) (r1.le E2.le), h1.bind.mono (fun r S2 z => ?_) fun _ _ z => z.mono E2⟩
  intro v w2 H2 e2 k4 r4
  cases r with
  | p d =>
    cases d with
    | none =>
      exact ⟨rp_none r4, z (.ref x) w2 H2 (E2.trans e2) k4 (.h (e2.le.ad _ _ hh))⟩
    | _ => exact False.elim z
  | _ => exact False.elim z
theorem ae_make (F : FnMk X.prog X.w X.K X.mg X.base k x m) (hr : Room (k + 1) X.A) (tk : Takes X (K0 W)) (hg : Gl X x) (ha : AA X W (e :: es) ga) (hdb : (x == ("__debug__" : Str)) = false := by decide)
    (he : starEach (e :: es) X.env = (false, eval e X.env) :: starEach es X.env := by rfl) (hpl : (backTo pos (starEach es X.env)).any (·.1) = false := by rfl) : AE X W (.Call (.Name x p) (e :: es) [] pos) (eMake x m ga) := by
  obtain ⟨Ca, f, fd, ps, h0, h1, h2, h3⟩ := F
  exact pe_imp (pe_make h1 h2 hr hg h0 h3 .nil (passes_call tk fun _ _ _ _ h => h) ha hdb he hpl) fun _ _ _ h => make_step h0 h
end
end RA

/-! RA11: walking whatever stands: tuples, lists, texts; enumerate of a tuple; unpacking of tuples and lists. -/
namespace EnT
open PySem PySem.Spec PyProof.Rows AutoSeq1
section
variable {prog : Program} {w : World} {A : Around} {E : Value → Shared → Prop} {s : Shared}
theorem meets_new (l : Addr) (items : Array Value) :
    Meets (Builtin.«enumerate.__new__» ⟨[.type "enumerate", .ref l], []⟩) (fun _ R s => s.heap.IsTuple l items ∧
      R (.ok (.ret (.ref (s.heap.push { cls := .type "tuple_iterator", data := .fields #[.ref l, .int 0 0] }).objs.size)))
        { s with heap := (s.heap.push { cls := .type "tuple_iterator", data := .fields #[.ref l, .int 0 0] }).push { cls := .type "enumerate", data := .fields #[.none, .bool false, .ref s.heap.objs.size, rawInt 0, .none, .none] } }) :=
  .of_wp fun prog w A R s h => by
    obtain ⟨hp, g, d, tk, os⟩ := s; obtain ⟨hL, h⟩ := h
    have hsub := sub_enumerate
    obtain ⟨o, hl, _⟩ := id hL
    wp_walk using wpAny_loadPart' hl
    refine wpAny_stack_any fun st => wpAny_pure ?_
    split
    · rename_i c _ _ _ _ _
      cases (c == Value.type "enumerate")
      · wp_walk using wpAny_loadPart' hl, wpAny_pyIter_tuple hL
        exact ⟨_, rfl, h⟩
      · wp_walk using wpAny_loadPart' hl, wpAny_pyIter_tuple hL
        exact ⟨_, rfl, h⟩
    · wp_walk using wpAny_loadPart' hl, wpAny_pyIter_tuple hL
      exact ⟨_, rfl, h⟩
theorem call_new {l : Addr} {items : Array Value} {Q : Value → Shared → Prop} (hL : s.heap.IsTuple l items)
    (h : ∀ h', IsEnum h' (s.heap.objs.size + 1) s.heap.objs.size 0 .none → h'.IsTupleIter s.heap.objs.size l 0 → h'.objs.size = s.heap.objs.size + 2 →
      (∀ b o, s.heap.get? b = some o → h'.get? b = some o) → Q (.ref (s.heap.objs.size + 1)) { s with heap := h' }) :
    wpAny (model prog w) A (call (.type "enumerate") [.ref l]) Q E s := by
  refine callType_new F.called_enumerate (by decide) (F.typeCall_enumerate_1 _) (F.newCall_enumerate_1 _) (fun obj => F.args_object_init_2 obj _) F.entry_enumerate_new
    (meets_new l items) ⟨hL, ?_⟩
  have hz : (s.heap.push { cls := .type "tuple_iterator", data := .fields #[.ref l, .int 0 0] }).objs.size = s.heap.objs.size + 1 := Heap.size_push ..
  show _ ∧ _
  rw [hz]
  have he : IsEnum ((s.heap.push { cls := .type "tuple_iterator", data := .fields #[.ref l, .int 0 0] }).push
      { cls := .type "enumerate", data := .fields #[.none, .bool false, .ref s.heap.objs.size, rawInt 0, .none, .none] }) (s.heap.objs.size + 1) s.heap.objs.size 0 .none := by
    have := Heap.get?_push_size (s.heap.push { cls := .type "tuple_iterator", data := .fields #[.ref l, .int 0 0] })
      (o := { cls := .type "enumerate", data := .fields #[.none, .bool false, .ref s.heap.objs.size, rawInt 0, .none, .none] }) rfl
    rw [hz] at this; exact this
  refine ⟨⟨_, he, rfl⟩, h _ he ⟨_, Heap.get?_push_of_some _ (Heap.get?_push_size _ rfl), rfl, rfl⟩ (by rw [Heap.size_push, hz]) fun b o x => Heap.get?_push_of_some _ (Heap.get?_push_of_some _ x)⟩
end
end EnT
namespace L2
open PySem PySem.Spec PyProof.Rows
def IteT (K : PySem.W.Frag) (a : Addr) (xs : List V) : It :=
  ⟨fun i H => ∃ (x : V), SqT K H a xs ∧ xs[i]? = some x, fun i H v H' => ∃ T x, v = .ref T ∧ H T = none ∧ H' = upd H T (.tup [.int (i : Nat), x]) ∧ xs[i]? = some x, fun i H => SqT K H a xs ∧ xs.length ≤ i⟩
theorem turn_enumT {P : Program} {w : World} {K : PySem.W.Frag} {elts : List Expr} {kk : Nat} {tpos : Pos} (a e it : Addr) (xs : List V) (hat : a ≠ it) :
    Turn P w K (.Tuple elts kk tpos) (IteT K a xs) [e, it] e (fun i h => (∃ old, IsEnum h e it i old) ∧ h.IsTupleIter it a i ∧ e ≠ it ∧ i ≤ xs.length) where
  mem := by simp
  obj := fun i h st b hb => by
    obtain ⟨⟨old, he⟩, ⟨o, ho, hc, hd⟩, _⟩ := st
    have e' : b = e ∨ b = it := by simpa using hb
    rcases e' with z | z
    · rw [z]; exact ⟨_, he, fun v q => nomatch q⟩
    · rw [z]; exact ⟨o, ho, fun v q => by rw [hd] at q; cases q⟩
  keep := fun i h h' st k => let ⟨⟨old, he⟩, hi, hne, hle⟩ := st; ⟨⟨old, k e (by simp) _ he⟩, hi.at fun o q => k it (by simp) o q, hne, hle⟩
  item := by
    intro X hP hw hK hc i pins s σ H E I hf st hg
    subst hP hw hK
    obtain ⟨⟨old, he⟩, hit, hne, hle⟩ := st
    obtain ⟨x, hq, hx⟩ := hg
    obtain ⟨its, rv, p, hz⟩ := I.tuple hq
    obtain ⟨u, hu, ru⟩ := rv.get hx
    have hel : e < s.heap.objs.size := Heap.lt_size he
    have hil : it < s.heap.objs.size := by obtain ⟨_, q, _⟩ := hit; exact Heap.lt_size q
    have hT : s.heap.IsTuple a its.toArray := p
    have hea : e ≠ a := fun z => by
      subst z
      obtain ⟨o, h1, h2, _⟩ := hT
      rw [he] at h1
      cases h1
      have h2 : Value.type "enumerate" = Value.type "tuple" := h2
      exact absurd h2 (by decide)
    have hlt : i < its.toArray.size := by
      have := (List.getElem?_eq_some_iff.mp hu).1
      simpa using this
    refine wpAny_pyNext_enum_itemD (Draws.tuple (A := X.A.in1) (show X.A.in1.handled = none from I.ok.hd hc) it a hat its.toArray) he ⟨hit, hT⟩ hlt hne (by simp [hne, hea]) fun v h' tk hv ho hst hT hsz hk => ?_
    have hv' : its[i]? = some v := by simpa using hv
    rw [hu] at hv'
    cases hv'
    refine ⟨_, rfl, wpAny_letOwnedTupleGo_enum (s := { s with heap := h', toks := tk + 1 }) ho fun h'' he' sb => ?_⟩
    have hT2 : h''.get? s.heap.objs.size = some { cls := .type "tuple", data := .seq #[.int i tk, u] } := (sb.2 _ (Nat.ne_of_gt hel)).trans hT
    have new : ObjOk X.prog X.w (upd H s.heap.objs.size (.tup [.int (i : Nat), x])) h'' s.heap.objs.size (.tup [.int (i : Nat), x]) :=
      ⟨by show 2 ≤ sizeLine; decide, [.int i tk, u], .cons ⟨_, rfl⟩ (.cons ru .nil), ⟨_, hT2, rfl, _, rfl⟩⟩
    have I1 : Inv X pins σ (upd H s.heap.objs.size (.tup [.int (i : Nat), x])) { s with heap := h'', toks := tk + 1 } :=
      I.turnedNew (ch := [e, it]) (fun b ob hb q => (sb.2 b (fun z => hb (by simp [z]))).trans (hk b ob (fun z => hb (by simp [z])) (fun z => hb (by simp [z])) q)) hf (Nat.le_refl _) new
    refine ⟨.ref s.heap.objs.size, _, I1, rfl, ⟨_, x, rfl, I.hok.fresh (Nat.le_refl _), rfl, hx⟩, ⟨⟨u, ?_⟩, hst.1.at fun o q => (sb.2 it (Ne.symm hne)).trans q, hne, (List.getElem?_eq_some_iff.mp hx).1⟩, fun b hb => ?_⟩
    · have e1 : ((i + 1 : Nat) : Int) = (i : Int) + 1 := by omega
      rw [e1]; simpa using he'
    · have hb' : b < s.heap.objs.size := by
        have e' : b = e ∨ b = it := by simpa using hb
        rcases e' with z | z
        · rw [z]; exact hel
        · rw [z]; exact hil
      rw [upd_ne (Nat.ne_of_lt hb')]
      exact (hf b hb).1
  done := by
    intro X hP hw hK hc i pins s σ H E I hf st hg
    subst hP hw hK
    obtain ⟨⟨old, he⟩, hit, hne, hle⟩ := st
    obtain ⟨hq, hx⟩ := hg
    obtain ⟨its, rv, p, hz⟩ := I.tuple hq
    obtain ⟨f0, f1, f2, f3, f4, f5⟩ := hf it (by simp)
    have hl := rv.length
    have hT : s.heap.IsTuple a its.toArray := p
    have hi : its.toArray.size = i := by simp; omega
    exact wpAny_pyNext_enum_endD (Draws.tuple (A := X.A.in1) (show X.A.in1.handled = none from I.ok.hd hc) it a hat its.toArray) he (by rw [hi]; exact ⟨hit, hT⟩) fun h' eb => ⟨rfl, I.turned (t' := s.toks) (fun b o hb q => eb b o hb q) f0 f1 f3 f4 f5⟩
  self := fun A i s Q E st h => let ⟨⟨_, he⟩, _⟩ := st; wpAny_pyIter_enum he h
def iEnumA (K : PySem.W.Frag) (ta : TA) : TI := fun σ H R => ta σ H fun vs H1 => ∃ a, vs = [.ref a] ∧ ((∃ xs, SqL K H1 a xs ∧ R (Ite K a) H1) ∨ ∃ xs, SqT K H1 a xs ∧ R (IteT K a xs) H1)
theorem pi_enumA {X : Cx} {e : Expr} {ta : TA} {p pos tpos : Pos} {elts : List Expr} {kk : Nat} (hg : Gl X "enumerate") (hm : X.mg "enumerate" = none) (ha : PA X [e] ta) (hs : starEach [e] X.env = [(false, eval e X.env)] := by rfl) :
    PI X (.Tuple elts kk tpos) (.Call (.Name "enumerate" p) [e] [] pos) (iEnumA X.K ta) := by
  refine ⟨fun pins s σ H R I h => ?_⟩
  refine Call_ (ld_blt I hg hm boot_enumerate (PyProof.Rows.callWith_type1 (thn (ha.run pos pins s σ H _ I h) fun us s1 ⟨vs, H1, I1, r1, q1⟩ => ?_) hs rfl))
  obtain ⟨a, ex, q1⟩ := q1
  subst ex
  cases r1 with
  | cons r rr =>
    cases rr
    cases r
    have fpo : ∀ b ∈ [s1.heap.objs.size + 1, s1.heap.objs.size], FpOk X pins H1 b := fun b hb => by
      have e' : b = s1.heap.objs.size + 1 ∨ b = s1.heap.objs.size := by simpa using hb
      have hle : s1.heap.objs.size ≤ b := by
        rcases e' with z | z
        · rw [z]; exact Nat.le_add_right _ _
        · rw [z]; exact Nat.le_refl _
      exact I1.fpOk hle (I1.hok.fresh hle)
    rcases q1 with ⟨xs, hq, q⟩ | ⟨xs, hq, q⟩
    · obtain ⟨its, rv, p', hz⟩ := I1.list hq
      refine call_enumerate_list p'.isList fun h' he hit hsz hk => wpAny_pyIter_enum he ?_
      have I2 : Inv X pins σ H1 { s1 with heap := h' } := I1.kept (t' := s1.toks) hk
      exact ⟨s1.heap.objs.size + 1, [s1.heap.objs.size + 1, s1.heap.objs.size], _, _, H1, rfl, I2, turn_enum a (s1.heap.objs.size + 1) s1.heap.objs.size, ⟨⟨.none, he⟩, hit, Nat.succ_ne_self _⟩, fpo, q⟩
    · obtain ⟨its, rv, p', hz⟩ := I1.tuple hq
      have hat : a < s1.heap.objs.size := by obtain ⟨o, ho, _⟩ := p'; exact Heap.lt_size ho
      refine EnT.call_new (show s1.heap.IsTuple a its.toArray from p') fun h' he hit hsz hk => wpAny_pyIter_enum he ?_
      have I2 : Inv X pins σ H1 { s1 with heap := h' } := I1.kept (t' := s1.toks) hk
      exact ⟨s1.heap.objs.size + 1, [s1.heap.objs.size + 1, s1.heap.objs.size], _, _, H1, rfl, I2, turn_enumT a (s1.heap.objs.size + 1) s1.heap.objs.size xs (Nat.ne_of_lt hat), ⟨⟨.none, he⟩, hit, Nat.succ_ne_self _, Nat.zero_le _⟩, fpo, q⟩
/-- a list, a tuple, a text -/
def iAnyT (K : PySem.W.Frag) (tl : TE) : TI := fun σ H R => tl σ H fun x H1 => (∃ a, x = .ref a ∧ (∃ xs, SqL K H1 a xs) ∧ R (Itl K a) H1) ∨ (∃ a, x = .ref a ∧ (∃ xs, SqT K H1 a xs) ∧ R (Itt K a) H1) ∨ ∃ z, x = .str z ∧ R (Its z) H1
theorem pi_any {X : Cx} {tg l : Expr} {tl : TE} (hl : PE X l tl) : PI X tg l (iAnyT X.K tl) := by
  refine ⟨fun pins s σ H R I h => ?_⟩
  refine thn (hl.run pins s σ H _ I h) fun v s1 ⟨x, H1, I1, r1, q1⟩ => ?_
  rcases q1 with ⟨a, e, ⟨xs, hq⟩, q⟩ | ⟨a, e, ⟨xs, hq⟩, q⟩ | ⟨z, ex, q⟩
  · subst e
    cases r1
    obtain ⟨its, rv, p, hz⟩ := I1.list hq
    refine wpAny_pyIter_list p.isList ?_
    refine ⟨s1.heap.objs.size, [s1.heap.objs.size], _, _, H1, rfl, I1.kept (t' := s1.toks) fun b o e => Heap.get?_push_of_some _ e, turn_list a _, ⟨_, Heap.get?_push_size _ rfl, rfl, rfl⟩, fun b hb => ?_, q⟩
    have e : b = s1.heap.objs.size := by simpa using hb
    subst e
    exact I1.fpOk (Nat.le_refl _) (I1.hok.fresh (Nat.le_refl _))
  · subst e
    cases r1
    obtain ⟨its, rv, p, hz⟩ := I1.tuple hq
    refine wpAny_pyIter_tuple (show s1.heap.IsTuple a its.toArray from p) ?_
    refine ⟨s1.heap.objs.size, [s1.heap.objs.size], _, _, H1, rfl, I1.kept (t' := s1.toks) fun b o e => Heap.get?_push_of_some _ e, turn_tuple a _, ⟨_, Heap.get?_push_size _ rfl, rfl, rfl⟩, fun b hb => ?_, q⟩
    have e : b = s1.heap.objs.size := by simpa using hb
    subst e
    exact I1.fpOk (Nat.le_refl _) (I1.hok.fresh (Nat.le_refl _))
  · subst ex
    obtain ⟨t, rfl⟩ := r1
    cases ha : z.cps.all (· < 128)
    · exact wpAny_pyIter_wide ha (pi_one (tk := s1.toks) I1 _ (turn_str _ z t "str_iterator" (.inr rfl)) ⟨_, Heap.get?_push_size _ rfl, rfl, rfl⟩ q)
    · exact wpAny_pyIter_ascii ha (pi_one (tk := s1.toks) I1 _ (turn_str _ z t "str_ascii_iterator" (.inl rfl)) ⟨_, Heap.get?_push_size _ rfl, rfl, rfl⟩ q)
theorem PG.or {X : Cx} {e : Expr} {t u : TG} (a : PG X e t) (b : PG X e u) : PG X e fun v σ H Q => t v σ H Q ∨ u v σ H Q := ⟨fun pins s σ H v w Q I r h => by
  rcases h with h | h
  · exact a.run pins s σ H v w Q I r h
  · exact b.run pins s σ H v w Q I r h⟩
end L2
namespace RA
open PySem PySem.Spec L2
section
variable {X : Cx} {W : XK} {pos : Pos} {tg e : Expr} {f : XE} {ga : XA}
theorem itFor_str {c : Ct} {w : Ws} {H : Hp} {z : Str} : ItFor c w H (Its z) (.fz (z.cps.toList.map fun k => .p (.str ⟨#[k]⟩))) := by
  intro w1 S1 H1 e1 k1 xs' hx i
  cases hx
  refine ⟨fun hi => ?_, fun y hy => ?_⟩
  · have := get_of hi
    show z.cps.size ≤ i
    simpa using this
  · rw [List.getElem?_map] at hy
    cases q : z.cps.toList[i]? with
    | none => rw [q] at hy; cases hy
    | some k =>
      rw [q] at hy
      cases hy
      have hk : z.cps[i]? = some k := by rw [← Array.getElem?_toList]; exact q
      refine ⟨(Array.getElem?_eq_some_iff.mp hk).1, fun x H' ⟨e2, k', h1, h2⟩ => ?_⟩
      rw [hk] at h1
      cases h1
      subst e2
      subst h2
      exact ⟨w1, Ext.refl .., k1, .p (.str _)⟩
/-- a list, a tuple, a text -/
def iAny (f : XE) : XI := fun as S => (f as S).bind fun x S1 => match x with
  | .h n => match S1[n]? with
    | some (.lst _) => .ret (.mu n false) S1
    | _ => .stuck
  | .p (.str z) => .ret (.fz (z.cps.toList.map fun k => .p (.str ⟨#[k]⟩))) S1
  | x => match tupOf x with
    | some xs => .ret (.fz xs) S1
    | none => match lstOf x with
      | some xs => .ret (.fz xs) S1
      | none => .stuck
theorem ai_any (he : AE X W e f) : AI X W tg e (iAny f) := pi_imp (pi_any he) fun σ H R ⟨c, w, S, as, hK, hM, hk, he, h⟩ => by
  refine ri_step hK hM hk he h fun v H1 x w1 S1 e1 k1 he1 r1 h1 => ?_
  split at h1
  · rename_i n
    split at h1
    · rename_i ys q
      cases r1 with
      | h ha =>
        obtain ⟨a', h2, _, vs, h3, _⟩ := k1.st _ _ q
        rw [ha] at h2
        cases h2
        exact .inl ⟨_, rfl, ⟨vs, .inl (.inl h3)⟩, h1 _ w1 H1 (Ext.refl ..) k1 (hK ▸ itFor_mu k1 ha)⟩
    · exact h1.elim
  · rename_i z
    exact .inr (.inr ⟨z, rp_str r1, h1 _ w1 H1 (Ext.refl ..) k1 itFor_str⟩)
  · split at h1
    · rename_i xs hx
      obtain ⟨a, vs, rfl, h2, h3⟩ := rp_tupOf hx r1
      exact .inr (.inl ⟨a, rfl, ⟨vs, hK ▸ SqT.lift k1.fz h2⟩, h1 _ w1 H1 (Ext.refl ..) k1 (hK ▸ itFor_tup k1 h2 h3)⟩)
    · split at h1
      · rename_i xs hx
        obtain ⟨a, vs, rfl, h2, h3⟩ := rp_lstOf hx r1
        exact .inl ⟨a, rfl, ⟨vs, .inl (.inl (k1.fz _ _ h2))⟩, h1 _ w1 H1 (Ext.refl ..) k1 (hK ▸ itFor_lst k1 h2 h3)⟩
      · exact h1.elim
/-- enumerate of a list or a tuple -/
def iEnA (g : XA) : XI := fun as S => (g as S).bind fun xs S1 => match xs with
  | [x] => match x with
    | .h n => match S1[n]? with
      | some (.lst _) => .ret (.mu n true) S1
      | _ => .stuck
    | x => match tupOf x with
      | some ys => .ret (.fz (enumA 0 ys)) S1
      | none => match lstOf x with
        | some ys => .ret (.fz (enumA 0 ys)) S1
        | none => .stuck
  | _ => .stuck
theorem itFor_ent {c : Ct} {w : Ws} {S : Store} {H : Hp} {a : Addr} {vs : List V} {xs : List AV} (k : Hok c w S H) (h : SqT c.K w.fz a vs) (r : Rps c w vs xs) : ItFor c w H (IteT c.K a vs) (.fz (enumA 0 xs)) := by
  intro w1 S1 H1 e1 k1 xs' hx i
  cases hx
  have h1 : SqT c.K H1 a vs := SqT.lift k1.fz (SqT.lift e1.fz h)
  rw [enumA_get]
  refine ⟨fun hi => ⟨h1, by rw [r.length]; exact get_of (by cases q : xs[i]? with | none => rfl | some z => rw [q] at hi; cases hi)⟩, fun z hz => ?_⟩
  cases q : xs[i]? with
  | none => rw [q] at hz; cases hz
  | some x =>
    rw [q] at hz
    cases hz
    obtain ⟨v, hv, rv⟩ := r.get q
    refine ⟨⟨v, h1, hv⟩, fun y H' ⟨T, u, e2, hT, e3, e4⟩ => ?_⟩
    rw [hv] at e4
    cases e4
    rw [e2, e3]
    have e5 : ((0 + i : Nat) : Int) = (i : Nat) := by omega
    rw [e5]
    exact pair_new k1 hT (.p (.int _)) (Rp.le e1.le _ rv)
theorem ai_enA {p tpos : Pos} {elts : List Expr} {kk : Nat} (hg : Gl X "enumerate") (hm : X.mg "enumerate" = none) (ha : AA X W [e] ga) (hs : starEach [e] X.env = [(false, eval e X.env)] := by rfl) :
    AI X W (.Tuple elts kk tpos) (.Call (.Name "enumerate" p) [e] [] pos) (iEnA ga) := pi_imp (pi_enumA hg hm ha hs) fun σ H R ⟨c, w, S, as, hK, hM, hk, he, h⟩ => by
    refine ri_step hK hM hk he h fun vs H1 xs w1 S1 e1 k1 he1 r1 h1 => ?_
    split at h1
    · obtain ⟨v, rfl, rv⟩ := rps1 r1
      split at h1
      · rename_i n
        split at h1
        · rename_i q
          cases rv with
          | @h _ a ha =>
            obtain ⟨a', h2, _, vs, h3, _⟩ := k1.st _ _ q
            rw [ha] at h2
            cases h2
            exact ⟨a, rfl, .inl ⟨vs, .inl (.inl h3), h1 _ w1 H1 (Ext.refl ..) k1 (hK ▸ itFor_enm k1 ha)⟩⟩
        · exact h1.elim
      · split at h1
        · rename_i ys hy
          obtain ⟨a, us, rfl, h2, h3⟩ := rp_tupOf hy rv
          exact ⟨a, rfl, .inr ⟨us, hK ▸ SqT.lift k1.fz h2, h1 _ w1 H1 (Ext.refl ..) k1 (hK ▸ itFor_ent k1 h2 h3)⟩⟩
        · split at h1
          · rename_i ys hy
            obtain ⟨a, us, rfl, h2, h3⟩ := rp_lstOf hy rv
            exact ⟨a, rfl, .inl ⟨us, .inl (.inl (k1.fz _ _ h2)), h1 _ w1 H1 (Ext.refl ..) k1 (hK ▸ itFor_en k1 h2 h3)⟩⟩
          · exact h1.elim
    · exact h1.elim
/-- unpacking of a tuple or of a list -/
def gUnX (n : Nat) (gs : XGs) : XG := fun x as S => match seqOf x S with
  | some xs => match Nat.beq xs.length n with
    | true => gs xs as S
    | false => .stuck
  | none => .stuck
theorem ag_un {es : List Expr} {k : Nat} {gs : XGs} {n : Nat} (hc : X.calm = true) (h : AGs X W es gs) (hn : (assignEach es X.env).length = n := by rfl) (hst : (assignEach es X.env).findIdx? (·.1) = none := by rfl) : AG X W (.Tuple es k pos) (gUnX n gs) :=
  pg_imp (PG.or (pg_tup hc h hn hst) (pg_unl hc h hn hst)) fun v σ H Q ⟨c, w, S, as, x, hK, hM, hk, he, r, h⟩ => by
    unfold gUnX at h
    split at h
    · rename_i xs hx
      split at h
      · rename_i hl
        obtain ⟨a, us, rfl, h1, h2⟩ := rp_seqOf hk hx r
        have hl : us.length = n := by rw [h2.length]; exact Nat.eq_of_beq_eq_true hl
        rcases h1 with h1 | h1
        · exact .inr ⟨a, us, rfl, hK ▸ h1, hl, c, w, S, as, xs, hK, hM, hk, he, h2, h⟩
        · exact .inl ⟨a, us, rfl, hK ▸ h1, hl, c, w, S, as, xs, hK, hM, hk, he, h2, h⟩
      · exact h.elim
    · exact h.elim
end
end RA
namespace L2
end L2

/-! RA12: sorted. -/
namespace SoA
open PySem PySem.Spec PyProof.Rows PySem.W
mutual
theorem reads_there {h : Heap} : ∀ {v : Value} {d : PyData} {as : List Addr}, Reads h v d as → ∀ a ∈ as, a < h.objs.size
  | _, _, _, .none, a, m => nomatch m
  | _, _, _, .bool _, a, m => nomatch m
  | _, _, _, .int _ _, a, m => nomatch m
  | _, _, _, .str _ _, a, m => nomatch m
  | _, _, _, .list h1 h2 h3 h4, a, m => by
    rcases List.mem_cons.mp m with m | m
    · subst m; exact Heap.lt_size h1
    · exact readsAll_there h4 a m
  | _, _, _, .tuple h1 h2 h3 h4, a, m => readsAll_there h4 a m
  | _, _, _, .dict h1 h2 h3 h4 h5, a, m => by
    rcases List.mem_append.mp m with m | m
    · rcases List.mem_cons.mp m with m | m
      · subst m; exact Heap.lt_size h1
      · exact readsAll_there h4 a m
    · exact readsAll_there h5 a m
theorem readsAll_there {h : Heap} : ∀ {vs : List Value} {ds : List PyData} {as : List Addr}, ReadsAll h vs ds as → ∀ a ∈ as, a < h.objs.size
  | _, _, _, .nil, a, m => nomatch m
  | _, _, _, .cons h1 h2, a, m => by
    rcases List.mem_append.mp m with m | m
    · exact reads_there h1 a m
    · exact readsAll_there h2 a m
end
end SoA
namespace L2
open PySem PySem.Spec PyProof.Rows
section
variable {X : Cx} {pins : List (Addr × Obj)} {σ : St} {H : Hp} {s : Shared}
/-- sorted of what gives these items -/
theorem sorted_core {x : Value} {bs : List (V × PyData)} {Q : VK} (I : Inv X pins σ H s)
    (hcol : ∀ Q : List Value → Shared → Prop, (∀ vs h' tk, (∀ b o, s.heap.get? b = some o → h'.get? b = some o) → PySem.W.EachIs (fun v (b : V × PyData) => RelV b.1 v) vs bs → PySem.W.EachIs (fun v (b : V × PyData) => ∃ as, Reads s.heap v b.2 as) vs bs → Q vs { s with heap := h', toks := tk }) → wpAny (model X.prog X.w) X.A.in1 (collect x) Q X.xe s)
    (ha : argsOk "sorted" ⟨[x], []⟩)
    (hal : PySem.W.AllAlike (bs.map Prod.snd)) (hk : PySem.W.Sortable (bs.map Prod.snd)) (hL : bs.length ≤ sizeLine) (hu : ∀ b, b ∈ bs → X.A.units + 2 + b.2.depth < cLine)
    (q : ∀ p, H p = none → Q (.ref p) (upd H p (.lst ((bs.mergeSort (PySem.W.dataLe false Prod.snd)).map Prod.fst)))) : wpAny (model X.prog X.w) X.A (call (.builtin "sorted") [x]) (EP X pins σ Q) X.xe s := by
  refine Calls.call_function_entry PyProof.Rows.kind_sorted PyProof.Rows.plain_sorted PyProof.Rows.entry_sorted ha ?_
  unfold Builtin.«sorted»
  refine wpAny_bind (m := checkCount "sorted" 1 1 _) (wpAny_pure ?_)
  refine wpAny_bind (hcol _ fun vs h' tk hk' e er => ?_)
  have hlv : vs.length = bs.length := e.length
  have I1 : Inv X pins σ H { s with heap := h', toks := tk } := I.kept hk'
  refine wpAny_bind (wpAny_newList ?_ (by rw [hlv]; exact hL))
  have hoL : (h'.push (seqObj "list" vs.toArray 0)).get? h'.objs.size = some (seqObj "list" vs.toArray 0) := Heap.get?_push_size _ rfl
  show wpAny _ _ _ _ _ { s with heap := h'.push (seqObj "list" vs.toArray 0), toks := tk }
  refine wpAny_bind (wpAny_holding (PySem.W.list_sort_data (s := { s with heap := h'.push (seqObj "list" vs.toArray 0), toks := tk }) (a := h'.objs.size) hoL e
    (er.mono fun v b ⟨as, r⟩ => ⟨as, PyProof.Rows.Reads.keeps (fun b o z => Heap.get?_push_of_some _ (hk' b o z)) r, fun m => absurd (SoA.reads_there (PyProof.Rows.Reads.keeps hk' r) _ m) (Nat.lt_irrefl _)⟩) hal hk hL (fun b hb => hu b hb) fun out hout eo => ?_))
  obtain ⟨e', he'⟩ := PyProof.Rows.sortedHeap_at (vs := vs) (out := out.toArray) hoL
  have hlen : ((bs.mergeSort (PySem.W.dataLe false Prod.snd)).map Prod.fst).length ≤ sizeLine := by
    rw [List.length_map, List.length_mergeSort]
    exact hL
  have rel : ∀ {vs : List Value} {bs : List (V × PyData)}, PySem.W.EachIs (fun v (b : V × PyData) => RelV b.1 v) vs bs → Vals (bs.map Prod.fst) vs := by
    intro vs bs h
    induction h with
    | nil => exact .nil
    | cons h t ih => exact .cons h ih
  refine wpAny_pure ⟨_, rfl, .ref h'.objs.size, upd H h'.objs.size _, I1.laid (t' := tk) (fun b u z => ?_) (Nat.le_refl _)
    (show ObjOk X.prog X.w _ _ _ (.lst _) from ⟨hlen, out, e', rel eo, he'⟩), rfl, q _ (I1.hok.fresh (Nat.le_refl _))⟩
  have hb : b < h'.objs.size := Heap.lt_size z
  rw [PyProof.Rows.sortedHeap_old (Nat.ne_of_lt hb) (by rw [size_push']; exact Nat.lt_succ_of_lt hb)]
  exact Heap.get?_push_of_some _ z

/-- sorted(x): x a list, a tuple, a dict with keys ints or texts; zs its items with what they read as -/
def rSortA (K : PySem.W.Frag) (dep : Nat) : List V → Hp → VK → Prop := fun vs H Q => ∃ (a : Addr) (bs : List (V × PyData)), vs = [.ref a] ∧ (SqL K H a (bs.map Prod.fst) ∨ SqT K H a (bs.map Prod.fst) ∨ ∃ kvs : List (Key × V), H a = some (.dK kvs) ∧ bs.map Prod.fst = kvs.map fun p => kV p.1) ∧
  (∀ b ∈ bs, Dp K H b.1 b.2) ∧ PySem.W.AllAlike (bs.map Prod.snd) ∧ PySem.W.Sortable (bs.map Prod.snd) ∧ (∀ b ∈ bs, b.2.depth ≤ dep) ∧
  ∀ p, H p = none → Q (.ref p) (upd H p (.lst ((bs.mergeSort (PySem.W.dataLe false Prod.snd)).map Prod.fst)))
theorem vals_by : ∀ {us : List Value} {kvs : List (Key × V)}, us.length = kvs.length → (∀ (j : Nat) (v : Value), us[j]? = some v → ∃ p, kvs[j]? = some p ∧ RelV (kV p.1) v) → Vals (kvs.map fun p => kV p.1) us
  | [], [], _, _ => .nil
  | u :: us, p :: kvs, hl, h => by
    obtain ⟨p', e1, e2⟩ := h 0 u rfl
    have e1 : p = p' := Option.some.inj e1
    subst e1
    exact .cons e2 (vals_by (by simpa using hl) fun j v e => by
      obtain ⟨p', a, b⟩ := h (j + 1) v (by simpa using e)
      exact ⟨p', by simpa using a, b⟩)
  | [], _ :: _, hl, _ => by simp at hl
  | _ :: _, [], hl, _ => by simp at hl
theorem each_of {vs : List Value} {bs : List (V × PyData)} (r : Vals (bs.map Prod.fst) vs) : PySem.W.EachIs (fun v (b : V × PyData) => RelV b.1 v) vs bs := by
  induction bs generalizing vs with
  | nil => cases r; exact .nil
  | cons b bs ih => cases r with | cons h t => exact .cons h (ih t)
theorem each_reads (I : Inv X pins σ H s) {vs : List Value} {bs : List (V × PyData)} (r : Vals (bs.map Prod.fst) vs) (h : ∀ b ∈ bs, Dp X.K H b.1 b.2) : PySem.W.EachIs (fun v (b : V × PyData) => ∃ as, Reads s.heap v b.2 as) vs bs := by
  induction bs generalizing vs with
  | nil => cases r; exact .nil
  | cons b bs ih =>
    cases r with
    | cons h1 t => exact .cons (Dp.reads I b.2 b.1 _ (h b (List.mem_cons_self ..)) h1) (ih t fun b' hb' => h b' (List.mem_cons_of_mem _ hb'))
theorem cr_sortA {dep : Nat} (hc : X.calm = true) (hu : X.A.units + 2 + dep < cLine) : CallR X (.builtin "sorted") (rSortA X.K dep) := by
  intro pins s σ H vs us Q I r h
  obtain ⟨a, bs, rfl, hs, hd, hal, hk, hdep, q⟩ := h
  obtain ⟨u, rfl, ru⟩ := vals1 r
  obtain rfl : u = Value.ref a := ru
  have hu' : ∀ b ∈ bs, X.A.units + 2 + b.2.depth < cLine := fun b hb => by have := hdep b hb; omega
  rcases hs with hs | hs | ⟨kvs, hs, hks⟩
  · obtain ⟨its, rv, pl, hz⟩ := I.list hs
    obtain ⟨⟨cls, dd, data, sl⟩, n, ho, hcl, hdn, hdt⟩ := pl
    simp only at hcl hdt
    subst hcl hdt
    have hl : bs.length ≤ sizeLine := by simpa using hz
    refine sorted_core I (fun Q' hQ' => ?_) (PyProof.Rows.args_sorted1 _) hal hk hl hu' q
    refine wpAny_collect_seq a (.inl rfl) ho rfl rfl (fun h' hk' => ?_) (by have := rv.length; simp at this ⊢; omega)
    have e : its.toArray.toList = its := by simp
    rw [e]
    exact hQ' its h' s.toks hk' (each_of rv) (each_reads I rv hd)
  · obtain ⟨its, rv, pl, hz⟩ := I.tuple hs
    obtain ⟨o, ho, hcl, n, hdt⟩ := pl
    have hl : bs.length ≤ sizeLine := by simpa using hz
    refine sorted_core I (fun Q' hQ' => ?_) (PyProof.Rows.args_sorted1 _) hal hk hl hu' q
    refine wpAny_collect_seq a (.inr rfl) ho hcl hdt (fun h' hk' => ?_) (by have := rv.length; simp at this ⊢; omega)
    have e : its.toArray.toList = its := by simp
    rw [e]
    exact hQ' its h' s.toks hk' (each_of rv) (each_reads I rv hd)
  · obtain ⟨z, lo, ws, rel, dd⟩ := dk_of I.hok hs
    obtain ⟨ep, hat⟩ := dd.dictAt
    have hlk : bs.length = kvs.length := by simpa using congrArg List.length hks
    have hlw : kvs.length = ws.length := Paired.length rel
    have hl : bs.length ≤ sizeLine := by rw [hlk]; exact z
    refine sorted_core I (fun Q' hQ' => ?_) (PyProof.Rows.args_sorted1 _) hal hk hl hu' q
    refine PySem.W.kdu_collect (A := X.A.in1) (PySem.W.kdl_dict (knd := mixKind X.prog X.w) (kvs := ws) (ep := ep) lo) (I.ok.hd hc) hat (by omega) fun h' tk acc hk' hacc => ?_
    have rv : Vals (bs.map Prod.fst) acc.toList := by
      rw [hks]
      have hal : acc.toList.length = kvs.length := by rw [Array.length_toList, hacc.1, hlw]
      have hkeys : ∀ (j : Nat) (v : Value), acc.toList[j]? = some v → ∃ p, kvs[j]? = some p ∧ RelV (kV p.1) v := fun j v e => by
        obtain ⟨k, x, e1, e2⟩ := hacc.2 j v (by rw [← Array.getElem?_toList]; exact e)
        have e3 : (ws.map (·.1))[j]? = some k := by rw [List.getElem?_map, e1]; rfl
        rw [← rel.keys, List.getElem?_map] at e3
        cases e4 : kvs[j]? with
        | none => rw [e4] at e3; cases e3
        | some p =>
          rw [e4] at e3
          have e5 : p.1 = k := Option.some.inj e3
          exact ⟨p, rfl, by rw [e5]; exact relV_key (show keyIs k v = true from e2)⟩
      exact vals_by hal hkeys
    exact hQ' acc.toList h' tk hk' (each_of rv) (each_reads I rv hd)
end
end L2

namespace RA
open PySem PySem.Spec L2
/-! ### the order of data -/
def ltS : List Nat → List Nat → Bool
  | [], [] => false
  | [], _ :: _ => true
  | _ :: _, [] => false
  | a :: as, b :: bs => match Nat.beq a b with
    | true => ltS as bs
    | false => Nat.blt a b
mutual
def ltD : PyData → PyData → Bool
  | .int a, .int b => decide (a < b)
  | .str a, .str b => ltS a.cps.toList b.cps.toList
  | .bool a, .bool b => match a with | true => false | false => b
  | .tuple xs, .tuple ys => ltDs xs ys
  | .list xs, .list ys => ltDs xs ys
  | _, _ => false
def ltDs : List PyData → List PyData → Bool
  | [], [] => false
  | [], _ :: _ => true
  | _ :: _, [] => false
  | x :: xs, y :: ys => match eqvD x y with
    | true => ltDs xs ys
    | false => ltD x y
end
mutual
def likeD : PyData → PyData → Bool
  | .none, .none => true
  | .bool _, .bool _ => true
  | .int _, .int _ => true
  | .str _, .str _ => true
  | .list xs, .list ys => likeDs xs ys
  | .tuple xs, .tuple ys => likeDs xs ys
  | _, _ => false
def likeDs : List PyData → List PyData → Bool
  | x :: xs, y :: ys => match likeD x y with
    | true => likeDs xs ys
    | false => false
  | [], _ => true
  | _ :: _, [] => true
end
mutual
theorem likeD_eq : ∀ x y : PyData, likeD x y = PySem.W.alike x y
  | .none, y => by cases y <;> simp [likeD, PySem.W.alike]
  | .bool _, y => by cases y <;> simp [likeD, PySem.W.alike]
  | .int _, y => by cases y <;> simp [likeD, PySem.W.alike]
  | .str _, y => by cases y <;> simp [likeD, PySem.W.alike]
  | .dict _, y => by cases y <;> simp [likeD, PySem.W.alike]
  | .list xs, y => by
    cases y with
    | list ys => simp only [likeD, PySem.W.alike]; exact likeDs_eq xs ys
    | _ => simp [likeD, PySem.W.alike]
  | .tuple xs, y => by
    cases y with
    | tuple ys => simp only [likeD, PySem.W.alike]; exact likeDs_eq xs ys
    | _ => simp [likeD, PySem.W.alike]
theorem likeDs_eq : ∀ xs ys : List PyData, likeDs xs ys = PySem.W.alikeAll xs ys
  | [], _ => by simp [likeDs, PySem.W.alikeAll]
  | _ :: _, [] => by simp [likeDs, PySem.W.alikeAll]
  | x :: xs, y :: ys => by
    simp only [likeDs, PySem.W.alikeAll]
    rw [likeD_eq x y, likeDs_eq xs ys]
    cases PySem.W.alike x y <;> rfl
end
theorem ltS_eq : ∀ a b : List Nat, ltS a b = decide (a < b)
  | [], [] => by simp [ltS]
  | [], _ :: _ => by simp [ltS]
  | _ :: _, [] => by simp [ltS]
  | a :: as, b :: bs => by
    simp only [ltS]
    rw [ltS_eq as bs]
    by_cases h : a = b
    · subst h
      simp [List.cons_lt_cons_iff]
    · have : Nat.beq a b = false := by
        cases q : Nat.beq a b with
        | false => rfl
        | true => exact absurd (Nat.eq_of_beq_eq_true q) h
      rw [this]
      show Nat.blt a b = _
      rw [Bool.eq_iff_iff]
      simp [List.cons_lt_cons_iff, h, Nat.blt_eq]
mutual
theorem ltD_eq : ∀ x y : PyData, PySem.W.alike x y = true → ltD x y = PySem.W.dataLt x y
  | .none, y, h => by
    cases y with
    | none => simp [ltD, PySem.W.dataLt, PyProof.Rows.lex_irrefl]
    | _ => simp [PySem.W.alike] at h
  | .bool a, y, h => by
    cases y with
    | bool b => cases a <;> cases b <;> simp [ltD] <;> decide
    | _ => simp [PySem.W.alike] at h
  | .int a, y, h => by
    cases y with
    | int b => simp only [ltD]; rw [PySem.W.dataLt_int]
    | _ => simp [PySem.W.alike] at h
  | .str a, y, h => by
    cases y with
    | str b => simp only [ltD]; rw [PySem.W.dataLt_str, ltS_eq]
    | _ => simp [PySem.W.alike] at h
  | .dict _, y, h => by cases y <;> simp [PySem.W.alike] at h
  | .list xs, y, h => by
    cases y with
    | list ys =>
      simp only [ltD]
      rw [PySem.W.dataLt_list]
      exact ltDs_eq xs ys (by simpa [PySem.W.alike] using h)
    | _ => simp [PySem.W.alike] at h
  | .tuple xs, y, h => by
    cases y with
    | tuple ys =>
      simp only [ltD]
      rw [PySem.W.dataLt_tuple]
      exact ltDs_eq xs ys (by simpa [PySem.W.alike] using h)
    | _ => simp [PySem.W.alike] at h
theorem ltDs_eq : ∀ xs ys : List PyData, PySem.W.alikeAll xs ys = true → ltDs xs ys = PyProof.Rows.lexLt PyProof.Rows.itemOrd (PySem.W.keyToksAll xs) (PySem.W.keyToksAll ys)
  | [], [], _ => by simp [ltDs, PyProof.Rows.lex_irrefl]
  | [], y :: ys, _ => by
    simp only [ltDs, PySem.W.keyToksAll]
    rw [PyProof.Rows.lex_diff (O := PyProof.Rows.itemOrd) (by simp)]
    rfl
  | x :: xs, [], _ => by
    simp only [ltDs, PySem.W.keyToksAll]
    rw [PyProof.Rows.lex_diff (O := PyProof.Rows.itemOrd) (by simp)]
    rfl
  | x :: xs, y :: ys, h => by
    have h := PySem.W.alike_all_cons h
    rw [PySem.W.dataLt_cons h.1]
    simp only [ltDs]
    rw [eqvD_eq, ltDs_eq xs ys h.2, ltD_eq x y h.1]
    cases PyData.eqv x y <;> rfl
end
end RA

/-! RA13: sorted by values; sorted by the first part of each. -/
namespace L2
open PySem PySem.Spec PyProof.Rows
section
variable {P : Program} {w : World} {K : PySem.W.Frag} {x qual y : Str} {params : Arguments} {scope : Scope} {f : Addr} {fd : FuncData} {p1 p2 p3 p4 : Pos} {j : Nat}
/-- def f(y): return y[0], called with a tuple: all that was there stays -/
theorem first_call (F : FunD K x qual params [.Return (some (.Subscript (.Name y p1) (.Constant (.int 0) j p2) p3)) p4] scope [] [] f fd) (S : FnScope [y] [y] scope) (hy : scope.names.lookup y = some .local) (hd : (y == ("__debug__" : Str)) = false)
    (hb : ∀ (s : Shared) (u : Value), BindsTo s fd ⟨[u], []⟩ [(y, u)]) {A : Around} {s : Shared} {a : Addr} {its : Array Value} {v : Value} (hK : K.In s.heap) (hdp : A.depth < recursionLimit) (lim : s.heap.NoLimit) (hT : IsTup s.heap a its) (hz : its.size ≤ sizeLine) (hv : its[0]? = some v) :
    wpAny (model P w) A (call (.ref f) [.ref a]) (fun u s' => u = v ∧ ∃ h' tk, s' = { s with heap := h', toks := tk } ∧ ∀ b o, s.heap.get? b = some o → h'.get? b = some o) (fun _ _ => False) s := by
  obtain ⟨oc, od, dV, kV, doc, pm, an, cdv, ct, osl, rfl, lk, hcd, hD, hKw⟩ := F.ex
  refine wpAny_call ?_
  refine codeAny_call_function hdp (hK _ _ lk) rfl S.co S.gen rfl (PySem.W.codeRec_of hK hcd) (hb s (.ref a) _ _ _ _ ?_)
  refine wpAny_newFunctionEnv_cells S.kind (fun z hz => by
    have e : z = (y, Value.ref a) := by simpa using hz
    subst e
    exact .inl hy) fun env he s1 x => ?_
  have hk : env.kindOf y = some .local := by rw [he]; exact hy
  have hsk : env.scope.kind = .function := by rw [he]; exact S.kind
  refine ⟨lim.keeps x.toInCall.keep, codeAny_func ?_⟩
  obtain ⟨h1, tk1, rfl⟩ := x.toInCall.same
  have ns := x.toInCall.ns
  have kp := x.toInCall.keep
  have hT1 : IsTup h1 a its := by
    obtain ⟨o, ho, r⟩ := hT
    exact ⟨o, kp _ _ ho, r⟩
  have hm : bindL env.kindOf [(y, Value.ref a)] (fun _ => none) y = some (Value.ref a) := by
    unfold bindL bindL
    rw [if_pos hk, if_pos rfl]
  refine wpAny_execs_cons ?_
  refine wpAny_Return_some ?_
  refine Subscript_ ?_
  refine wpAny_Name (wpAny_loadName_local (v := Value.ref a) hsk hk ns hm ?_) hd
  refine wpAny_Constant_int ?_
  have tI : ∀ t, Shared.TypeIs ({ s with heap := h1, toks := t } : Shared) (.ref a) "tuple" := fun t => by
    obtain ⟨o, ho, hc, _⟩ := hT1
    exact ⟨o, ho, hc⟩
  exact subscriptTail_builtinR (x := v) (tI _) slot_tuple_getitem.lookup (getItem_tuple (j := 0) hT1 (by decide) (by decide) (by
    have : 0 < its.size := (Array.getElem?_eq_some_iff.mp hv).1
    simp [seqIndex?, this]) hv ⟨rfl, rfl, h1, _, rfl, kp⟩)
end
end L2
namespace SoA
open PySem PySem.Spec PyProof.Rows PySem.W
mutual
def noL : PyData → Bool
  | .list _ => false
  | .dict _ => false
  | .tuple xs => noLs xs
  | _ => true
def noLs : List PyData → Bool
  | [] => true
  | x :: xs => match noL x with
    | true => noLs xs
    | false => false
end
mutual
theorem reads_nil {h : Heap} : ∀ {v : Value} {d : PyData} {as : List Addr}, Reads h v d as → noL d = true → as = []
  | _, _, _, .none, _ => rfl
  | _, _, _, .bool _, _ => rfl
  | _, _, _, .int _ _, _ => rfl
  | _, _, _, .str _ _, _ => rfl
  | _, _, _, .list h1 h2 h3 h4, n => by simp [noL] at n
  | _, _, _, .tuple h1 h2 h3 h4, n => readsAll_nil h4 (by simpa [noL] using n)
  | _, _, _, .dict h1 h2 h3 h4 h5, n => by simp [noL] at n
theorem readsAll_nil {h : Heap} : ∀ {vs : List Value} {ds : List PyData} {as : List Addr}, ReadsAll h vs ds as → noLs ds = true → as = []
  | _, _, _, .nil, _ => rfl
  | _, _, _, .cons (d := d) h1 h2, n => by
    unfold noLs at n
    split at n
    · rename_i n1
      rw [reads_nil h1 n1, readsAll_nil h2 n]
      rfl
    · cases n
end
end SoA
namespace L2
open PySem PySem.Spec PyProof.Rows
/-- sorted(l, key=f), f the first part of a tuple -/
def rSortFst (K : PySem.W.Frag) (f : Addr) (dep : Nat) : List V → List V → Hp → VK → Prop := fun vs zs H Q => ∃ (a : Addr) (bs : List (V × PyData)), vs = [.ref a] ∧ zs = [.ref f] ∧ SqL K H a (bs.map Prod.fst) ∧
  (∀ b ∈ bs, ∃ t ys v0, b.1 = .ref t ∧ SqT K H t ys ∧ ys[0]? = some v0 ∧ Dp K H v0 b.2) ∧ PySem.W.AllAlike (bs.map Prod.snd) ∧ PySem.W.Sortable (bs.map Prod.snd) ∧ (∀ b ∈ bs, SoA.noL b.2 = true ∧ b.2.depth ≤ dep) ∧
  ∀ p, H p = none → Q (.ref p) (upd H p (.lst ((bs.mergeSort (PySem.W.dataLe false Prod.snd)).map Prod.fst)))
section
variable {X : Cx} {x qual y : Str} {params : Arguments} {scope : Scope} {f : Addr} {fd : FuncData} {p1 p2 p3 p4 : Pos} {j dep : Nat}
theorem cr_sortFst (F : FunD X.K x qual params [.Return (some (.Subscript (.Name y p1) (.Constant (.int 0) j p2) p3)) p4] scope [] [] f fd) (S : FnScope [y] [y] scope) (hy : scope.names.lookup y = some .local) (hd : (y == ("__debug__" : Str)) = false)
    (hb : ∀ (s : Shared) (u : Value), BindsTo s fd ⟨[u], []⟩ [(y, u)]) (hr : Room 1 X.A) (hu : X.A.units + 2 + dep < cLine) : CallRK X (.builtin "sorted") [Str.ofString "key"] (rSortFst X.K f dep) := by
  intro pins s σ H xs zs us ws Q I r rz h
  obtain ⟨a, bs, rfl, rfl, hs, hit, hal, hk, hdep, q⟩ := h
  obtain ⟨u, rfl, ru⟩ := vals1 r
  obtain ⟨g, rfl, rg⟩ := vals1 rz
  obtain rfl : u = Value.ref a := ru
  obtain rfl : g = Value.ref f := rg
  obtain ⟨its, rv, pl, hz⟩ := I.list hs
  have hl : bs.length ≤ sizeLine := by simpa using hz
  have e1 := each_of rv
  have e2 : PySem.W.EachIs (fun v (b : V × PyData) => RelV b.1 v ∧ b ∈ bs) its bs := (PySem.W.each_mem e1).mono fun v b h => h
  show wpAny _ _ (call (.builtin "sorted") [.ref a] [(Str.ofString "key", .ref f)]) _ _ _
  refine PySem.W.sorted_key_data (b := false) (bs := bs) (R := fun v b => RelV b.1 v ∧ b ∈ bs) (vs := its) Prod.snd pl.isList e2 hal hk hl (fun b hb => by have := (hdep b hb).2; omega) (ksk_s1 _ _) (fun _ => ksk_l1 _ _) (fun _ => ksk_t1 _ _) (fun v b ⟨rb, hb'⟩ _ h tk kp => ?_) fun out c h' tk kp hn hD hout eo => ?_
  · obtain ⟨t, ys, v0, e, ht, h0, hdp⟩ := hit b hb'
    rw [e] at rb
    obtain rfl : v = Value.ref t := rb
    have I1 : Inv X pins σ H { s with heap := h, toks := tk } := I.kept kp
    obtain ⟨ti, rt, pt, hzt⟩ := I1.tuple ht
    obtain ⟨w0, hw0, rw0⟩ := rt.get h0
    refine thn (first_call (P := X.prog) (w := X.w) F S hy hd hb (A := X.A.in1.in1) I1.kIn (show X.A.depth < recursionLimit from hr.depth) I1.nolimit pt (by have := rt.length; simp; omega) (v := w0) (by simpa using hw0)) fun u' s' hq => ?_
    obtain ⟨rfl, h2, tk2, rfl, kp2⟩ := hq
    obtain ⟨as, hrd⟩ := Dp.reads I1 b.2 v0 _ hdp rw0
    obtain rfl : as = [] := SoA.reads_nil hrd (hdep b hb').1
    exact ⟨h2, tk2, rfl, kp2, PyProof.Rows.Reads.keeps kp2 hrd⟩
  · have rel : ∀ {vs : List Value} {cs : List (V × PyData)}, PySem.W.EachIs (fun v (b : V × PyData) => RelV b.1 v ∧ b ∈ bs) vs cs → Vals (cs.map Prod.fst) vs := by
      intro vs cs h
      induction h with
      | nil => exact .nil
      | cons h t ih => exact .cons h.1 ih
    have hlen : ((bs.mergeSort (PySem.W.dataLe false Prod.snd)).map Prod.fst).length ≤ sizeLine := by
      rw [List.length_map, List.length_mergeSort]
      exact hl
    exact ⟨.ref _, upd H _ _, I.laid (t' := tk) kp (Nat.le_succ _) (show ObjOk X.prog X.w _ _ _ (.lst _) from ⟨hlen, out, c, rel eo, hD⟩), rfl, q _ (I.hok.fresh (Nat.le_succ _))⟩
end
end L2

/-! RA14: sorted, as what is reckoned. -/
namespace RA
open PySem PySem.Spec L2
/-! ### sorting by insertion -/
section
variable {α β : Type}
def insB (lt : α → α → Bool) (x : α) : List α → List α
  | [] => [x]
  | y :: ys => match lt y x with
    | true => y :: insB lt x ys
    | false => x :: y :: ys
def isort (lt : α → α → Bool) : List α → List α
  | [] => []
  | x :: xs => insB lt x (isort lt xs)
theorem insB_perm (lt : α → α → Bool) (x : α) : ∀ l : List α, (insB lt x l).Perm (x :: l)
  | [] => .refl _
  | y :: ys => by
    unfold insB
    split
    · exact ((insB_perm lt x ys).cons y).trans (.swap x y ys)
    · exact .refl _
theorem isort_perm (lt : α → α → Bool) : ∀ l : List α, (isort lt l).Perm l
  | [] => .refl _
  | x :: xs => (insB_perm lt x _).trans ((isort_perm lt xs).cons x)
theorem insB_congr {lt lt' : α → α → Bool} {x : α} : ∀ {l : List α}, (∀ y ∈ l, lt y x = lt' y x) → insB lt x l = insB lt' x l
  | [], _ => rfl
  | y :: ys, h => by
    unfold insB
    rw [h y (List.mem_cons_self ..), insB_congr fun z hz => h z (List.mem_cons_of_mem _ hz)]
theorem isort_congr {lt lt' : α → α → Bool} : ∀ {l : List α}, (∀ x ∈ l, ∀ y ∈ l, lt x y = lt' x y) → isort lt l = isort lt' l
  | [], _ => rfl
  | x :: xs, h => by
    unfold isort
    rw [isort_congr fun a ha b hb => h a (List.mem_cons_of_mem _ ha) b (List.mem_cons_of_mem _ hb)]
    exact insB_congr fun y hy => h y (List.mem_cons_of_mem _ ((isort_perm lt' xs).mem_iff.mp hy)) x (List.mem_cons_self ..)
variable {le : α → α → Bool}
theorem insB_sorted (h : PySem.W.TotalLe le) (x : α) : ∀ {l : List α}, l.Pairwise (fun a b => le a b = true) → (insB (fun a b => !le b a) x l).Pairwise (fun a b => le a b = true)
  | [], _ => by simp [insB]
  | y :: ys, hl => by
    unfold insB
    have ⟨h1, h2⟩ := List.pairwise_cons.mp hl
    split
    · rename_i q
      have q : le x y = false := by simpa using q
      have yx : le y x = true := (h.total x y).resolve_left (by rw [q]; exact Bool.false_ne_true)
      refine List.pairwise_cons.mpr ⟨fun z hz => ?_, insB_sorted h x h2⟩
      rcases List.mem_cons.mp ((insB_perm _ x ys).mem_iff.mp hz) with e | e
      · rw [e]; exact yx
      · exact h1 z e
    · rename_i q
      have q : le x y = true := by simpa using q
      refine List.pairwise_cons.mpr ⟨fun z hz => ?_, hl⟩
      rcases List.mem_cons.mp hz with e | e
      · rw [e]; exact q
      · exact h.trans _ _ _ q (h1 z e)
theorem insB_filter (h : PySem.W.TotalLe le) (c x : α) : ∀ l : List α, (insB (fun a b => !le b a) x l).filter (PySem.W.sameRank le c) = (x :: l).filter (PySem.W.sameRank le c)
  | [] => rfl
  | y :: ys => by
    unfold insB
    split
    · rename_i q
      have q : le x y = false := by simpa using q
      rw [List.filter_cons, insB_filter h c x ys, List.filter_cons, List.filter_cons, List.filter_cons]
      by_cases h1 : PySem.W.sameRank le c y = true
      · by_cases h2 : PySem.W.sameRank le c x = true
        · exfalso
          unfold PySem.W.sameRank at h1 h2
          rw [Bool.and_eq_true] at h1 h2
          rw [h.trans x c y h2.2 h1.1] at q
          cases q
        · simp [h2]
      · simp [h1]
    · rfl
theorem isort_eq (h : PySem.W.TotalLe le) (l : List α) : isort (fun a b => !le b a) l = l.mergeSort le := by
  refine PySem.W.sort_unique h ?_ fun c => ?_
  · induction l with
    | nil => exact .nil
    | cons x xs ih => exact insB_sorted h x ih
  · induction l with
    | nil => rfl
    | cons x xs ih =>
      unfold isort
      rw [insB_filter h, List.filter_cons, List.filter_cons, ih]
/-- by keys of data -/
def sortK (k : α → PyData) (l : List α) : List α := isort (fun a b => ltD (k a) (k b)) l
theorem sortK_eq (k : α → PyData) {l : List α} (h : PySem.W.AllAlike (l.map k)) : sortK k l = l.mergeSort (PySem.W.dataLe false k) := by
  have e := isort_eq (le := PySem.W.dataLe false k) (PySem.W.sortLe_total _ false _) l
  rw [← e]
  refine isort_congr fun x hx y hy => ?_
  rw [ltD_eq _ _ (h _ (List.mem_map_of_mem hx) _ (List.mem_map_of_mem hy))]
  show PySem.W.dataLt (k x) (k y) = !(!PySem.W.dataLt (k x) (k y))
  rw [Bool.not_not]
end
theorem rps_map {c : Ct} {w : Ws} {γ : Type} (f : γ → V) (g : γ → AV) : ∀ {l : List γ}, (∀ t ∈ l, Rp c w (f t) (g t)) → Rps c w (l.map f) (l.map g)
  | [], _ => .nil
  | t :: l, h => .cons (h t (List.mem_cons_self ..)) (rps_map f g fun s hs => h s (List.mem_cons_of_mem _ hs))
theorem sorted_rel {c : Ct} {w : Ws} {ts : List (V × AV × PyData)} (h : ∀ t ∈ ts, Rp c w t.1 t.2.1) (ha : PySem.W.AllAlike (ts.map fun t => t.2.2)) :
    Rps c w (((ts.map fun t => (t.1, t.2.2)).mergeSort (PySem.W.dataLe false Prod.snd)).map Prod.fst) ((sortK Prod.snd (ts.map Prod.snd)).map Prod.fst) := by
  rw [sortK_eq _ (by rw [List.map_map]; exact ha)]
  have e1 := PySem.W.sort_maps (r := PySem.W.dataLe false fun t : V × AV × PyData => t.2.2) (s := PySem.W.dataLe false Prod.snd) (fun t : V × AV × PyData => (t.1, t.2.2)) (l := ts) fun a _ b _ => rfl
  have e2 := PySem.W.sort_maps (r := PySem.W.dataLe false fun t : V × AV × PyData => t.2.2) (s := PySem.W.dataLe false Prod.snd) (Prod.snd : V × AV × PyData → AV × PyData) (l := ts) fun a _ b _ => rfl
  rw [← e1, ← e2, List.map_map, List.map_map]
  exact rps_map _ _ fun t ht => h t ((List.mergeSort_perm ts _).mem_iff.mp ht)
/-! ### what can be sorted -/
def kInts : List PyData → Bool
  | [] => true
  | .int _ :: r => kInts r
  | _ => false
def kStrs : List PyData → Bool
  | [] => true
  | .str _ :: r => kStrs r
  | _ => false
def kTup1 : List PyData → Bool
  | [] => true
  | .tuple (x :: xs) :: r => match shN (.tuple (x :: xs)) 60 with
    | true => match SoA.noL (.tuple (x :: xs)) with
      | true => kTup1 r
      | false => false
    | false => false
  | _ => false
def likeAll (d : PyData) : List PyData → Bool
  | [] => true
  | e :: r => match likeD d e with
    | true => likeAll d r
    | false => false
def likeEach (all : List PyData) : List PyData → Bool
  | [] => true
  | d :: r => match likeAll d all with
    | true => likeEach all r
    | false => false
def okKeys (ds : List PyData) : Bool := match kInts ds with
  | true => true
  | false => match kStrs ds with
    | true => true
    | false => match kTup1 ds with
      | true => likeEach ds ds
      | false => false
theorem likeAll_ok {d : PyData} : ∀ {l : List PyData}, likeAll d l = true → ∀ e ∈ l, PySem.W.alike d e = true
  | e :: r, h, z, hz => by
    unfold likeAll at h
    split at h
    · rename_i q
      rcases List.mem_cons.mp hz with y | y
      · rw [y, ← likeD_eq]; exact q
      · exact likeAll_ok h z y
    · cases h
theorem likeEach_ok {all : List PyData} : ∀ {l : List PyData}, likeEach all l = true → ∀ d ∈ l, ∀ e ∈ all, PySem.W.alike d e = true
  | d :: r, h, z, hz => by
    unfold likeEach at h
    split at h
    · rename_i q
      rcases List.mem_cons.mp hz with y | y
      · rw [y]; exact likeAll_ok q
      · exact likeEach_ok h z y
    · cases h
theorem kInts_ok : ∀ {l : List PyData}, kInts l = true → ∀ d ∈ l, ∃ i, d = .int i
  | d :: r, h, z, hz => by
    cases d with
    | int i =>
      rcases List.mem_cons.mp hz with y | y
      · exact ⟨i, y⟩
      · exact kInts_ok (l := r) h z y
    | _ => cases h
theorem kStrs_ok : ∀ {l : List PyData}, kStrs l = true → ∀ d ∈ l, ∃ i, d = .str i
  | d :: r, h, z, hz => by
    cases d with
    | str i =>
      rcases List.mem_cons.mp hz with y | y
      · exact ⟨i, y⟩
      · exact kStrs_ok (l := r) h z y
    | _ => cases h
theorem kTup1_ok : ∀ {l : List PyData}, kTup1 l = true → ∀ d ∈ l, (∃ x xs, d = .tuple (x :: xs)) ∧ shN d 60 = true ∧ SoA.noL d = true
  | d :: r, h, z, hz => by
    unfold kTup1 at h
    split at h
    · rename_i e; cases e
    · rename_i x xs r' e
      cases e
      split at h
      · rename_i h1
        split at h
        · rename_i h2
          rcases List.mem_cons.mp hz with y | y
          · rw [y]; exact ⟨⟨x, xs, rfl⟩, h1, h2⟩
          · exact kTup1_ok h z y
        · cases h
      · cases h
    · cases h
theorem okKeys_ok {ds : List PyData} (h : okKeys ds = true) : PySem.W.AllAlike ds ∧ PySem.W.Sortable ds ∧ ∀ d ∈ ds, SoA.noL d = true ∧ d.depth ≤ 60 := by
  unfold okKeys at h
  split at h
  · rename_i q
    have q := kInts_ok q
    refine ⟨fun d hd e he => ?_, .inr fun d hd => ?_, fun d hd => ?_⟩
    · obtain ⟨i, rfl⟩ := q d hd
      obtain ⟨j, rfl⟩ := q e he
      simp [PySem.W.alike]
    · obtain ⟨i, rfl⟩ := q d hd
      exact ⟨by simp, by simp⟩
    · obtain ⟨i, rfl⟩ := q d hd
      simp [SoA.noL, PyData.depth]
  · split at h
    · rename_i q
      have q := kStrs_ok q
      refine ⟨fun d hd e he => ?_, .inr fun d hd => ?_, fun d hd => ?_⟩
      · obtain ⟨i, rfl⟩ := q d hd
        obtain ⟨j, rfl⟩ := q e he
        simp [PySem.W.alike]
      · obtain ⟨i, rfl⟩ := q d hd
        exact ⟨by simp, by simp⟩
      · obtain ⟨i, rfl⟩ := q d hd
        simp [SoA.noL, PyData.depth]
    · split at h
      · rename_i q
        have q := kTup1_ok q
        have h := likeEach_ok h
        exact ⟨fun d hd e he => h d hd e he, .inl fun d hd => (q d hd).1, fun d hd => ⟨(q d hd).2.2, (shN_ok d 60 (q d hd).2.1).2⟩⟩
      · cases h
/-! ### sorted -/
def dkKeys : List (Key × AV) → List PyData
  | [] => []
  | (.inl i, _) :: r => .int i :: dkKeys r
  | (.inr s, _) :: r => .str s :: dkKeys r
/-- the items to be sorted -/
def itemsS (x : AV) (S : Store) : Option (List PyData) := match seqOf x S with
  | some xs => pures xs
  | none => match x with
    | .h n => match S[n]? with
      | some (.dk kvs) => some (dkKeys kvs)
      | _ => none
    | _ => none
def gSorted (mu : Bool) : OpN := fun xs S => match xs with
  | [x] => match itemsS x S with
    | some ds => match okKeys ds with
      | true => some (newL mu ((sortK (fun d => d) ds).map AV.p) S)
      | false => none
    | none => none
  | _ => none
theorem sortK_self (ds : List PyData) : ((sortK Prod.snd (ds.map fun d => (AV.p d, d))).map Prod.fst) = (sortK (fun d => d) ds).map AV.p := by
  unfold sortK
  have ins : ∀ (x : PyData) (l : List PyData), insB (fun a b : AV × PyData => ltD a.2 b.2) (AV.p x, x) (l.map fun d => (AV.p d, d)) = (insB (fun a b => ltD a b) x l).map fun d => (AV.p d, d) := by
    intro x l
    induction l with
    | nil => rfl
    | cons y ys ih =>
      simp only [List.map_cons, insB]
      rw [ih]
      cases ltD y x <;> rfl
  have : ∀ l : List PyData, isort (fun a b : AV × PyData => ltD a.2 b.2) (l.map fun d => (AV.p d, d)) = (isort (fun a b => ltD a b) l).map fun d => (AV.p d, d) := by
    intro l
    induction l with
    | nil => rfl
    | cons x xs ih =>
      simp only [List.map_cons, isort]
      rw [ih, ins]
  rw [this, List.map_map]
  rfl
theorem dk_items {c : Ct} {w : Ws} : ∀ {ks : List (Key × V)} {kvs : List (Key × AV)}, KVok c w ks kvs → Dvs c w.fz (ks.map fun p => kV p.1) (dkKeys kvs)
  | [], [], .nil => .nil
  | (k, v) :: ks, (k', x) :: kvs, .cons ⟨e, r⟩ t => by
    have e : k = k' := e
    subst e
    cases k with
    | inl i => exact .cons (.int i) (dk_items t)
    | inr s => exact .cons (.str s) (dk_items t)
theorem zip_ts {c : Ct} {w : Ws} : ∀ {vs : List V} {ds : List PyData}, Dvs c w.fz vs ds → ∃ ts : List (V × AV × PyData), ts.map (fun t => (t.1, t.2.2)) = vs.zip ds ∧ (ts.map fun t => (t.1, t.2.2)).map Prod.fst = vs ∧ (ts.map fun t => t.2.2) = ds ∧ ts.map Prod.snd = ds.map (fun d => (AV.p d, d)) ∧ (∀ t ∈ ts, Rp c w t.1 t.2.1 ∧ Dv c w.fz t.1 t.2.2)
  | [], [], .nil => ⟨[], rfl, rfl, rfl, rfl, fun _ h => nomatch h⟩
  | v :: vs, d :: ds, .cons r t => by
    obtain ⟨ts, e1, e2, e3, e4, h⟩ := zip_ts t
    refine ⟨(v, .p d, d) :: ts, by simp [e1], by simpa using e2, by simp [e3], by simp [e4], fun z hz => ?_⟩
    rcases List.mem_cons.mp hz with y | y
    · rw [y]; exact ⟨.p r, r⟩
    · exact h z y
section
variable {X : Cx} {W : XK} {pos : Pos}
theorem call_gSorted (mu : Bool) (hc : X.calm = true) (hu : X.A.units + 64 < cLine) : CallR X (.builtin "sorted") (rN X.K X.mg (gSorted mu)) :=
  CallR.imp (cr_sortA (dep := 60) hc (by omega)) fun vs H Q ⟨c, w, S, xs, z, S', hK, hM, k, r, e, q⟩ => by
    unfold gSorted at e
    split at e
    · rename_i x
      obtain ⟨v, rfl, rx⟩ := rps1 r
      split at e
      · rename_i ds hds
        split at e
        · rename_i hok
          have e := Option.some.inj e
          obtain ⟨o1, o2, o3⟩ := okKeys_ok hok
          have fin : ∀ (a : Addr) (us : List V), v = .ref a → Dvs c w.fz us ds → ∃ bs : List (V × PyData), bs.map Prod.fst = us ∧ (∀ b ∈ bs, Dp X.K H b.1 b.2) ∧ PySem.W.AllAlike (bs.map Prod.snd) ∧ PySem.W.Sortable (bs.map Prod.snd) ∧ (∀ b ∈ bs, b.2.depth ≤ 60) ∧
              ∀ p, H p = none → Q (.ref p) (upd H p (.lst ((bs.mergeSort (PySem.W.dataLe false Prod.snd)).map Prod.fst))) := fun a us ea hd => by
            obtain ⟨ts, e1, e2, e3, e4, ht⟩ := zip_ts hd
            have e3' : (ts.map fun t => (t.1, t.2.2)).map Prod.snd = ds := by rw [List.map_map]; exact e3
            refine ⟨ts.map fun t => (t.1, t.2.2), e2, fun b hb => ?_, by rw [e3']; exact o1, by rw [e3']; exact o2, fun b hb => ?_, fun p hp => ?_⟩
            · obtain ⟨t, ht', rfl⟩ := List.mem_map.mp hb
              exact hK ▸ (ht t ht').2.dp k.fz
            · obtain ⟨t, ht', rfl⟩ := List.mem_map.mp hb
              exact (o3 _ (by rw [← e3]; exact List.mem_map_of_mem (f := fun t : V × AV × PyData => t.2.2) ht')).2
            · refine post_lst mu k hp (sorted_rel (fun t ht' => (ht t ht').1) (by rw [e3]; exact o1)) ?_
              rw [e4, sortK_self, e]
              exact q
          unfold itemsS at hds
          split at hds
          · rename_i ys hy
            obtain ⟨a, us, rfl, h1, h2⟩ := rp_seqOf k hy rx
            obtain ⟨bs, b1, b2, b3, b4, b5, b6⟩ := fin a us rfl (dvs_of hds h2)
            refine ⟨a, bs, rfl, ?_, b2, b3, b4, b5, b6⟩
            rw [b1]
            rcases h1 with h1 | h1
            · exact .inl (hK ▸ h1)
            · exact .inr (.inl (hK ▸ h1))
          · split at hds
            · rename_i n
              split at hds
              · rename_i kvs hq
                cases hds
                cases rx with
                | @h _ a ha =>
                  obtain ⟨a', h1, _, ks, h3, h4⟩ := k.st _ _ hq
                  rw [ha] at h1
                  cases h1
                  obtain ⟨bs, b1, b2, b3, b4, b5, b6⟩ := fin a _ rfl (dk_items h4)
                  exact ⟨a, bs, rfl, .inr (.inr ⟨ks, h3, b1⟩), b2, b3, b4, b5, b6⟩
              · cases hds
            · cases hds
        · cases e
      · cases e
    · cases e
end
end RA

/-! RA15: sorted by first parts; names of the module; defs with pure arguments. -/
namespace RA
open PySem PySem.Spec L2
/-- the items with their first parts -/
def withFst : List AV → Option (List (AV × PyData))
  | [] => some []
  | x :: xs => match tupOf x with
    | some (.p d :: _) => match withFst xs with
      | some r => some ((x, d) :: r)
      | none => none
    | _ => none
def gSortFst (mu : Bool) (x : AV) (S : Store) : Option (AV × Store) := match seqL x S with
  | some xs => match withFst xs with
    | some ps => match okKeys (ps.map Prod.snd) with
      | true => some (newL mu ((sortK Prod.snd ps).map Prod.fst) S)
      | false => none
    | none => none
  | none => none
def eSortFst (mu : Bool) (f : XE) : XE := fun as S => (f as S).bind fun x S1 => Cm.of (gSortFst mu x S1)
theorem fst_ts {c : Ct} {w : Ws} {S : Store} {H : Hp} (k : Hok c w S H) : ∀ {xs : List AV} {vs : List V} {ps : List (AV × PyData)}, withFst xs = some ps → Rps c w vs xs → ∃ ts : List (V × AV × PyData), ts.map Prod.snd = ps ∧ (ts.map fun t => (t.1, t.2.2)).map Prod.fst = vs ∧
    ∀ t ∈ ts, Rp c w t.1 t.2.1 ∧ ∃ a ys v0, t.1 = .ref a ∧ SqT c.K H a ys ∧ ys[0]? = some v0 ∧ Dp c.K H v0 t.2.2
  | [], _, _, e, .nil => by cases e; exact ⟨[], rfl, rfl, fun _ h => nomatch h⟩
  | x :: xs, v :: vs, _, e, .cons r t => by
    unfold withFst at e
    split at e
    · rename_i d ys hx
      split at e
      · rename_i r' hr'
        cases e
        obtain ⟨ts, e1, e2, h⟩ := fst_ts k hr' t
        obtain ⟨a, us, rfl, h1, h2⟩ := rp_tupH k hx r
        cases h2 with
        | @cons v0 _ _ _ r0 _ =>
          refine ⟨(.ref a, x, d) :: ts, by simp [e1], by simpa using e2, fun z hz => ?_⟩
          rcases List.mem_cons.mp hz with y | y
          · rw [y]
            refine ⟨r, a, _, v0, rfl, h1, rfl, ?_⟩
            cases r0 with
            | p r0 => exact r0.dp k.fz
          · exact h z y
      · cases e
    · cases e
section
variable {X : Cx} {W : XK} {pos : Pos}
theorem ae_sortFst {x qual y nm : Str} {params : Arguments} {scope : Scope} {f : Addr} {fd : FuncData} {p1 p2 p3 p4 sp np kp : Pos} {j : Nat} {e : Expr} {fe : XE} (mu : Bool) (F : FunD X.K x qual params [.Return (some (.Subscript (.Name y p1) (.Constant (.int 0) j p2) p3)) p4] scope [] [] f fd)
    (S : FnScope [y] [y] scope) (hy : scope.names.lookup y = some .local) (hd : (y == ("__debug__" : Str)) = false) (hb : ∀ (s : Shared) (u : Value), BindsTo s fd ⟨[u], []⟩ [(y, u)]) (hr : Room 1 X.A) (hg : Gl X "sorted") (hm : X.mg "sorted" = none) (hgf : Gl X nm) (hmf : X.mg nm = some (.ref f)) (he : AE X W e fe)
    (hdn : (nm == ("__debug__" : Str)) = false := by decide) (hst : backTo pos (starEach [e] X.env) = (false, eval e X.env) :: backTo pos (starEach [] X.env) := by rfl) (hs1 : starEach [e] X.env = (false, eval e X.env) :: starEach [] X.env := by rfl) (hpl : (backTo pos (starEach [e] X.env)).any (·.1) = false := by rfl)
    (hall : (backToKw pos (keywordEach [⟨some (Str.ofString "key"), .Name nm np, kp⟩] X.env)).all (·.1.isSome) = true := by rfl) (hnone : (backToKw pos (keywordEach [⟨some (Str.ofString "key"), .Name nm np, kp⟩] X.env)).any (·.1.isNone) = false := by rfl) (hks : (backToKw pos (keywordEach [⟨some (Str.ofString "key"), .Name nm np, kp⟩] X.env)).filterMap (·.1) = [Str.ofString "key"] := by rfl) :
    AE X W (.Call (.Name "sorted" sp) [e] [⟨some (Str.ofString "key"), .Name nm np, kp⟩] pos) (eSortFst mu fe) := by
  have hu : X.A.units + 2 + 60 < cLine := by have := hr.units; omega
  refine pe_imp (pe_callBK (ks := [Str.ofString "key"]) (cr_sortFst F S hy hd hb hr hu) hg hm PyProof.Rows.boot_sorted (pa_cons he pa_nil hs1) (pk_cons (pe_glob hgf hmf (v := .ref f) rfl hdn) pk_nil) (by decide) (by decide) hst hpl hall hnone hks) fun σ H Q ⟨c, w, S, as, hK, hM, hk, he, h⟩ => ?_
  refine rd_step hK hM hk he h fun v H1 x w1 S1 e1 k1 he1 r1 h1 => ?_
  obtain ⟨z, S2, hz, q⟩ := h1.of
  show rSortFst X.K f 60 [v] [.ref f] H1 Q
  unfold gSortFst at hz
  split at hz
  · rename_i xs hx
    split at hz
    · rename_i ps hps
      split at hz
      · rename_i hok
        have hz := Option.some.inj hz
        obtain ⟨o1, o2, o3⟩ := okKeys_ok hok
        obtain ⟨a, us, rfl, h2, h3⟩ := rp_seqL k1 hx r1
        obtain ⟨ts, t1, t2, t3⟩ := fst_ts k1 hps h3
        have t4 : (ts.map fun t => (t.1, t.2.2)).map Prod.snd = ps.map Prod.snd := by
          rw [← t1, List.map_map, List.map_map]
          rfl
        have t5 : (ts.map fun t => t.2.2) = ps.map Prod.snd := by
          rw [← t1, List.map_map]
          rfl
        refine ⟨a, ts.map fun t => (t.1, t.2.2), rfl, rfl, by rw [t2]; exact .inl (.inl h2), fun b hb => ?_, by rw [t4]; exact o1, by rw [t4]; exact o2, fun b hb => ?_, fun p hp => ?_⟩
        · obtain ⟨t, ht, rfl⟩ := List.mem_map.mp hb
          obtain ⟨_, a', ys, v0, g1, g2, g3, g4⟩ := t3 t ht
          exact ⟨a', ys, v0, g1, hK ▸ g2, g3, hK ▸ g4⟩
        · obtain ⟨t, ht, rfl⟩ := List.mem_map.mp hb
          exact o3 _ (by rw [← t5]; exact List.mem_map_of_mem (f := fun t : V × AV × PyData => t.2.2) ht)
        · refine post_lst mu k1 hp (sorted_rel (fun t ht => (t3 t ht).1) (by rw [t5]; exact o1)) ?_
          rw [t1, hz]
          exact q
      · cases hz
    · cases hz
  · cases hz
/-! ### names of the module -/
theorem ae_glo {x : Str} {v : V} {u : Value} {d : PyData} (hg : Gl X x) (hm : X.mg x = some u) (r : RelV v u) (hd : ∀ c fz, c.K = X.K → c.mg = X.mg → Dv c fz v d) (hdb : (x == ("__debug__" : Str)) = false := by decide) : AE X W (.Name x pos) (eC d) :=
  pe_imp (pe_glob hg hm r hdb) fun σ H Q ⟨c, w, S, as, hK, hM, hk, he, h⟩ => h v w H (Ext.refl ..) hk (.p (hd _ _ hK hM))
/-- a def or a class as a value -/
def eFn (x : Str) : XE := fun _ S => .ret (.fn x) S
theorem ae_gfn {x : Str} {a : Addr} (hg : Gl X x) (hm : X.mg x = some (.ref a)) (hdb : (x == ("__debug__" : Str)) = false := by decide) : AE X W (.Name x pos) (eFn x) :=
  pe_imp (pe_glob hg hm (v := .ref a) rfl hdb) fun σ H Q ⟨c, w, S, as, hK, hM, hk, he, h⟩ => h (.ref a) w H (Ext.refl ..) hk (.fn (by rw [hM]; exact hm))
end
/-! ### defs whose arguments are data: a store of their own -/
def pureE (e : Ex) : Bool := e.fs.all fun p => match p.2 with | .p _ => true | _ => false
def boxC : Cm AV → Store → Cm AV
  | .ret (.p d) _, S => .ret (.p d) S
  | .ret _ _, _ => .stuck
  | .exn e _, S => match pureE e with
    | true => .exn e S
    | false => .stuck
  | .roll _ _, _ => .stuck
  | .stuck, _ => .stuck
def allP : List AV → Bool
  | [] => true
  | .p _ :: r => allP r
  | _ => false
def box (m : Mf) : Mf := fun xs S => match allP xs with
  | true => boxC (m xs []) S
  | false => m xs S
mutual
theorem Dv.ct {c c' : Ct} {fz : Hp} (hK : c.K = c'.K) (hM : c.mg = c'.mg) : ∀ {v : V} (d : PyData), Dv c fz v d → Dv c' fz v d
  | _, .none, r => by cases r; exact .non
  | _, .bool _, r => by cases r; exact .bl _
  | _, .int _, r => by cases r; exact .int _
  | _, .str _, r => by cases r; exact .str _
  | _, .list ds, r => by
    cases r with
    | lst a b => exact .lst a (Dvs.ct hK hM ds b)
  | _, .tuple ds, r => by
    cases r with
    | tup a b => exact .tup a (Dvs.ct hK hM ds b)
    | ktup z a b => exact .ktup (by rw [show c'.kk = c.kk by unfold Ct.kk; rw [hM]]; exact z) (hK ▸ a) (Dvs.ct hK hM ds b)
  | _, .dict _, r => by cases r
theorem Dvs.ct {c c' : Ct} {fz : Hp} (hK : c.K = c'.K) (hM : c.mg = c'.mg) : ∀ {vs : List V} (ds : List PyData), Dvs c fz vs ds → Dvs c' fz vs ds
  | _, [], r => by cases r; exact .nil
  | _, d :: ds, r => by
    cases r with
    | cons a b => exact .cons (Dv.ct hK hM d a) (Dvs.ct hK hM ds b)
end
theorem rps_ct {c c' : Ct} {w w' : Ws} (hK : c.K = c'.K) (hM : c.mg = c'.mg) (hf : w.fz = w'.fz) : ∀ {vs : List V} {xs : List AV}, allP xs = true → Rps c w vs xs → Rps c' w' vs xs
  | _, [], _, .nil => .nil
  | _, .p d :: xs, h, .cons (.p r) t => .cons (.p (hf ▸ Dv.ct hK hM d r)) (rps_ct hK hM hf (xs := xs) h t)
theorem kv_ct {c c' : Ct} {w w' : Ws} {κ : Type} (hK : c.K = c'.K) (hM : c.mg = c'.mg) (hf : w.fz = w'.fz) : ∀ {ks : List (κ × V)} {fs : List (κ × AV)}, (fs.all fun p => match p.2 with | .p _ => true | _ => false) = true → KVok c w ks fs → KVok c' w' ks fs
  | [], [], _, .nil => .nil
  | (k, v) :: ks, (k', x) :: fs, h, .cons ⟨e, r⟩ t => by
    rw [List.all_cons, Bool.and_eq_true] at h
    cases x with
    | p d =>
      cases r with
      | p r => exact .cons ⟨e, .p (hf ▸ Dv.ct hK hM d r)⟩ (kv_ct hK hM hf h.2 t)
    | _ => exact absurd h.1 (by simp)
/-- back into the store around -/
theorem box_back {c : Ct} {w w' : Ws} {S S' : Store} {H H' : Hp} (k : Hok c w S H) (e : Ext { c with cu := none } ⟨w.fz, []⟩ H w' H') (k' : Hok { c with cu := none } w' S' H') : Ext c w H ⟨w'.fz, w.ad⟩ H' ∧ Hok c ⟨w'.fz, w.ad⟩ S H' := by
  have keep : ∀ b o, H b = some o → H' b = some o := fun b o h => e.fr b o h (List.not_mem_nil) (fun z => by cases z)
  have l : WsLe w ⟨w'.fz, w.ad⟩ := ⟨e.fz, fun _ _ h => h⟩
  have none' : ∀ a, w.fz a = none → H a ≠ none → w'.fz a = none := fun a h1 h2 => by
    cases q : w'.fz a with
    | none => rfl
    | some u => exact absurd (e.nf a u q h1) h2
  refine ⟨⟨e.fz, ⟨[], by simp, fun _ h => nomatch h⟩, fun b o h _ _ => keep b o h, e.nf, e.kp⟩, ⟨k'.fz, fun i o q => ?_, k.len, k.nd, fun a q => ?_⟩⟩
  · obtain ⟨a, h1, h2, h3⟩ := k.st i o q
    obtain ⟨u, hu, _⟩ := h3.there
    exact ⟨a, h1, none' a h2 (by rw [hu]; simp), h3.keep l (fun u h => keep a u h) fun b h => keep b _ h⟩
  · obtain ⟨h1, h2, h3⟩ := k.cu a q
    refine ⟨none' a h1 ?_, h2, h3.keep fun o h => keep a o h⟩
    obtain ⟨_, _, h, _⟩ := h3
    rw [h]; simp
theorem box_ok {K : PySem.W.Frag} {mg : Str → Option Value} {m : Mf} {vs : List V} {H : Hp} {Q : VK} {E : XK} (h : spA K mg (box m) vs H Q E) : spA K mg m vs H Q E := by
  obtain ⟨c, w, S, xs, hK, hM, k, r, h⟩ := h
  unfold box at h
  split at h
  · rename_i hp
    have k0 : Hok { c with cu := none } ⟨w.fz, []⟩ [] H := ⟨k.fz, fun i o q => by simp at q, rfl, List.nodup_nil, fun a q => by cases q⟩
    refine ⟨{ c with cu := none }, ⟨w.fz, []⟩, [], xs, hK, hM, k0, rps_ct (c := c) (c' := { c with cu := none }) (w := w) (w' := ⟨w.fz, []⟩) rfl rfl rfl hp r, ?_⟩
    generalize hg : m xs [] = g at h
    cases g with
    | ret a S' =>
      cases a with
      | p d =>
        intro v w' H' e k' rv
        obtain ⟨e2, k2⟩ := box_back k e k'
        refine h v _ H' e2 k2 ?_
        cases rv with
        | p rv => exact .p (Dv.ct (c := { c with cu := none }) (c' := c) rfl rfl d rv)
      | _ => exact h.elim
    | exn ex S' =>
      have h : (match pureE ex with
        | true => Cm.exn (α := AV) ex S
        | false => .stuck).All (Post c w H Q) (PostX c w H E) := h
      split at h
      · rename_i hx
        intro cls d w' H' e k' ⟨Ca, g1, g2, g3⟩
        obtain ⟨e2, k2⟩ := box_back k e k'
        refine h cls d _ H' e2 k2 ⟨Ca, g1, g2, ?_⟩
        rcases g3 with g3 | ⟨dd, ks, g3, g4, g5⟩
        · exact .inl g3
        · exact .inr ⟨dd, ks, g3, g4, kv_ct (c := { c with cu := none }) (c' := c) (w := w') (w' := ⟨w'.fz, w.ad⟩) rfl rfl rfl hx g5⟩
      · exact h.elim
    | roll n f => exact h.elim
    | stuck => exact h.elim
  · exact ⟨c, w, S, xs, hK, hM, k, r, h⟩
theorem FnA.box {P : Program} {w : World} {K : PySem.W.Frag} {mg : Str → Option Value} {base : Heap} {k : Nat} {x : Str} {m : Mf} (h : FnA P w K mg base k x m) : FnA P w K mg base k x (box m) := by
  obtain ⟨f, fd, ps, h1, h2, h3, h4⟩ := h
  exact ⟨f, fd, ps, h1, h2.imp fun vs H Q E => box_ok, h3, h4⟩
end RA

/-! RA16: dict comprehensions. -/
namespace RA
open PySem PySem.Spec L2
section
variable {X : Cx} {W : XK} {pos : Pos}
/-- the pairs put, one after another -/
def dcompL (p : Pat) (t : XT) (ek ev : XE) (as : Env) : List AV → List (Key × AV) → Store → Cm (List (Key × AV))
  | [], acc, S => .ret acc S
  | z :: zs, acc, S => match patE p z as with
    | some as1 => (t as1 S).bind fun b S1 => match b with
      | true => (ek as1 S1).bind fun y S2 => (ev as1 S2).bind fun u S3 => match keyK y with
        | some k => match okLen (acc.length + 1) with
          | true => dcompL p t ek ev as zs (putA keyB acc k u) S3
          | false => .stuck
        | none => .stuck
      | false => dcompL p t ek ev as zs acc S1
    | none => .stuck
def eDComp (vs : List Nat) (f : XI) (p : Pat) (t : XT) (ek ev : XE) : XE := fun as S => (f as S).bind fun v S1 => match v with
  | .fz xs => (dcompL p t ek ev (wipeE as vs) xs [] S1).calm.bind fun kvs S2 => .ret (.h S2.length) (S2 ++ [.dk kvs])
  | .mu _ _ => .stuck
theorem dcomp_imp {vs : List Nat} {f : XI} {p : Pat} {t : XT} {ek ev : XE} {σ : L2.St} {H : Hp} {Q : VK} (hp : patIn vs p = true) (h : tE X.K X.mg W (eDComp vs f p t ek ev) σ H Q) : tDc (tI X.K X.mg W f) (gPat X.K p) (tT X.K X.mg E0 t) (tE X.K X.mg E0 ek) (tE X.K X.mg E0 ev) vs σ H Q := by
  obtain ⟨c, w0, S0, as, hK, hM, hk0, he0, h⟩ := h
  refine ⟨c, w0, S0, as, hK, hM, hk0, he0, h.bind.mono (fun v S1 q J w1 H1 e1 k1 hJ D hD => ?_) fun _ _ q => q⟩
  cases v with
  | mu n en => exact q.elim
  | fz xs =>
    have q : (dcompL p t ek ev (wipeE as vs) xs [] S1).All (fun (kvs : List (Key × AV)) (S2 : Store) => Post c w1 H1 Q (AV.h S2.length) (S2 ++ [MO.dk kvs])) (fun _ _ => False) := Cm.All.calm (Cm.All.mono (fun _ _ z => PostG.mono e1 z) (fun _ _ z => z) (Cm.All.bind q))
    have k1' : Hok c w1 S1 (upd H1 D (.dK [])) := k1.other (Apart.new k1 hD) fun x z => by rw [hD] at z; cases z
    have he1 : EnvOk c w1 (wipeE as vs) (L2.wipe σ vs) := (he0.le e1.le).wipe vs
    refine ⟨fun i m H => i ≤ xs.length ∧ m = xs.length - i ∧ ∃ w S acc xacc, Ext c w1 H1 w H ∧ Hok c w S H ∧ Apart c w D ∧ H D = some (.dK acc) ∧ KVok c w acc xacc ∧ (dcompL p t ek ev (wipeE as vs) (xs.drop i) xacc S).All (fun (kvs : List (Key × AV)) (S2 : Store) => Post c w1 H1 Q (AV.h S2.length) (S2 ++ [MO.dk kvs])) (fun _ _ => False),
      ⟨xs.length, Nat.zero_le _, by simp, w1, S1, [], [], (Ext.refl ..).other hD, k1', Apart.new k1 hD, upd_same, .nil, by rw [List.drop_zero]; exact q⟩, ?_⟩
    rintro i m H ⟨hi, rfl, w, S, acc, xacc, e2, k2, a2, hD2, r2, h2⟩
    obtain ⟨st, go⟩ := hJ w S H e2 k2 xs rfl i
    cases hx : xs[i]? with
    | none =>
      rw [List.drop_eq_nil_of_le (get_of hx)] at h2
      have h2 : Post c w1 H1 Q (AV.h S.length) (S ++ [MO.dk xacc]) := h2
      exact .inl ⟨st hx, adoptM (m := .dk xacc) e2 k2 a2 hD ⟨acc, hD2, r2.le (WsLe.addH _ _)⟩ h2⟩
    | some z =>
      have hlt : i < xs.length := (List.getElem?_eq_some_iff.mp hx).1
      rw [List.drop_eq_getElem_cons hlt, (List.getElem?_eq_some_iff.mp hx).2] at h2
      obtain ⟨go, yl⟩ := go z hx
      refine .inr ⟨go, fun H' => i + 1 ≤ xs.length ∧ ∃ w S acc xacc, Ext c w1 H1 w H' ∧ Hok c w S H' ∧ Apart c w D ∧ H' D = some (.dK acc) ∧ KVok c w acc xacc ∧ (dcompL p t ek ev (wipeE as vs) (xs.drop (i + 1)) xacc S).All (fun (kvs : List (Key × AV)) (S2 : Store) => Post c w1 H1 Q (AV.h S2.length) (S2 ++ [MO.dk kvs])) (fun _ _ => False),
        fun H' ⟨b1, b2⟩ => ⟨xs.length - (i + 1), by omega, b1, rfl, b2⟩, fun x H' y => ?_⟩
      obtain ⟨w', e3, k3, r3⟩ := yl x H' y
      obtain ⟨a3, hD3⟩ := a2.ext hD2 e3
      have he3 := he1.le (e2.trans e3).le
      have h2 : (match patE p z (wipeE as vs) with
        | some as1 => (t as1 S).bind fun b S1 => (match b with
          | true => (ek as1 S1).bind fun y S2 => (ev as1 S2).bind fun u S3 => (match keyK y with
            | some k => (match okLen (xacc.length + 1) with
              | true => dcompL p t ek ev (wipeE as vs) (xs.drop (i + 1)) (putA keyB xacc k u) S3
              | false => .stuck)
            | none => .stuck)
          | false => dcompL p t ek ev (wipeE as vs) (xs.drop (i + 1)) xacc S1)
        | none => .stuck).All (fun (kvs : List (Key × AV)) (S2 : Store) => Post c w1 H1 Q (AV.h S2.length) (S2 ++ [MO.dk kvs])) (fun _ _ => False) := h2
      cases q2 : patE p z (wipeE as vs) with
      | none => rw [q2] at h2; exact h2.elim
      | some as1 =>
        rw [q2] at h2
        refine pat_ok hK k3 p he3 r3 q2 hp fun σ2 he4 hw => ⟨hw.trans (wipe_idem vs), ?_⟩
        refine rd_step0 hK hM k3 he4 h2 fun b H4 b' w4 S4 e4 k4 he5 r4 h4 => ?_
        cases r4
        obtain ⟨a4, hD4⟩ := a3.ext hD3 e4
        cases b with
        | false =>
          rw [if_neg Bool.false_ne_true]
          exact ⟨hlt, w4, S4, acc, xacc, (e2.trans e3).trans e4, k4, a4, hD4, r2.le (e3.trans e4).le, h4⟩
        | true =>
          rw [if_pos rfl]
          refine rd_step0 hK hM k4 he5 h4 fun y H5 y' w5 S5 e5 k5 he6 r5 h5 => ?_
          refine rd_step0 hK hM k5 he6 h5 fun u H6 u' w6 S6 e6 k6 he7 r6 h6 => ?_
          obtain ⟨a6, hD6⟩ := a4.ext hD4 (e5.trans e6)
          cases hk : keyK y' with
          | none => rw [hk] at h6; exact h6.elim
          | some kk =>
            rw [hk] at h6
            dsimp only at h6
            cases hl : okLen (xacc.length + 1) with
            | false => rw [hl] at h6; exact h6.elim
            | true =>
              rw [hl] at h6
              have rr := r2.le (((e3.trans e4).trans e5).trans e6).le
              have e7 := ((((e2.trans e3).trans e4).trans e5).trans e6)
              exact ⟨acc, kk, rp_keyK hk r5, hD6, by rw [rr.length]; exact lt_line hl, hlt, w6, S6, _, _, e7.other hD, k6.other a6 (fun x z => by rw [hD6] at z; cases z), a6, upd_same, putA_ok keyB_eq rr kk r6, h6⟩
theorem ae_dcomp {ekx evx tg iter : Expr} {ifs : List Expr} {scope : Scope} {own : List (Str × Nat)} {f : XI} {p : Pat} {t : XT} {ek ev : XE} (hc : X.calm = true) (hN : X.N.Nodup) (hi : AI X W tg iter f) (ok : BlkOk X.N X.env.scope scope own) (hp : patIn (own.map (·.2)) p = true)
    (hg : ∀ (s : Shared) (H : Hp) (C : Addr) (cl : List (Str × Addr)) (fp : List Addr), AP (X.blk s H scope (compEnvC scope cl C X.env) fp) tg p) (ht : ∀ (s : Shared) (H : Hp) (C : Addr) (cl : List (Str × Addr)) (fp : List Addr), PTs (X.blk s H scope (compEnvC scope cl C X.env) fp) ifs (tT X.K X.mg E0 t))
    (hk : ∀ (s : Shared) (H : Hp) (C : Addr) (cl : List (Str × Addr)) (fp : List Addr), AE (X.blk s H scope (compEnvC scope cl C X.env) fp) E0 ekx ek)
    (he : ∀ (s : Shared) (H : Hp) (C : Addr) (cl : List (Str × Addr)) (fp : List Addr), AE (X.blk s H scope (compEnvC scope cl C X.env) fp) E0 evx ev) (hs : ∀ x, foldedSetIterable iter X.env x = pure x := by intro _; rfl) :
    AE X W (.DictComp ekx evx [⟨tg, iter, ifs, 0⟩] scope pos) (eDComp (own.map (·.2)) f p t ek ev) :=
  pe_imp (pe_dc hc hN hi ok hg ht hk he hs) fun _ _ _ h => dcomp_imp hp h
end
end RA

/-! RA17: short words for what is printed. -/
namespace RA
open PySem PySem.Spec L2
/-- what a body's surroundings give -/
structure Cn (X : Cx) (W : XK) (k : Nat) : Prop where
  hr : Room k X.A
  tk : Takes X (K0 W)
  calm : X.calm = true
  kk : kkOf X.mg = false
  nd : X.N.Nodup
  ps : PassesOwn (model X.prog X.w) X.A X.env X.xe
/-- a constant of the module -/
def Cst (K : PySem.W.Frag) (mg : Str → Option Value) (x : Str) (d : PyData) : Prop := ∃ v u, mg x = some u ∧ RelV v u ∧ ∀ c fz, c.K = K → c.mg = mg → Dv c fz v d
section
variable {X : Cx} {W : XK} {k j : Nat} {pos p p2 p3 apos cpos tpos : Pos} {e o a b : Expr} {es : List Expr} {fa fb fo fe : XE} {ga : XA} {x y : Str}
theorem Cn.u64 (C : Cn X W k) : X.A.units + 64 < cLine := C.hr.units
theorem Cn.u65 (C : Cn X W k) : X.A.units + 65 < cLine := by have := C.hr.un; omega
theorem Cn.u1 (C : Cn X W k) : X.A.units + 1 < cLine := by have := C.hr.un; omega
theorem Cn.blk (C : Cn X W k) (s : Shared) (H : Hp) (scope : Scope) (cenv : PySem.Env) (fp : List Addr) : Cn (X.blk s H scope cenv fp) E0 k :=
  ⟨C.hr, takes0, C.calm, C.kk, C.nd, PassesOwn.never⟩
theorem Cn.mk0 {P : Program} {w : World} {K : PySem.W.Frag} {mg : Str → Option Value} {base : Heap} {N : List Str} {qual : Str} {scope : Scope} {f : Addr} {cdv : Value} {A : Around} {outer : List PySem.Env} {s : Shared} {H : Hp} {E : XK}
    (hr : Room k (A.deeper (PyProof.Rows.envOfC qual scope s.heap.objs.size f cdv))) (tk : Takes (cxOf (CX P w) P w K mg base N qual scope f cdv A outer s H E) (K0 E)) (hkk : kkOf mg = false) (nd : N.Nodup) : Cn (cxOf (CX P w) P w K mg base N qual scope f cdv A outer s H E) E k :=
  ⟨hr, tk, rfl, hkk, nd, passes_of rfl⟩
theorem vr (i : Nat) (hN : X.N[i]? = some x := by rfl) (hv : Vis X.env.scope x := by first | exact Or.inl rfl | exact Or.inr (Or.inl rfl) | exact Or.inr (Or.inr rfl)) (hd : (x == ("__debug__" : Str)) = false := by decide) (hcd : (x == ("__classdict__" : Str)) = false := by decide) : AE X W (.Name x pos) (eVar i) :=
  ae_var i (pe_var hN hv hd hcd)
theorem gl {d : PyData} (h : Cst X.K X.mg x d) (hg : Gl X x := by rfl) (hdb : (x == ("__debug__" : Str)) = false := by decide) : AE X W (.Name x pos) (eC d) := by
  obtain ⟨v, u, h1, h2, h3⟩ := h
  exact ae_glo hg h1 h2 h3 hdb
theorem gfn (h : ∃ a, X.mg x = some (.ref a)) (hg : Gl X x := by rfl) (hdb : (x == ("__debug__" : Str)) = false := by decide) : AE X W (.Name x pos) (eFn x) := by
  obtain ⟨a, h⟩ := h
  exact ae_gfn hg h hdb
theorem cmpEq (C : Cn X W k) (ha : AE X W a fa) (hb : AE X W b fb) : AE X W (.Compare a [.Eq] [b] pos) (e2 (gEq false) fa fb) := ae_cmp (op_gEq C.u64) ha hb (nomark _)
theorem cmpNe (C : Cn X W k) (ha : AE X W a fa) (hb : AE X W b fb) : AE X W (.Compare a [.NotEq] [b] pos) (e2 (gEq true) fa fb) := ae_cmp (op_gNe C.u64) ha hb (nomark _)
theorem cmpIn (C : Cn X W k) (ha : AE X W a fa) (hb : AE X W b fb) (hm : behindInMarks .In b = false := by with_unfolding_all rfl) : AE X W (.Compare a [.In] [b] pos) (e2 (gIn false) fa fb) := ae_cmp (op_gIn C.kk C.u65) ha hb hm
theorem cmpNin (C : Cn X W k) (ha : AE X W a fa) (hb : AE X W b fb) (hm : behindInMarks .NotIn b = false := by with_unfolding_all rfl) : AE X W (.Compare a [.NotIn] [b] pos) (e2 (gIn true) fa fb) := ae_cmp (op_gNotIn C.kk C.u65) ha hb hm
theorem cmpO {op : CmpOp} {g : Op2} (ho : OpR X (compareOp op) (rB X.K X.mg g)) (ha : AE X W a fa) (hb : AE X W b fb) (h1 : op ≠ .In := by decide) (h2 : op ≠ .NotIn := by decide) : AE X W (.Compare a [op] [b] pos) (e2 g fa fb) := ae_cmp ho ha hb (nomark _ h1 h2)
theorem tstEq (C : Cn X W k) (ha : AE X W a fa) (hb : AE X W b fb) : AT X W (.Compare a [.Eq] [b] pos) (toT (e2 (gEq false) fa fb)) := at_cmp (op_gEq C.u64) ha hb (nomark _)
theorem tstNe (C : Cn X W k) (ha : AE X W a fa) (hb : AE X W b fb) : AT X W (.Compare a [.NotEq] [b] pos) (toT (e2 (gEq true) fa fb)) := at_cmp (op_gNe C.u64) ha hb (nomark _)
theorem tstIn (C : Cn X W k) (ha : AE X W a fa) (hb : AE X W b fb) (hm : behindInMarks .In b = false := by with_unfolding_all rfl) : AT X W (.Compare a [.In] [b] pos) (toT (e2 (gIn false) fa fb)) := at_cmp (op_gIn C.kk C.u65) ha hb hm
theorem tstNin (C : Cn X W k) (ha : AE X W a fa) (hb : AE X W b fb) (hm : behindInMarks .NotIn b = false := by with_unfolding_all rfl) : AT X W (.Compare a [.NotIn] [b] pos) (toT (e2 (gIn true) fa fb)) := at_cmp (op_gNotIn C.kk C.u65) ha hb hm
theorem tstO {op : CmpOp} {g : Op2} (ho : OpR X (compareOp op) (rB X.K X.mg g)) (ha : AE X W a fa) (hb : AE X W b fb) (h1 : op ≠ .In := by decide) (h2 : op ≠ .NotIn := by decide) : AT X W (.Compare a [op] [b] pos) (toT (e2 g fa fb)) := at_cmp ho ha hb (nomark _ h1 h2)
theorem ix (C : Cn X W k) (ha : AE X W a fa) (hb : AE X W b fb) (hs : PlainIx b := by intro _ _; rfl) : AE X W (.Subscript a b pos) (e2 gIx fa fb) := ae_ix C.kk C.u1 ha hb hs
theorem cl {m : Mf} (C : Cn X W k) (F : FnA X.prog X.w X.K X.mg X.base j x m) (ha : AA X W (e :: es) ga) (hj : j ≤ k := by decide) (hg : Gl X x := by rfl) (hdb : (x == ("__debug__" : Str)) = false := by decide)
    (he : starEach (e :: es) X.env = (false, eval e X.env) :: starEach es X.env := by rfl) (hpl : (backTo pos (starEach es X.env)).any (·.1) = false := by rfl) : AE X W (.Call (.Name x p) (e :: es) [] pos) (eCall m ga) := ae_call (F.mono hj) C.hr C.tk hg ha hdb he hpl
theorem cl0 {m : Mf} (C : Cn X W k) (F : FnA X.prog X.w X.K X.mg X.base j x m) (hj : j ≤ k := by decide) (hg : Gl X x := by rfl) (hdb : (x == ("__debug__" : Str)) = false := by decide) : AE X W (.Call (.Name x p) [] [] pos) (eCall m aNil) := ae_call0 (F.mono hj) C.hr C.tk hg hdb
theorem get2 (C : Cn X W k) (ho : AE X W o fo) (he : AE X W a fa) (hf : AE X W b fb) (m : M2 X o "get" apos a b cpos := by exact ⟨rfl, rfl, rfl, rfl⟩) : AE X W (.Call (.Attribute o "get" apos) [a, b] [] cpos) (eGet2 fo fa fb) := ae_get2 C.kk C.u1 ho he hf m
/-! built-ins -/
theorem bLen (hm : X.mg "len" = none) (ha : AA X W (e :: es) ga) (hg : Gl X "len" := by rfl) (h1 : starEach (e :: es) X.env = (false, eval e X.env) :: starEach es X.env := by rfl) (h2 : (backTo pos (starEach es X.env)).any (·.1) = false := by rfl) : AE X W (.Call (.Name "len" p) (e :: es) [] pos) (eN gLen ga) :=
  ae_fn call_gLen hg hm boot_len ha (by decide) (by decide) h1 h2
theorem bSum (C : Cn X W k) (hm : X.mg "sum" = none) (ha : AA X W (e :: es) ga) (hg : Gl X "sum" := by rfl) (h1 : starEach (e :: es) X.env = (false, eval e X.env) :: starEach es X.env := by rfl) (h2 : (backTo pos (starEach es X.env)).any (·.1) = false := by rfl) : AE X W (.Call (.Name "sum" p) (e :: es) [] pos) (eN gSum ga) :=
  ae_fn (call_gSum C.calm) hg hm PyProof.Rows.boot_sum ha (by decide) (by decide) h1 h2
theorem bAll (C : Cn X W k) (hm : X.mg "all" = none) (ha : AA X W (e :: es) ga) (hg : Gl X "all" := by rfl) (h1 : starEach (e :: es) X.env = (false, eval e X.env) :: starEach es X.env := by rfl) (h2 : (backTo pos (starEach es X.env)).any (·.1) = false := by rfl) : AE X W (.Call (.Name "all" p) (e :: es) [] pos) (eN gAll ga) :=
  ae_fn (call_gAll C.calm) hg hm PyProof.Rows.boot_all ha (by decide) (by decide) h1 h2
theorem bAbs (hm : X.mg "abs" = none) (ha : AA X W (e :: es) ga) (hg : Gl X "abs" := by rfl) (h1 : starEach (e :: es) X.env = (false, eval e X.env) :: starEach es X.env := by rfl) (h2 : (backTo pos (starEach es X.env)).any (·.1) = false := by rfl) : AE X W (.Call (.Name "abs" p) (e :: es) [] pos) (eN gAbs ga) :=
  ae_fn call_gAbs hg hm PyProof.Rows.boot_abs ha (by decide) (by decide) h1 h2
theorem bMax (C : Cn X W k) (hm : X.mg "max" = none) (ha : AA X W (e :: es) ga) (hg : Gl X "max" := by rfl) (h1 : starEach (e :: es) X.env = (false, eval e X.env) :: starEach es X.env := by rfl) (h2 : (backTo pos (starEach es X.env)).any (·.1) = false := by rfl) : AE X W (.Call (.Name "max" p) (e :: es) [] pos) (eN gMax ga) :=
  ae_fn (call_gMax C.calm) hg hm PyProof.Rows.boot_max ha (by decide) (by decide) h1 h2
theorem bMin (C : Cn X W k) (hm : X.mg "min" = none) (ha : AA X W (e :: es) ga) (hg : Gl X "min" := by rfl) (h1 : starEach (e :: es) X.env = (false, eval e X.env) :: starEach es X.env := by rfl) (h2 : (backTo pos (starEach es X.env)).any (·.1) = false := by rfl) : AE X W (.Call (.Name "min" p) (e :: es) [] pos) (eN gMin ga) :=
  ae_fn (call_gMin C.calm) hg hm PyProof.Rows.boot_min ha (by decide) (by decide) h1 h2
theorem bSorted (mu : Bool) (C : Cn X W k) (hm : X.mg "sorted" = none) (ha : AA X W (e :: es) ga) (hg : Gl X "sorted" := by rfl) (h1 : starEach (e :: es) X.env = (false, eval e X.env) :: starEach es X.env := by rfl) (h2 : (backTo pos (starEach es X.env)).any (·.1) = false := by rfl) : AE X W (.Call (.Name "sorted" p) (e :: es) [] pos) (eN (gSorted mu) ga) :=
  ae_fn (call_gSorted mu C.calm C.u64) hg hm PyProof.Rows.boot_sorted ha (by decide) (by decide) h1 h2
theorem bTuple (hm : X.mg "tuple" = none) (ha : AA X W (e :: es) ga) (hg : Gl X "tuple" := by rfl) (h1 : starEach (e :: es) X.env = (false, eval e X.env) :: starEach es X.env := by rfl) (h2 : (backTo pos (starEach es X.env)).any (·.1) = false := by rfl) : AE X W (.Call (.Name "tuple" p) (e :: es) [] pos) (eN gTuple ga) :=
  ae_ty call_gTuple hg hm PyProof.Rows.boot_tuple ha (by decide) (by decide) h1 h2
theorem bList (mu : Bool) (hm : X.mg "list" = none) (ha : AA X W (e :: es) ga) (hg : Gl X "list" := by rfl) (h1 : starEach (e :: es) X.env = (false, eval e X.env) :: starEach es X.env := by rfl) (h2 : (backTo pos (starEach es X.env)).any (·.1) = false := by rfl) : AE X W (.Call (.Name "list" p) (e :: es) [] pos) (eN (gList mu) ga) :=
  ae_ty (call_gList mu) hg hm PyProof.Rows.boot_list ha (by decide) (by decide) h1 h2
theorem bInt (hm : X.mg "int" = none) (ha : AA X W (e :: es) ga) (hg : Gl X "int" := by rfl) (h1 : starEach (e :: es) X.env = (false, eval e X.env) :: starEach es X.env := by rfl) (h2 : (backTo pos (starEach es X.env)).any (·.1) = false := by rfl) : AE X W (.Call (.Name "int" p) (e :: es) [] pos) (eN gInt1 ga) :=
  ae_ty call_gInt1 hg hm PyProof.Rows.boot_int ha (by decide) (by decide) h1 h2
theorem tyE (t : Tg) {x : Str} (hm : X.mg x = none) (hv : bootBuiltins x = some (.type t.nm)) (hg : Gl X x := by rfl) (hn : x ≠ "__name__" := by decide) (hd : (x == ("__debug__" : Str)) = false := by decide) : PE X (.Name x pos) (tC (.ty t.nm)) := pe_bltn hg hm hv rfl hn hd
theorem isi (t : Tg) (hm : X.mg "isinstance" = none) (ha : AE X W e fa) (hT : PE X b (tC (.ty t.nm))) (hg : Gl X "isinstance" := by rfl)
    (s1 : starEach [e, b] X.env = (false, eval e X.env) :: starEach [b] X.env := by rfl) (s2 : starEach [b] X.env = (false, eval b X.env) :: starEach [] X.env := by rfl) (h2 : (backTo pos (starEach [b] X.env)).any (·.1) = false := by rfl) : AE X W (.Call (.Name "isinstance" p) [e, b] [] pos) (eIsi t fa) :=
  ae_isi t hg hm PyProof.Rows.boot_isinstance ha hT (by decide) (by decide) s1 s2 h2
/-! targets, statements -/
theorem gN (C : Cn X W k) (i : Nat) (hi : X.N[i]? = some x := by rfl) (hx : Loc X.env.scope x := by first | exact Or.inl rfl | exact Or.inr rfl) (hf : X.fn x = true ∨ X.env.scope.names.lookup x = some .local := by first | exact .inl rfl | exact .inr rfl) : AG X W (.Name x pos) (gNm i) := ag_name i (pg_name C.nd hi hx hf)
theorem pN (C : Cn X W k) (i : Nat) (hi : X.N[i]? = some x := by rfl) (hx : Loc X.env.scope x := by first | exact Or.inl rfl | exact Or.inr rfl) (hf : X.fn x = true ∨ X.env.scope.names.lookup x = some .local := by first | exact .inl rfl | exact .inr rfl) : AP X (.Name x pos) (.nm i) := ap_nm i (pg_name C.nd hi hx hf)
theorem st (C : Cn X W k) (i : Nat) (he : AE X W e fe) (hi : X.N[i]? = some x := by rfl) (hx : Loc X.env.scope x := by first | exact Or.inl rfl | exact Or.inr rfl) (hs : swapsWith e (some (.Name x p)) pos.line X.env = pure false := by rfl) (hf : X.fn x = true ∨ X.env.scope.names.lookup x = some .local := by first | exact .inl rfl | exact .inr rfl) :
    AS X W (.Assign [.Name x p] e pos) (sSet i fe) := as_set (ps_set C.nd hi hx he hs hf)
theorem par (C : Cn X W k) (i l : Nat) {kt k2 : Nat} {pt pt2 : Pos} (ha : AA X W [a, b] ga) (hi : X.N[i]? = some x := by rfl) (hj : X.N[l]? = some y := by rfl) (hij : i ≠ l := by decide) (hx : X.env.scope.names.lookup x = some .local := by rfl) (hy : X.env.scope.names.lookup y = some .local := by rfl)
    (hw : swappedStores [.Tuple [.Name x p, .Name y p2] kt pt] (.Tuple [a, b] k2 pt2) X.env = pure (some [x, y]) := by rfl) (hs : swapsWithSole [.Tuple [.Name x p, .Name y p2] kt pt] (.Tuple [a, b] k2 pt2) pos.line X.env = pure false := by rfl) :
    AS X W (.Assign [.Tuple [.Name x p, .Name y p2] kt pt] (.Tuple [a, b] k2 pt2) pos) (sPar i l ga) := as_par C.calm C.nd hi hj hij hx hy ha hw hs
def sPar3 (i j l : Nat) (g : XA) : XS := fun as S => (g as S).bind fun xs S1 => match xs with
  | [x, y, z] => .ret (.nx (((as.set i (some x)).set j (some y)).set l (some z))) S1
  | _ => .stuck
theorem par3 (C : Cn X W k) (i j l : Nat) {z : Str} {c : Expr} {kt k2 : Nat} {pt pt2 : Pos} (ha : AA X W [a, b, c] ga) (hi : X.N[i]? = some x := by rfl) (hj : X.N[j]? = some y := by rfl) (hl : X.N[l]? = some z := by rfl) (hij : i ≠ j := by decide) (hil : i ≠ l := by decide) (hjl : j ≠ l := by decide)
    (hx : X.env.scope.names.lookup x = some .local := by rfl) (hy : X.env.scope.names.lookup y = some .local := by rfl) (hz : X.env.scope.names.lookup z = some .local := by rfl)
    (hw : swappedStores [.Tuple [.Name x p, .Name y p2, .Name z p3] kt pt] (.Tuple [a, b, c] k2 pt2) X.env = pure (some [x, y, z]) := by rfl) (hs : swapsWithSole [.Tuple [.Name x p, .Name y p2, .Name z p3] kt pt] (.Tuple [a, b, c] k2 pt2) pos.line X.env = pure false := by rfl) :
    AS X W (.Assign [.Tuple [.Name x p, .Name y p2, .Name z p3] kt pt] (.Tuple [a, b, c] k2 pt2) pos) (sPar3 i j l ga) :=
  ps_imp (ps_par3 C.calm C.nd hi hj hl hij hil hjl hx hy hz ha hw hs) fun D σ H ⟨c, w, S, as, hK, hM, hk, he, h⟩ => by
    refine rs_step hK hM hk he h fun vs H1 xs w1 S1 e1 k1 he1 r1 h1 => ?_
    split at h1
    · obtain ⟨v, u, t, rfl, rx, ry, rz⟩ := rps3 r1
      exact ⟨v, u, t, rfl, h1 _ w1 H1 (Ext.refl ..) k1 (((he1.set i rx).set j ry).set l rz)⟩
    · exact h1.elim
theorem cmpr {elt tg iter : Expr} {ifs : List Expr} {scope : Scope} {f : XI} {q : Pat} {t : XT} {fel : XE} (mu : Bool) (own : List (Str × Nat)) (C : Cn X W k) (hi : AI X W tg iter f)
    (hg : ∀ (s : Shared) (H : Hp) (c : Addr) (cl : List (Str × Addr)) (fp : List Addr), Cn (X.blk s H scope (compEnvC scope cl c X.env) fp) E0 k → AP (X.blk s H scope (compEnvC scope cl c X.env) fp) tg q)
    (ht : ∀ (s : Shared) (H : Hp) (c : Addr) (cl : List (Str × Addr)) (fp : List Addr), Cn (X.blk s H scope (compEnvC scope cl c X.env) fp) E0 k → PTs (X.blk s H scope (compEnvC scope cl c X.env) fp) ifs (tT X.K X.mg E0 t))
    (he : ∀ (s : Shared) (H : Hp) (c : Addr) (cl : List (Str × Addr)) (fp : List Addr), Cn (X.blk s H scope (compEnvC scope cl c X.env) fp) E0 k → AE (X.blk s H scope (compEnvC scope cl c X.env) fp) E0 elt fel)
    (ok : blkC X.N X.env.scope scope own = true := by kernel_rfl) (hp : patIn (own.map (·.2)) q = true := by rfl) (hs : ∀ x, foldedSetIterable iter X.env x = pure x := by intro _; rfl) :
    AE X W (.ListComp elt [⟨tg, iter, ifs, 0⟩] scope pos) (eComp mu (own.map (·.2)) f q t fel) :=
  ae_comp mu C.calm C.nd hi (blkOk_by ok) hp (fun s H c cl fp => hg s H c cl fp (C.blk s H scope _ fp)) (fun s H c cl fp => ht s H c cl fp (C.blk s H scope _ fp)) (fun s H c cl fp => he s H c cl fp (C.blk s H scope _ fp)) hs
theorem stCmpr {elt tg iter : Expr} {ifs : List Expr} {scope : Scope} {f : XI} {q : Pat} {t : XT} {fel : XE} (mu : Bool) (own : List (Str × Nat)) (C : Cn X W k) (i : Nat) (hi : AI X W tg iter f)
    (hg : ∀ (s : Shared) (H : Hp) (c : Addr) (cl : List (Str × Addr)) (fp : List Addr), Cn (X.blk s H scope (compEnvC scope cl c X.env) fp) E0 k → AP (X.blk s H scope (compEnvC scope cl c X.env) fp) tg q)
    (ht : ∀ (s : Shared) (H : Hp) (c : Addr) (cl : List (Str × Addr)) (fp : List Addr), Cn (X.blk s H scope (compEnvC scope cl c X.env) fp) E0 k → PTs (X.blk s H scope (compEnvC scope cl c X.env) fp) ifs (tT X.K X.mg E0 t))
    (he : ∀ (s : Shared) (H : Hp) (c : Addr) (cl : List (Str × Addr)) (fp : List Addr), Cn (X.blk s H scope (compEnvC scope cl c X.env) fp) E0 k → AE (X.blk s H scope (compEnvC scope cl c X.env) fp) E0 elt fel)
    (hy : X.N[i]? = some y := by rfl) (hyl : X.env.scope.names.lookup y = some .local := by rfl) (hsw : swapsWith (.ListComp elt [⟨tg, iter, ifs, 0⟩] scope pos) (some (.Name y p)) tpos.line X.env = pure true := by rfl)
    (ok : blkC X.N X.env.scope scope own = true := by kernel_rfl) (hp : patIn (own.map (·.2)) q = true := by rfl) (hs : ∀ x, foldedSetIterable iter X.env x = pure x := by intro _; rfl) :
    AS X W (.Assign [.Name y p] (.ListComp elt [⟨tg, iter, ifs, 0⟩] scope pos) tpos) (sSet i (eComp mu (own.map (·.2)) f q t fel)) :=
  as_setComp mu C.calm C.nd hy hyl hsw hi (blkOk_by ok) hp (fun s H c cl fp => hg s H c cl fp (C.blk s H scope _ fp)) (fun s H c cl fp => ht s H c cl fp (C.blk s H scope _ fp)) (fun s H c cl fp => he s H c cl fp (C.blk s H scope _ fp)) hs
theorem dcmpr {ekx evx tg iter : Expr} {ifs : List Expr} {scope : Scope} {f : XI} {q : Pat} {t : XT} {ek ev : XE} (own : List (Str × Nat)) (C : Cn X W k) (hi : AI X W tg iter f)
    (hg : ∀ (s : Shared) (H : Hp) (c : Addr) (cl : List (Str × Addr)) (fp : List Addr), Cn (X.blk s H scope (compEnvC scope cl c X.env) fp) E0 k → AP (X.blk s H scope (compEnvC scope cl c X.env) fp) tg q)
    (ht : ∀ (s : Shared) (H : Hp) (c : Addr) (cl : List (Str × Addr)) (fp : List Addr), Cn (X.blk s H scope (compEnvC scope cl c X.env) fp) E0 k → PTs (X.blk s H scope (compEnvC scope cl c X.env) fp) ifs (tT X.K X.mg E0 t))
    (hk : ∀ (s : Shared) (H : Hp) (c : Addr) (cl : List (Str × Addr)) (fp : List Addr), Cn (X.blk s H scope (compEnvC scope cl c X.env) fp) E0 k → AE (X.blk s H scope (compEnvC scope cl c X.env) fp) E0 ekx ek)
    (he : ∀ (s : Shared) (H : Hp) (c : Addr) (cl : List (Str × Addr)) (fp : List Addr), Cn (X.blk s H scope (compEnvC scope cl c X.env) fp) E0 k → AE (X.blk s H scope (compEnvC scope cl c X.env) fp) E0 evx ev)
    (ok : blkC X.N X.env.scope scope own = true := by kernel_rfl) (hp : patIn (own.map (·.2)) q = true := by rfl) (hs : ∀ x, foldedSetIterable iter X.env x = pure x := by intro _; rfl) :
    AE X W (.DictComp ekx evx [⟨tg, iter, ifs, 0⟩] scope pos) (eDComp (own.map (·.2)) f q t ek ev) :=
  ae_dcomp C.calm C.nd hi (blkOk_by ok) hp (fun s H c cl fp => hg s H c cl fp (C.blk s H scope _ fp)) (fun s H c cl fp => ht s H c cl fp (C.blk s H scope _ fp)) (fun s H c cl fp => hk s H c cl fp (C.blk s H scope _ fp)) (fun s H c cl fp => he s H c cl fp (C.blk s H scope _ fp)) hs
theorem ptn {es : List Expr} {ps : List Pat} {kt : Nat} (C : Cn X W k) (h : APs X es ps) (hn : (assignEach es X.env).length = ps.length := by rfl) (hst : (assignEach es X.env).findIdx? (·.1) = none := by rfl) : AP X (.Tuple es kt pos) (.tup ps) := ap_tup C.calm h hn hst
end
/-! ### what the head tells -/
structure Vw (fa : List He.Fa) (fn : List He.DefD) (ex : List (PySem.W.Frag → Bool)) (K : PySem.W.Frag) (mg : Str → Option Value) : Prop where
  at_ : ∃ h : Heap, K.In h ∧ h.Ns mainGlobals mg
  says : He.SaysD fa fn K
  more : (ex.all fun f => f K) = true
section
variable {fa : List He.Fa} {fn : List He.DefD} {ex : List (PySem.W.Frag → Bool)} {K : PySem.W.Frag} {mg : Str → Option Value} {x y : Str}
theorem Vw.free (V : Vw fa fn ex K mg) (i : Nat) (h : fa[i]? = some (.free x) := by rfl) : mg x = none := by
  obtain ⟨_, h1, h2⟩ := V.at_
  exact He.free_ok h1 h2 (V.says.fact i h)
theorem Vw.glo (V : Vw fa fn ex K mg) (i : Nat) (h : fa[i]? = some (.glo x) := by rfl) : mg x = some (.ref (He.ga K x)) := by
  obtain ⟨_, h1, h2⟩ := V.at_
  exact He.glo_ok h1 h2 (V.says.fact i h)
theorem Vw.gle (V : Vw fa fn ex K mg) (i : Nat) (h : fa[i]? = some (.glo x) := by rfl) : ∃ a, mg x = some (.ref a) := ⟨_, V.glo i h⟩
theorem Vw.int {z : Int} (V : Vw fa fn ex K mg) (i : Nat) (h : fa[i]? = some (.int x z) := by rfl) : Cst K mg x (.int z) := by
  obtain ⟨_, h1, h2⟩ := V.at_
  obtain ⟨t, h3⟩ := He.int_ok h1 h2 (V.says.fact i h)
  exact ⟨.int z, _, h3, ⟨t, rfl⟩, fun _ _ _ _ => .int z⟩
theorem Vw.str {z : Str} (V : Vw fa fn ex K mg) (i : Nat) (h : fa[i]? = some (.str x z) := by rfl) : Cst K mg x (.str z) := by
  obtain ⟨_, h1, h2⟩ := V.at_
  obtain ⟨t, h3⟩ := He.str_ok h1 h2 (V.says.fact i h)
  exact ⟨.str z, _, h3, ⟨t, rfl⟩, fun _ _ _ _ => .str z⟩
theorem Vw.cls (V : Vw fa fn ex K mg) (i j : Nat) (h : fa[i]? = some (.cls x) := by rfl) (h' : fa[j]? = some (.glo x) := by rfl) : ClsA K mg x := ⟨fun Ca e => by
  rw [V.glo j h'] at e
  cases e
  exact He.cls_ok (V.says.fact i h)⟩
theorem Vw.noat (V : Vw fa fn ex K mg) (i j : Nat) (h : fa[i]? = some (.noat x y) := by rfl) (h' : fa[j]? = some (.glo x) := by rfl) : NoA K mg x y := fun Ca e => by
  rw [V.glo j h'] at e
  cases e
  exact He.noat_ok (V.says.fact i h)
/-- a def of the module -/
theorem Vw.dfn (V : Vw fa fn ex K mg) (i j : Nat) {x qual : Str} {params : Arguments} {body : List Stmt} {scope : Scope} (h : fn[i]? = some ⟨(x, none), x, qual, params, body, scope, [], []⟩ := by rfl) (h' : fa[j]? = some (.glo x) := by rfl) : ∃ f fd, mg x = some (.ref f) ∧ FunD K x qual params body scope [] [] f fd := by
  obtain ⟨fd, F⟩ := V.says.def_ i h
  exact ⟨_, fd, V.glo j h', F⟩
/-- a tuple of the module, of plain parts -/
theorem Vw.tup (V : Vw fa fn ex K mg) (i j : Nat) {vs : List He.Dv} {ds : List PyData} (h : ex[i]? = some (fun K => He.tupB K x vs) := by rfl) (h' : fa[j]? = some (.glo x) := by rfl) (hd : vs.map (fun z => match z with | .non => PyData.none | .int i => .int i | .str s => .str s | .bl b => .bool b | _ => .dict []) = ds := by rfl)
    (hp : (ds.all fun d => match d with | .dict _ => false | _ => true) = true := by rfl) (hk : (noKey ds || kkOf mg) = true) : Cst K mg x (.tuple ds) := by
  have h1 : He.tupB K x vs = true := List.all_eq_true.mp V.more _ (List.mem_of_getElem? h)
  have h2 : KTup K (He.ga K x) (vs.map (He.Dv.v K)) := by
    unfold He.tupB at h1
    split at h1
    · rename_i c d its n sl lk
      simp only [Bool.and_eq_true, decide_eq_true_eq] at h1
      obtain ⟨h3, h4, h5⟩ := h1
      subst h3
      exact ⟨_, its, n, lk, rfl, rfl, h4, He.relAll_ok h5⟩
    · cases h1
  refine ⟨.ref (He.ga K x), _, V.glo j h', rfl, fun c fz hK hM => .ktup (xs := vs.map (He.Dv.v K)) (by unfold Ct.kk; rw [hM, Bool.or_comm]; exact hk) (by rw [hK]; exact h2) ?_⟩
  subst hd
  clear hk h2 h1 h
  induction vs with
  | nil => exact .nil
  | cons z zs ih =>
    rw [List.map_cons, List.all_cons, Bool.and_eq_true] at hp
    refine .cons ?_ (ih hp.2)
    cases z with
    | non => exact .non
    | bl b => exact .bl b
    | int i => exact .int i
    | str s => exact .str s
    | _ => exact absurd hp.1 (by simp)
end
section
variable {P : Program} {w : World} {K : PySem.W.Frag} {mg : Str → Option Value} {base : Heap} {x qual : Str} {params : Arguments} {body : List Stmt} {scope : Scope} {N ps : List Str} {k n l : Nat} {d : XS}
/-- a def of the module, by its body -/
theorem defA (h : ∃ f fd, mg x = some (.ref f) ∧ FunD K x qual params body scope [] [] f fd) (hkk : kkOf mg = false) (S : FnScope N ps scope) (hn : ps.length = n := by rfl) (hl : N.length = n + l := by rfl)
    (hb : ∀ (kV doc pm : Value) (an : Option Addr) (cdv ct : Value) (us : List Value), us.length = ps.length → bindArgs (PySem.W.fnOf x qual params body scope .none kV doc pm an cdv ct) ⟨us, []⟩ = pure (ps.zip us))
    (hbody : ∀ (cdv : Value) (A : Around) (outer : List PySem.Env) (s : Shared) (H : Hp) (E : XK) (f : Addr), Cn (cxOf (CX P w) P w K mg base N qual scope f cdv A outer s H E) E k → ASs (cxOf (CX P w) P w K mg base N qual scope f cdv A outer s H E) E body d) :
    FnA P w K mg base (k + 1) x (defRun n l d) := by
  obtain ⟨f, fd, g, F⟩ := h
  exact ⟨f, fd, ps, g, fnA_of F S hn hl fun cdv A outer s H E hr tk => hbody cdv A outer s H E f (Cn.mk0 hr tk hkk S.nd), F.kp, F.bindsN hb⟩
end
end RA

/-! RA18: classes and their methods; key functions. -/
namespace RA
open PySem PySem.Spec L2
def clsStmt (s : Stmt) (j : Nat) : Stmt := match s with
  | .ClassDef (body := b) .. => b.getD j (.Pass ⟨0, 0, 0, 0⟩)
  | s => s
section
variable {X : Cx} {W : XK} {k j : Nat} {pos p p2 p3 apos cpos tpos pos' : Pos} {e o a b : Expr} {es : List Expr} {fa fb fo fe : XE} {ga : XA} {x y : Str}
theorem fld {cl f : Str} (f' : Str) (hc : ClsA X.K X.mg cl) (hn : NoA X.K X.mg cl f') (ho : AE X W o fo) (hf : f = f' := by kernel_rfl) (hb : attributeBase o f X.env (eval o X.env) = eval o X.env := by rfl) : AE X W (.Attribute o f pos) (eFld cl f' fo) := by
  subst hf
  exact ae_fld hc hn ho hb
theorem sfld {cl f : Str} (f' : Str) (hc : ClsA X.K X.mg cl) (hn : NoA X.K X.mg cl f') (ho : AE X W o fo) (he : AE X W e fe) (hf : f = f' := by kernel_rfl) (hs : swapsWith e (some (.Attribute o f pos')) pos.line X.env = pure false := by rfl) : AS X W (.Assign [.Attribute o f pos'] e pos) (sFldX cl f' fo fe) := by
  subst hf
  exact as_fld hc hn ho he hs
theorem mk {m : Mf} (x' : Str) (C : Cn X W k) (F : FnMk X.prog X.w X.K X.mg X.base j x' m) (ha : AA X W (e :: es) ga) (hj : j + 1 ≤ k := by decide) (hx : x = x' := by kernel_rfl) (hg : Gl X x := by rfl) (hdb : (x == ("__debug__" : Str)) = false := by decide)
    (he : starEach (e :: es) X.env = (false, eval e X.env) :: starEach es X.env := by rfl) (hpl : (backTo pos (starEach es X.env)).any (·.1) = false := by rfl) : AE X W (.Call (.Name x p) (e :: es) [] pos) (eMake x' m ga) := by
  subst hx
  exact ae_make F (C.hr.mono hj) C.tk hg ha hdb he hpl
theorem mt {cl : Str} {m : Mf} {pl : Sem Bool} (x' : Str) (C : Cn X W k) (F : FnM X.prog X.w X.K X.mg X.base j cl x' m) (hC : ∃ Ca, X.mg cl = some (.ref Ca)) (ho : AE X W o fo) (ha : AA X W (e :: es) ga) (hj : j ≤ k := by decide) (hx : x = x' := by kernel_rfl)
    (hst : starEach (e :: es) X.env = (false, eval e X.env) :: starEach es X.env := by rfl) (hpl : (backTo pos (starEach es X.env)).any (·.1) = false := by rfl)
    (ht : eval (.Call (.Attribute o x apos) (e :: es) [] pos) X.env = (do
      let ov ← eval o X.env
      standAt apos.atName
      let (f, first) ← holding [ov] (getMethod ov x pl)
      callWith pos f first (backTo pos (starEach (e :: es) X.env)) (backToKw pos (keywordEach [] X.env))) := by rfl) : AE X W (.Call (.Attribute o x apos) (e :: es) [] pos) (eMeth cl x' m fo ga) := by
  subst hx
  exact ae_meth (pl := pl) (F.mono hj) hC C.hr C.tk ho ha hst hpl ht
theorem mt0 {cl : Str} {m : Mf} {pl : Sem Bool} (x' : Str) (C : Cn X W k) (F : FnM X.prog X.w X.K X.mg X.base j cl x' m) (hC : ∃ Ca, X.mg cl = some (.ref Ca)) (ho : AE X W o fo) (hj : j ≤ k := by decide) (hx : x = x' := by kernel_rfl)
    (ht : eval (.Call (.Attribute o x apos) [] [] pos) X.env = (do
      let ov ← eval o X.env
      standAt apos.atName
      let (f, first) ← holding [ov] (getMethod ov x pl)
      callWith pos f first (backTo pos (starEach [] X.env)) (backToKw pos (keywordEach [] X.env))) := by rfl) : AE X W (.Call (.Attribute o x apos) [] [] pos) (eMeth cl x' m fo aNil) := by
  subst hx
  exact ae_meth0 (pl := pl) (F.mono hj) hC C.hr C.tk ho ht
end
/-! ### methods from the head -/
section
variable {fa : List He.Fa} {fn : List He.DefD} {ex : List (PySem.W.Frag → Bool)} {K : PySem.W.Frag} {mg : Str → Option Value} {cl m qual nm : Str} {params : Arguments} {body : List Stmt} {scope : Scope}
structure MDef (K : PySem.W.Frag) (mg : Str → Option Value) (cl m nm qual : Str) (params : Arguments) (body : List Stmt) (scope : Scope) : Prop where
  ex : ∃ Ca f fd, mg cl = some (.ref Ca) ∧ Cls K Ca ∧ Meth K Ca m f ∧ FunD K nm qual params body scope [] [] f fd
structure KDef (K : PySem.W.Frag) (mg : Str → Option Value) (cl nm qual : Str) (params : Arguments) (body : List Stmt) (scope : Scope) : Prop where
  ex : ∃ Ca f fd, mg cl = some (.ref Ca) ∧ Mk K Ca f ∧ FunD K nm qual params body scope [] [] f fd
theorem Vw.mdef (V : Vw fa fn ex K mg) (i g c t : Nat) (h : fn[i]? = some ⟨(cl, some m), nm, qual, params, body, scope, [], []⟩ := by rfl) (hg : fa[g]? = some (.glo cl) := by rfl) (hc : fa[c]? = some (.cls cl) := by rfl) (hm : fa[t]? = some (.meth cl m) := by rfl) : MDef K mg cl m nm qual params body scope := by
  obtain ⟨fd, F⟩ := V.says.def_ i h
  exact ⟨_, _, fd, V.glo g hg, He.cls_ok (V.says.fact c hc), He.meth_ok (V.says.fact t hm), F⟩
theorem Vw.mkdef (V : Vw fa fn ex K mg) (i g t : Nat) (h : fn[i]? = some ⟨(cl, some ("__init__" : Str)), nm, qual, params, body, scope, [], []⟩ := by rfl) (hg : fa[g]? = some (.glo cl) := by rfl) (hm : fa[t]? = some (.mkr cl) := by rfl) : KDef K mg cl nm qual params body scope := by
  obtain ⟨fd, F⟩ := V.says.def_ i h
  exact ⟨_, _, fd, V.glo g hg, He.mkr_ok (V.says.fact t hm), F⟩
end
section
variable {P : Program} {w : World} {K : PySem.W.Frag} {mg : Str → Option Value} {base : Heap} {cl m x nm qual : Str} {params : Arguments} {body : List Stmt} {scope : Scope} {N ps : List Str} {k n l : Nat} {d : XS}
theorem methA (D : MDef K mg cl m nm qual params body scope) (hkk : kkOf mg = false) (S : FnScope N ps scope) (hn : ps.length = n := by rfl) (hl : N.length = n + l := by rfl)
    (hb : ∀ (kV doc pm : Value) (an : Option Addr) (cdv ct : Value) (us : List Value), us.length = ps.length → bindArgs (PySem.W.fnOf nm qual params body scope .none kV doc pm an cdv ct) ⟨us, []⟩ = pure (ps.zip us))
    (hbody : ∀ (cdv : Value) (A : Around) (outer : List PySem.Env) (s : Shared) (H : Hp) (E : XK) (f : Addr), Cn (cxOf (CX P w) P w K mg base N qual scope f cdv A outer s H E) E k → ASs (cxOf (CX P w) P w K mg base N qual scope f cdv A outer s H E) E body d) :
    FnM P w K mg base (k + 1) cl m (defRun n l d) := fun Ca0 e => by
  obtain ⟨Ca, f, fd, g, c, mt, F⟩ := D.ex
  rw [g] at e
  cases e
  exact ⟨f, fd, ps, c, mt, fnA_of F S hn hl fun cdv A outer s H E hr tk => hbody cdv A outer s H E f (Cn.mk0 hr tk hkk S.nd), F.bindsN hb⟩
theorem mkA (D : KDef K mg cl nm qual params body scope) (hkk : kkOf mg = false) (S : FnScope N ps scope) (hn : ps.length = n := by rfl) (hl : N.length = n + l := by rfl)
    (hb : ∀ (kV doc pm : Value) (an : Option Addr) (cdv ct : Value) (us : List Value), us.length = ps.length → bindArgs (PySem.W.fnOf nm qual params body scope .none kV doc pm an cdv ct) ⟨us, []⟩ = pure (ps.zip us))
    (hbody : ∀ (cdv : Value) (A : Around) (outer : List PySem.Env) (s : Shared) (H : Hp) (E : XK) (f : Addr), Cn (cxOf (CX P w) P w K mg base N qual scope f cdv A outer s H E) E k → ASs (cxOf (CX P w) P w K mg base N qual scope f cdv A outer s H E) E body d) :
    FnMk P w K mg base (k + 1) cl (defRun n l d) := by
  obtain ⟨Ca, f, fd, g, mt, F⟩ := D.ex
  exact ⟨Ca, f, fd, ps, g, mt, fnA_of F S hn hl fun cdv A outer s H E hr tk => hbody cdv A outer s H E f (Cn.mk0 hr tk hkk S.nd), F.bindsN hb⟩
def mStuck : Mf := fun _ _ => .stuck
theorem ok_stuck {f : Addr} {fd : FuncData} : FnOk P w K mg base (CX P w) k f fd ps (spA K mg fun _ _ => .stuck) :=
  ⟨fun vs H Q E ⟨_, _, _, _, _, _, _, _, h⟩ => h.elim, fun A outer s H args us vs Q E _ _ _ _ ⟨_, _, _, _, _, _, _, _, h⟩ => h.elim⟩
theorem defS (h : ∃ f fd, mg x = some (.ref f) ∧ FunD K x qual params body scope [] [] f fd) (S : FnScope N ps scope)
    (hb : ∀ (kV doc pm : Value) (an : Option Addr) (cdv ct : Value) (us : List Value), us.length = ps.length → bindArgs (PySem.W.fnOf x qual params body scope .none kV doc pm an cdv ct) ⟨us, []⟩ = pure (ps.zip us)) : FnA P w K mg base k x (fun _ _ => .stuck) := by
  obtain ⟨f, fd, g, F⟩ := h
  exact ⟨f, fd, ps, g, ok_stuck, F.kp, F.bindsN hb⟩
theorem methS (D : MDef K mg cl m nm qual params body scope) (S : FnScope N ps scope)
    (hb : ∀ (kV doc pm : Value) (an : Option Addr) (cdv ct : Value) (us : List Value), us.length = ps.length → bindArgs (PySem.W.fnOf nm qual params body scope .none kV doc pm an cdv ct) ⟨us, []⟩ = pure (ps.zip us)) : FnM P w K mg base k cl m (fun _ _ => .stuck) := fun Ca0 e => by
  obtain ⟨Ca, f, fd, g, c, mt, F⟩ := D.ex
  rw [g] at e
  cases e
  exact ⟨f, fd, ps, c, mt, ok_stuck, F.bindsN hb⟩
/-! ### key functions: the first part -/
structure KeyF (K : PySem.W.Frag) (mg : Str → Option Value) (x : Str) : Prop where
  ex : ∃ (qual y : Str) (params : Arguments) (scope : Scope) (f : Addr) (fd : FuncData) (p1 p2 p3 p4 : Pos) (j : Nat), mg x = some (.ref f) ∧ FunD K x qual params [.Return (some (.Subscript (.Name y p1) (.Constant (.int 0) j p2) p3)) p4] scope [] [] f fd ∧
    FnScope [y] [y] scope ∧ scope.names.lookup y = some .local ∧ (y == ("__debug__" : Str)) = false ∧ ∀ (s : Shared) (u : Value), BindsTo s fd ⟨[u], []⟩ [(y, u)]
theorem keyF {y : Str} {p1 p2 p3 p4 : Pos} {j : Nat} (h : ∃ f fd, mg x = some (.ref f) ∧ FunD K x qual params body scope [] [] f fd) (hbd : body = [.Return (some (.Subscript (.Name y p1) (.Constant (.int 0) j p2) p3)) p4]) (S : FnScope [y] [y] scope) (hy : scope.names.lookup y = some .local) (hd : (y == ("__debug__" : Str)) = false)
    (hb : ∀ (kV doc pm : Value) (an : Option Addr) (cdv ct : Value) (us : List Value), us.length = [y].length → bindArgs (PySem.W.fnOf x qual params body scope .none kV doc pm an cdv ct) ⟨us, []⟩ = pure ([y].zip us)) : KeyF K mg x := by
  obtain ⟨f, fd, g, F⟩ := h
  have b := fun s u => FunD.bindsA (ps := [y]) F hb s [u] rfl
  subst hbd
  exact ⟨qual, y, params, scope, f, fd, p1, p2, p3, p4, j, g, F, S, hy, hd, b⟩
end
section
variable {X : Cx} {W : XK} {k : Nat} {pos sp np kp : Pos} {e : Expr} {fe : XE} {x : Str}
theorem srtF (mu : Bool) (C : Cn X W k) (F : KeyF X.K X.mg x) (hm : X.mg "sorted" = none) (he : AE X W e fe) (hk : 1 ≤ k := by decide) (hg : Gl X "sorted" := by rfl) (hgf : Gl X x := by rfl) (hdn : (x == ("__debug__" : Str)) = false := by decide)
    (hst : backTo pos (starEach [e] X.env) = (false, eval e X.env) :: backTo pos (starEach [] X.env) := by rfl) (hs1 : starEach [e] X.env = (false, eval e X.env) :: starEach [] X.env := by rfl) (hpl : (backTo pos (starEach [e] X.env)).any (·.1) = false := by rfl)
    (hall : (backToKw pos (keywordEach [⟨some (Str.ofString "key"), .Name x np, kp⟩] X.env)).all (·.1.isSome) = true := by rfl) (hnone : (backToKw pos (keywordEach [⟨some (Str.ofString "key"), .Name x np, kp⟩] X.env)).any (·.1.isNone) = false := by rfl) (hks : (backToKw pos (keywordEach [⟨some (Str.ofString "key"), .Name x np, kp⟩] X.env)).filterMap (·.1) = [Str.ofString "key"] := by rfl) :
    AE X W (.Call (.Name "sorted" sp) [e] [⟨some (Str.ofString "key"), .Name x np, kp⟩] pos) (eSortFst mu fe) := by
  obtain ⟨qual, y, params, scope, f, fd, p1, p2, p3, p4, j, g, F, S, hy, hd, b⟩ := F.ex
  exact ae_sortFst mu F S hy hd b (C.hr.mono hk) hg hm hgf g he hdn hst hs1 hpl hall hnone hks
end
end RA

set_option exponentiation.threshold 9000
/-! RA19: the cup, the rolls, the law. -/
namespace RA
open PySem PySem.Spec L2
/-! ### constants that look like keys, in comparisons -/
def KCst (K : PySem.W.Frag) (mg : Str → Option Value) (x : Str) (d : PyData) : Prop := ∃ v u, mg x = some u ∧ RelV v u ∧ ∀ H, Dp K H v d
section
variable {fa : List He.Fa} {fn : List He.DefD} {ex : List (PySem.W.Frag → Bool)} {K : PySem.W.Frag} {mg : Str → Option Value} {x : Str}
theorem Vw.ktup (V : Vw fa fn ex K mg) (i j : Nat) {vs : List He.Dv} {ds : List PyData} (h : ex[i]? = some (fun K => He.tupB K x vs) := by rfl) (h' : fa[j]? = some (.glo x) := by rfl) (hd : vs.map (fun z => match z with | .non => PyData.none | .int i => .int i | .str s => .str s | .bl b => .bool b | _ => .dict []) = ds := by rfl)
    (hp : (ds.all fun d => match d with | .dict _ => false | _ => true) = true := by rfl) : KCst K mg x (.tuple ds) := by
  have h1 : He.tupB K x vs = true := List.all_eq_true.mp V.more _ (List.mem_of_getElem? h)
  refine ⟨.ref (He.ga K x), _, V.glo j h', rfl, fun H => .tup (He.tupB_ok h1 H) ?_⟩
  subst hd
  clear h1 h
  induction vs with
  | nil => exact .nil
  | cons z zs ih =>
    rw [List.map_cons, List.all_cons, Bool.and_eq_true] at hp
    refine .cons ?_ (ih hp.2)
    cases z with
    | non => exact .non
    | bl b => exact .bl b
    | int i => exact .int i
    | str s => exact .str s
    | _ => exact absurd hp.1 (by simp)
end
def eEqC (neg : Bool) (f : XE) (d : PyData) : XE := fun as S => (f as S).bind fun x S1 => match pureOf x S1 with
  | some e => match eqD e d with
    | some b => .ret (.p (.bool (match neg with | true => !b | false => b))) S1
    | none => .stuck
  | none => .stuck
section
variable {X : Cx} {W : XK} {k : Nat} {pos p : Pos} {a : Expr} {fa : XE} {x : Str} {d : PyData}
theorem eqC_imp {neg : Bool} {σ : L2.St} {H : Hp} {Q : VK} {v : V} {r : R2} (hd : ∀ H, Dp X.K H v d) (hr : ∀ {vx : V} {e : PyData} {b : Bool} {H : Hp} {Q : VK}, Dp X.K H vx e → eqD e d = some b → Q (.bl (match neg with | true => !b | false => b)) H → r vx v H Q)
    (h : tE X.K X.mg W (eEqC neg fa d) σ H Q) : tOp r (tE X.K X.mg W fa) (tC v) σ H Q := by
  obtain ⟨c, w, S, as, hK, hM, hk, he, h⟩ := h
  refine rd_step hK hM hk he h fun u H1 y w1 S1 e1 k1 he1 r1 h1 => ?_
  show r u v H1 Q
  cases hp : pureOf y S1 with
  | none => rw [hp] at h1; exact h1.elim
  | some e =>
    rw [hp] at h1
    dsimp only at h1
    cases hq : eqD e d with
    | none => rw [hq] at h1; exact h1.elim
    | some b =>
      rw [hq] at h1
      exact hr (hK ▸ rp_pureOf k1 hp r1) hq (h1 _ w1 H1 (Ext.refl ..) k1 (.p (.bl _)))
theorem kEq_r {K : PySem.W.Frag} {vx v : V} {e d : PyData} {b : Bool} {H : Hp} {Q : VK} (hd : ∀ H, Dp K H v d) (h : Dp K H vx e) (hq : eqD e d = some b) (q : Q (.bl b) H) : rEq vx v H Q ∨ rEqD K vx v H Q :=
  rEq_of (c := ⟨K, fun _ => none, none⟩) h (hd H) hq q
theorem kNe_r {K : PySem.W.Frag} {vx v : V} {e d : PyData} {b : Bool} {H : Hp} {Q : VK} (hd : ∀ H, Dp K H v d) (h : Dp K H vx e) (hq : eqD e d = some b) (q : Q (.bl (!b)) H) : rNe vx v H Q ∨ rNeD K vx v H Q :=
  rNe_of (c := ⟨K, fun _ => none, none⟩) h (hd H) hq q
theorem cmpEqK (C : Cn X W k) (ha : AE X W a fa) (hd : KCst X.K X.mg x d) (hg : Gl X x := by rfl) (hdb : (x == ("__debug__" : Str)) = false := by decide) : AE X W (.Compare a [.Eq] [.Name x p] pos) (eEqC false fa d) := by
  obtain ⟨v, u, h1, h2, h3⟩ := hd
  exact pe_imp (pe_cmpR (OpR.or op_eq (op_eqD C.u64)) ha (pe_glob hg h1 h2 hdb) (nomark _)) fun _ _ _ h => eqC_imp (neg := false) h3 (fun a b c => kEq_r h3 a b c) h
theorem cmpNeK (C : Cn X W k) (ha : AE X W a fa) (hd : KCst X.K X.mg x d) (hg : Gl X x := by rfl) (hdb : (x == ("__debug__" : Str)) = false := by decide) : AE X W (.Compare a [.NotEq] [.Name x p] pos) (eEqC true fa d) := by
  obtain ⟨v, u, h1, h2, h3⟩ := hd
  exact pe_imp (pe_cmpR (OpR.or op_ne (op_neD C.u64)) ha (pe_glob hg h1 h2 hdb) (nomark _)) fun _ _ _ h => eqC_imp (neg := true) h3 (fun a b c => kNe_r h3 a b c) h
theorem tstEqK (C : Cn X W k) (ha : AE X W a fa) (hd : KCst X.K X.mg x d) (hg : Gl X x := by rfl) (hdb : (x == ("__debug__" : Str)) = false := by decide) : AT X W (.Compare a [.Eq] [.Name x p] pos) (toT (eEqC false fa d)) := by
  obtain ⟨v, u, h1, h2, h3⟩ := hd
  exact pt_imp (pt_cmpR (OpR.or op_eq (op_eqD C.u64)) ha (pe_glob hg h1 h2 hdb) (nomark _)) fun _ _ _ h => toT_imp (fun _ _ _ z => eqC_imp (neg := false) h3 (fun a b c => kEq_r h3 a b c) z) h
theorem tstNeK (C : Cn X W k) (ha : AE X W a fa) (hd : KCst X.K X.mg x d) (hg : Gl X x := by rfl) (hdb : (x == ("__debug__" : Str)) = false := by decide) : AT X W (.Compare a [.NotEq] [.Name x p] pos) (toT (eEqC true fa d)) := by
  obtain ⟨v, u, h1, h2, h3⟩ := hd
  exact pt_imp (pt_cmpR (OpR.or op_ne (op_neD C.u64)) ha (pe_glob hg h1 h2 hdb) (nomark _)) fun _ _ _ h => toT_imp (fun _ _ _ z => eqC_imp (neg := true) h3 (fun a b c => kNe_r h3 a b c) z) h
end

/-! ### rolls -/
def rollD : XS := (sSeq (sIf (toT (e2 gGt (e2 gIx (eVar 0) (eC (.int 0))) (eC (.int 0)))) (sSeq (sSet 2 (e2 gMod (eN gInt1 (aCons (e2 gIx (eVar 0) (eC (.int 0))) aNil)) (eVar 1))) (sSeq (sAsg (e2 gDivW (e2 gIx (eVar 0) (eC (.int 0))) (eVar 1)) (gPutX (eVar 0) (eC (.int 0)))) (sRet (eVar 2)))) sNext) (sSeq (sAsg (e2 gMod (eN gInt1 (aCons (e2 (gAdd false) (e2 (gMul false) (e2 gIx (eVar 0) (eC (.int 1))) (eC (.int 31051))) (eC (.int 7993))) aNil)) (eC (.int 2147483543))) (gPutX (eVar 0) (eC (.int 1)))) (sSeq (sSet 3 (e2 gMod (eN gInt1 (aCons (e2 (gMul false) (e2 gIx (eVar 0) (eC (.int 1))) (e2 (gAdd false) (e2 gIx (eVar 0) (eC (.int 1))) (eC (.int 229)))) aNil)) (eC (.int 2147483587)))) (sRet (e2 gMod (eN gInt1 (aCons (e2 gDivW (eVar 3) (eC (.int 821))) aNil)) (eVar 1))))))
/-- one number below another -/
def mRoll : Mf := fun xs S => match xs with
  | [.cup, .p (.int n)] => match inI 0 1000000000000 n with
    | true => .roll n.toNat fun i => .ret (.p (.int (i : Nat))) S
    | false => .stuck
  | _ => .stuck
theorem cup_get0 (a b : AV) : gIx (.h 0) (.p (.int 0)) [.lst [a, b]] = some (a, [.lst [a, b]]) := rfl
theorem cup_get1 (a b : AV) : gIx (.h 0) (.p (.int 1)) [.lst [a, b]] = some (b, [.lst [a, b]]) := rfl
theorem cup_put0 (a b v : AV) : gPut (.h 0) (.p (.int 0)) v [.lst [a, b]] = some [.lst [v, b]] := rfl
theorem cup_put1 (a b v : AV) : gPut (.h 0) (.p (.int 1)) v [.lst [a, b]] = some [.lst [a, v]] := rfl
theorem go_gt (i j : Int) (S : Store) : gGt (.p (.int i)) (.p (.int j)) S = some (.p (.bool (decide (i > j))), S) := rfl
theorem go_mod {i j : Int} {S : Store} (h : 0 < j) : gMod (.p (.int i)) (.p (.int j)) S = some (.p (.int (i % j)), S) := by
  show (match decide (0 < j) with
    | true => some (AV.p (.int (i % j)), S)
    | false => none) = _
  rw [decide_eq_true h]
theorem go_div {i j : Int} {S : Store} (h : inI 0 (2 ^ 8000) j = true) : gDivW (.p (.int i)) (.p (.int j)) S = some (.p (.int (i / j)), S) := by
  show (match inI 0 (2 ^ 8000) j with
    | true => some (AV.p (.int (i / j)), S)
    | false => none) = _
  rw [h]
theorem go_mul {i j : Int} {S : Store} (h : cMul i j = true) : gMul false (.p (.int i)) (.p (.int j)) S = some (.p (.int (i * j)), S) := by
  show (match cMul i j with
    | true => some (AV.p (.int (i * j)), S)
    | false => none) = _
  rw [h]
theorem go_add (i j : Int) (S : Store) : gAdd false (.p (.int i)) (.p (.int j)) S = some (.p (.int (i + j)), S) := rfl
theorem go_int (i : Int) (S : Store) : gInt1 [.p (.int i)] S = some (.p (.int i), S) := rfl
theorem inI_of {lo hi i : Int} (h1 : lo < i) (h2 : i < hi) : inI lo hi i = true := by
  unfold inI
  rw [decide_eq_true h1]
  exact decide_eq_true h2
theorem roll_run {c0 c1 n : Int} (h0 : 0 ≤ c0) (h0' : c0 < cupMost) (h1 : 0 ≤ c1) (h1' : c1 < 2 ^ 32) (hn : 0 < n) (hn' : n < 1000000000000) :
    ∃ (i : Nat) (d0 d1 : Int), (i : Int) < n ∧ 0 ≤ d0 ∧ d0 < cupMost ∧ 0 ≤ d1 ∧ d1 < 2 ^ 32 ∧ defRun 2 2 rollD [.h 0, .p (.int n)] [.lst [.p (.int c0), .p (.int c1)]] = .ret (.p (.int (i : Nat))) [.lst [.p (.int d0), .p (.int d1)]] := by
  have m1 : ∀ z m : Int, 0 < m → 0 ≤ z % m ∧ z % m < m := fun z m hm => ⟨Int.emod_nonneg _ (by omega), Int.emod_lt_of_pos _ hm⟩
  by_cases hc : 0 < c0
  · refine ⟨(c0 % n).toNat, c0 / n, c1, ?_, Int.ediv_nonneg h0 (Int.le_of_lt hn), Int.lt_of_le_of_lt (Int.ediv_le_self _ h0) h0', h1, h1', ?_⟩
    · rw [Int.toNat_of_nonneg (m1 _ _ hn).1]
      exact (m1 _ _ hn).2
    · rw [Int.toNat_of_nonneg (m1 _ _ hn).1]
      have e2 : inI 0 (2 ^ 8000) n = true := inI_of hn (Int.lt_trans hn' (by decide))
      simp [defRun, rollD, sSeq, sIf, toT, RA.e2, eVar, eC, sSet, sAsg, sRet, sNext, eN, aCons, aNil, gPutX, Cm.bind, Cm.of, endK, cup_get0, cup_get1, cup_put0, cup_put1, go_gt, go_mod hn, go_div e2, go_int, hc, Nat.beq]
  · let d1 : Int := (c1 * 31051 + 7993) % 2147483543
    let dp : Int := (d1 * (d1 + 229)) % 2147483587
    have b1 : 0 ≤ d1 ∧ d1 < 2147483543 := m1 _ _ (by decide)
    have b2 : 0 ≤ dp ∧ dp < 2147483587 := m1 _ _ (by decide)
    refine ⟨(dp / 821 % n).toNat, c0, d1, ?_, h0, h0', b1.1, by omega, ?_⟩
    · rw [Int.toNat_of_nonneg (m1 _ _ hn).1]
      exact (m1 _ _ hn).2
    · rw [Int.toNat_of_nonneg (m1 _ _ hn).1]
      have q1 : cMul c1 31051 = true := by unfold cMul; rw [inI_of (by omega) (by omega)]
      have q2 : cMul d1 (d1 + 229) = true := by unfold cMul; rw [inI_of (by omega) (by omega)]
      have q3 : inI 0 (2 ^ 8000) 821 = true := inI_of (by decide) (by decide)
      have p1 : (0 : Int) < 2147483543 := by decide
      have p2 : (0 : Int) < 2147483587 := by decide
      have q2' : cMul ((c1 * 31051 + 7993) % 2147483543) ((c1 * 31051 + 7993) % 2147483543 + 229) = true := q2
      simp [defRun, rollD, sSeq, sIf, toT, RA.e2, eVar, eC, sSet, sAsg, sRet, sNext, eN, aCons, aNil, gPutX, Cm.bind, Cm.of, endK, cup_get0, cup_get1, cup_put0, cup_put1, go_gt, go_mod hn, go_mod p1, go_mod p2, go_div q3, go_int, go_mul q1, go_mul q2', go_add, hc, Nat.beq, d1, dp]
theorem roll_sp {K : PySem.W.Frag} {mg : Str → Option Value} {vs : List V} {H : Hp} {Q : VK} {E : XK} (h : spA K mg mRoll vs H Q E) : spA K mg (defRun 2 2 rollD) vs H Q E := by
  obtain ⟨c, w, S, xs, hK, hM, k, r, h⟩ := h
  unfold mRoll at h
  split at h
  · rename_i n
    split at h
    · rename_i hn
      obtain ⟨n1, n2⟩ := inI_ok hn
      cases r with
      | cons r0 r1 =>
        cases r0 with
        | @cup a ha =>
          obtain ⟨u, e1, ru⟩ := rps1 r1
          subst e1
          obtain ⟨f1, f2, c0, c1, f3, g0, g0', g1, g1'⟩ := k.cu a ha
          obtain ⟨i, d0, d1, hi, b0, b0', b1, b1', hrun⟩ := roll_run g0 g0' g1 g1' n1 n2
          have e2 := rp_int ru
          subst e2
          have k0 : Hok { c with cu := none } ⟨w.fz, [a]⟩ [.lst [.p (.int c0), .p (.int c1)]] H := by
            refine ⟨k.fz, fun j o q => ?_, rfl, by simp, fun b q => by cases q⟩
            cases j with
            | zero =>
              cases q
              exact ⟨a, rfl, f1, _, f3, .cons (.p (.int c0)) (.cons (.p (.int c1)) .nil)⟩
            | succ j => simp at q
          refine ⟨{ c with cu := none }, ⟨w.fz, [a]⟩, _, [.h 0, .p (.int n)], hK, hM, k0, .cons (.h rfl) (.cons (.p (.int n)) .nil), ?_⟩
          rw [hrun]
          have q := h i (by omega)
          intro v w2 H2 e2 k2 r2
          have keep : ∀ b o, H b = some o → b ≠ a → H2 b = some o := fun b o z hb => e2.fr b o z (by simpa using hb) (fun z => by cases z)
          obtain ⟨m, em, hm⟩ := e2.ad
          have hm0 : m = [] := by
            have := k2.len
            rw [em] at this
            simp at this
            exact this
          subst hm0
          have none' : ∀ b, w.fz b = none → H b ≠ none → w2.fz b = none := fun b h1 h2 => by
            cases q : w2.fz b with
            | none => rfl
            | some u => exact absurd (e2.nf b u q h1) h2
          have l : WsLe w ⟨w2.fz, w.ad⟩ := ⟨e2.fz, fun _ _ h => h⟩
          obtain ⟨a', ea, fa, vs', ha', rv⟩ := k2.st 0 _ rfl
          have ea : (([a] : List Addr) ++ [])[0]? = some a' := by rw [← em]; exact ea
          have ea : a = a' := Option.some.inj ea
          subst ea
          have cupH2 : CupAt H2 a := by
            cases rv with
            | cons x1 x2 =>
              cases x2 with
              | cons x2 x3 =>
                cases x3
                cases rp_int x1
                cases rp_int x2
                exact ⟨d0, d1, ha', b0, b0', b1, b1'⟩
          have kk : Hok c ⟨w2.fz, w.ad⟩ S H2 := by
            refine ⟨k2.fz, fun j o q => ?_, k.len, k.nd, fun b q => ?_⟩
            · obtain ⟨b, h1, h2, h3⟩ := k.st j o q
              obtain ⟨u, hu, mu⟩ := h3.there
              have hba : b ≠ a := fun z => f2 (by rw [← z]; exact List.mem_of_getElem? h1)
              refine ⟨b, h1, none' b h2 (by rw [hu]; simp), h3.keep l (fun u h => keep b u h hba) fun d hd => keep d _ hd (fun z => ?_)⟩
              rw [z, f3] at hd
              cases hd
            · rw [ha] at q
              cases q
              exact ⟨none' a f1 (by rw [f3]; simp), f2, cupH2⟩
          have ee : Ext c w H ⟨w2.fz, w.ad⟩ H2 := ⟨e2.fz, ⟨[], by simp, fun _ h => nomatch h⟩, fun b o z _ hc => keep b o z (fun z' => hc (by rw [z']; exact ha)), e2.nf, e2.kp⟩
          refine q v _ H2 ee kk ?_
          cases r2 with
          | p r2 => cases r2; exact .p (.int _)
    · exact h.elim
  · exact h.elim
theorem rollA {P : Program} {w : World} {K : PySem.W.Frag} {mg : Str → Option Value} {base : Heap} {k : Nat} {x : Str} {m : Mf} (F : FnA P w K mg base k x m) (hm : m = defRun 2 2 rollD) : FnA P w K mg base k x mRoll := by
  subst hm
  obtain ⟨f, fd, ps, h1, h2, h3, h4⟩ := F
  exact ⟨f, fd, ps, h1, h2.imp fun vs H Q E => roll_sp, h3, h4⟩
/-! ### the cup -/
def cupX : XS := sRet (eLst true (aCons (eIf (toT (e2 gGe (eVar 1) (e2 gPow (eC (.int 10)) (eC (.int 18))))) (e2 gDivW (eVar 1) (eC (.int 67))) (eC (.int 0))) (aCons (e2 (gAdd false) (e2 gMod (eN gInt1 (aCons (e2 (gAdd false) (e2 (gMul false) (eVar 1) (eC (.int 277))) (eC (.int 2609))) aNil)) (eC (.int 2077503167))) (eC (.int 163))) aNil)))
/-- the cell: the first of the script, or nought, without its sign -/
def tCell (K : PySem.W.Frag) : TE := tCB (fun xs H Q => ∃ i, xs = [.int i] ∧ Q (.int (if i < 0 then -i else i)) H) (tCons (tOp (rIxL K) (tOp rCat (tCB (fun xs H Q => ∃ p ys, xs = [.ref p] ∧ (SqL K H p ys ∨ SqT K H p ys) ∧ ∀ l, H l = none → Q (.ref l) (upd H l (.lst ys))) (tCons (tVar 0) tNil)) (tLst (tCons (tC (.int 0)) tNil))) (tC (.int 0))) tNil)
def spCup (K : PySem.W.Frag) : Sp := fun vs H Q E => ∃ (a : Addr) (ns : List Int), vs = [.ref a] ∧ SqL K H a (ns.map V.int) ∧ ns.length ≤ 63 ∧ (∀ z ∈ ns, Builtin.Int.intBits z ≤ 1048576) ∧ ∀ p H', CupAt H' p → Q (.ref p) H'
theorem cup_run {z : Int} (h0 : 0 ≤ z) (h1 : z < 2 ^ 1048576) (σ0 : Option AV) : ∃ c0 c1 : Int, 0 ≤ c0 ∧ c0 < cupMost ∧ 0 ≤ c1 ∧ c1 < 2 ^ 32 ∧ cupX [σ0, some (.p (.int z))] [] = .ret (.rt (.h 0)) [.lst [.p (.int c0), .p (.int c1)]] := by
  have m1 : ∀ z m : Int, 0 < m → 0 ≤ z % m ∧ z % m < m := fun z m hm => ⟨Int.emod_nonneg _ (by omega), Int.emod_lt_of_pos _ hm⟩
  have q1 : cMul z 277 = true := by
    unfold cMul
    cases inI (-18446744073709551616) 18446744073709551616 z with
    | true => rfl
    | false => exact inI_of (by decide) (by decide)
  have q3 : inI 0 (2 ^ 8000) 67 = true := inI_of (by decide) (by decide)
  have p1 : (0 : Int) < 2077503167 := by decide
  have b1 := m1 (z * 277 + 2609) 2077503167 p1
  have pw : ∀ S, gPow (.p (.int 10)) (.p (.int 18)) S = some (.p (.int (10 ^ 18)), S) := fun S => by rfl
  have ge : ∀ (i j : Int) (S : Store), gGe (.p (.int i)) (.p (.int j)) S = some (.p (.bool (decide (i ≥ j))), S) := fun _ _ _ => rfl
  have ok2 : okLen 2 = true := by decide
  by_cases hc : z ≥ 10 ^ 18
  · refine ⟨z / 67, (z * 277 + 2609) % 2077503167 + 163, Int.ediv_nonneg h0 (by decide), ?_, by omega, by omega, ?_⟩
    · refine Int.lt_of_le_of_lt (Int.ediv_le_self _ h0) (Int.lt_of_lt_of_le h1 ?_)
      unfold cupMost
      exact_mod_cast Nat.pow_le_pow_right (by decide) (by decide)
    · simp [cupX, toT, RA.e2, eVar, eC, sRet, eN, aCons, aNil, eIf, eLst, newL, Cm.bind, Cm.of, go_mod p1, go_div q3, go_int, go_mul q1, go_add, pw, ge, ok2]
      rw [decide_eq_true (show (1000000000000000000 : Int) ≤ z from hc)]
      rfl
  · refine ⟨0, (z * 277 + 2609) % 2077503167 + 163, by decide, by unfold cupMost; exact Int.pow_pos (by decide), by omega, by omega, ?_⟩
    simp [cupX, toT, RA.e2, eVar, eC, sRet, eN, aCons, aNil, eIf, eLst, newL, Cm.bind, Cm.of, go_mod p1, go_div q3, go_int, go_mul q1, go_add, pw, ge, ok2]
    rw [decide_eq_false (show ¬ (1000000000000000000 : Int) ≤ z from hc)]
    rfl
/-- a heap with nothing known of it -/
theorem hok_bare (K : PySem.W.Frag) (mg : Str → Option Value) (H : Hp) : Hok ⟨K, mg, none⟩ ⟨fun _ => none, []⟩ [] H := ⟨fun _ _ h => (by cases h), fun i o q => by simp at q, rfl, List.nodup_nil, fun a q => by cases q⟩
theorem head_of (ns : List Int) (hl : ns.length ≤ 63) (hb : ∀ z ∈ ns, Builtin.Int.intBits z ≤ 1048576) : ∃ i : Int, atI (ns.map V.int ++ [V.int 0]) 0 = some (.int i) ∧ i.natAbs < 2 ^ 1048576 := by
  cases ns with
  | nil => exact ⟨0, rfl, Nat.pow_pos (by decide)⟩
  | cons n ns =>
    refine ⟨n, ?_, PySem.intBits_le_iff.mp (hb n (List.mem_cons_self ..))⟩
    unfold atI
    have : ixN ((n :: ns).map V.int ++ [V.int 0]).length 0 = some 0 := by
      simp [ixN]
      omega
    rw [this]
    rfl
theorem cell_run {K : PySem.W.Frag} {a : Addr} {ns : List Int} {H : Hp} {Q : VK} (hS : SqL K H a (ns.map V.int)) (hl : ns.length ≤ 63) (hb : ∀ z ∈ ns, Builtin.Int.intBits z ≤ 1048576) (h : ∀ z H', 0 ≤ z → z < 2 ^ 1048576 → Q (.int z) H') : tCell K (L2.start ["script", "cell"] [.ref a]) H Q := by
  obtain ⟨i, hi, hi2⟩ := head_of ns hl hb
  refine ⟨.ref a, rfl, a, ns.map V.int, rfl, .inl hS, fun l hl' => ?_⟩
  refine ⟨by rw [sizeLine_eq]; decide, fun p hp => ?_⟩
  have hlp : l ≠ p := fun e => by rw [e, upd_same] at hp; cases hp
  refine ⟨l, p, ns.map V.int, [.int 0], rfl, rfl, by rw [upd_ne hlp, upd_same], upd_same, by rw [sizeLine_eq, List.length_map]; simp; omega, fun q hq => ?_⟩
  refine ⟨q, _, 0, .int i, rfl, rfl, .inl (.inl upd_same), hi, i, rfl, h _ _ ?_ ?_⟩
  · split <;> omega
  · have e : (if i < 0 then -i else i) = (i.natAbs : Int) := by split <;> omega
    rw [e]
    exact_mod_cast hi2
theorem cupOk {P : Program} {w : World} {K : PySem.W.Frag} {mg : Str → Option Value} {base : Heap} {k : Nat} {x qual : Str} {params : Arguments} {body : List Stmt} {scope : Scope} {f : Addr} {fd : FuncData} (F : FunD K x qual params body scope [] [] f fd) (S : FnScope ["script", "cell"] ["script"] scope)
    (hbody : ∀ (cdv : Value) (A : Around) (outer : List PySem.Env) (s : Shared) (H : Hp) (E : XK), Cn (cxOf (CX P w) P w K mg base ["script", "cell"] qual scope f cdv A outer s H E) E k → PSs (cxOf (CX P w) P w K mg base ["script", "cell"] qual scope f cdv A outer s H E) body (tSeq (tAsg (tCell K) (gName 1)) (tS K mg E cupX)))
    (hkk : kkOf mg = false) : FnOk P w K mg base (CX P w) (k + 1) f fd ["script"] (spCup K) := by
  refine F.ok S (fun vs H Q E h => by obtain ⟨a, ns, e, _⟩ := h; rw [e]; rfl) fun cdv A outer s H vs Q E hr h => ?_
  refine ⟨_, hbody cdv A outer s H E (Cn.mk0 hr (takes_of rfl rfl rfl rfl) hkk S.nd), ?_⟩
  obtain ⟨a, ns, rfl, hS, hl, hb, hQ⟩ := h
  refine cell_run (Q := fun x H1 => gName 1 x _ H1 _) hS hl hb fun z H1 hz hz' => ?_
  obtain ⟨c0, c1, b0, b0', b1, b1', hrun⟩ := cup_run hz hz' none
  refine ⟨⟨K, mg, none⟩, ⟨fun _ => none, []⟩, [], [none, some (.p (.int z))], rfl, rfl, hok_bare K mg H1, ⟨rfl, fun i y q => ?_⟩, ?_⟩
  · cases i with
    | zero => cases q
    | succ i =>
      cases i with
      | zero => cases q; exact ⟨.int z, rfl, .p (.int z)⟩
      | succ i => simp at q
  · rw [hrun]
    intro v w' H' e' k' r'
    cases r' with
    | @h _ p hp =>
      obtain ⟨a', h1, _, us, h3, rv⟩ := k'.st 0 _ rfl
      rw [hp] at h1
      cases h1
      cases rv with
      | cons x1 x2 =>
        cases x2 with
        | cons x2 x3 =>
          cases x3
          cases rp_int x1
          cases rp_int x2
          exact hQ p H' ⟨c0, c1, h3, b0, b0', b1, b1'⟩
/-! ### the law -/
def spLaw (K : PySem.W.Frag) : Sp := fun vs H Q E => ∃ (a : Addr) (ns : List Int), vs = [.ref a] ∧ SqL K H a (ns.map V.int) ∧ ns.length ≤ 63 ∧ (∀ z ∈ ns, Builtin.Int.intBits z ≤ 1048576) ∧ ∀ H', Q (.bl true) H'
def tHead (K : PySem.W.Frag) : TS := tAsg (tCall (spCup K) [] E0 (tCons (tVar 0) tNil)) (gName 1)
theorem lawOk {P : Program} {w : World} {K : PySem.W.Frag} {mg : Str → Option Value} {base : Heap} {k l : Nat} {x qual : Str} {params : Arguments} {body : List Stmt} {scope : Scope} {f : Addr} {fd : FuncData} {N : List Str} {d : XS} (F : FunD K x qual params body scope [] [] f fd) (S : FnScope N ["script"] scope) (hN : N.length = l + 2)
    (hbody : ∀ (cdv : Value) (A : Around) (outer : List PySem.Env) (s : Shared) (H : Hp) (E : XK), Cn (cxOf (CX P w) P w K mg base N qual scope f cdv A outer s H E) E k → PSs (cxOf (CX P w) P w K mg base N qual scope f cdv A outer s H E) body (tSeq (tHead K) (tS K mg E d)))
    (hkk : kkOf mg = false) (hd : (d (none :: some .cup :: List.replicate l none) []).All (fun r _ => r = .rt (.p (.bool true))) (fun _ _ => False)) : FnOk P w K mg base (CX P w) (k + 1) f fd ["script"] (spLaw K) := by
  refine F.ok S (fun vs H Q E h => by obtain ⟨a, ns, e, _⟩ := h; rw [e]; rfl) fun cdv A outer s H vs Q E hr h => ?_
  refine ⟨_, hbody cdv A outer s H E (Cn.mk0 hr (takes_of rfl rfl rfl rfl) hkk S.nd), ?_⟩
  obtain ⟨a, ns, rfl, hS, hl, hb, hQ⟩ := h
  have hst : L2.start N [.ref a] = some (.ref a) :: none :: List.replicate l none := by
    unfold L2.start
    rw [hN]
    show some (V.ref a) :: List.replicate (l + 2 - 1) none = _
    rw [show l + 2 - 1 = l + 1 by omega, List.replicate_succ]
  rw [hst]
  refine ⟨.ref a, rfl, a, ns, rfl, hS, hl, hb, fun p H' hc => ?_⟩
  refine ⟨⟨K, mg, some p⟩, ⟨fun _ => none, []⟩, [], none :: some .cup :: List.replicate l none, rfl, rfl, ?_, ⟨by simp, fun i y q => ?_⟩, ?_⟩
  · exact ⟨fun _ _ h => (by cases h), fun i o q => by simp at q, rfl, List.nodup_nil, fun a q => by
      cases q
      exact ⟨rfl, List.not_mem_nil, hc⟩⟩
  · cases i with
    | zero => cases q
    | succ i =>
      cases i with
      | zero => cases q; exact ⟨.ref p, rfl, .cup rfl⟩
      | succ i =>
        simp only [List.getElem?_cons_succ, List.getElem?_replicate] at q
        split at q <;> cases q
  · refine hd.mono (fun r S' e => ?_) fun _ _ z => z.elim
    subst e
    intro v w' H'' e' k' r'
    rw [rp_bool r']
    exact hQ H''
def allN : Nat → (Nat → Bool) → Bool
  | 0, _ => true
  | n + 1, p => match p n with
    | true => allN n p
    | false => false
def okLaw : Cm Fl → Bool
  | .ret (.rt (.p (.bool true))) _ => true
  | .roll n f => allN n fun i => okLaw (f i)
  | _ => false
theorem allN_ok {p : Nat → Bool} : ∀ {n : Nat}, allN n p = true → ∀ i, i < n → p i = true
  | n + 1, h, i, hi => by
    unfold allN at h
    split at h
    · rename_i q
      by_cases e : i = n
      · rw [e]; exact q
      · exact allN_ok h i (by omega)
    · cases h
theorem okLaw_ok : ∀ {m : Cm Fl}, okLaw m = true → m.All (fun r _ => r = .rt (.p (.bool true))) (fun _ _ => False)
  | .ret a S, h => by
    unfold okLaw at h
    split at h
    · rename_i e; cases e; rfl
    · rename_i e; cases e
    · cases h
  | .exn e S, h => by cases h
  | .roll n f, h => fun i hi => okLaw_ok (m := f i) (allN_ok h i hi)
  | .stuck, h => by cases h
theorem walkA {l : PySem.W.OpenLaw} {k : Nat} {q : Program} {loose : List Str} {XP : (Str → Option Value) → Heap → Prop} {YP : World → Heap → Prop} {d : DefRec}
    (hn : l.most = some 63) (hdf : d.params.defaults = []) (hr : Room k callerA)
    (F : ∀ (w : World) (mg : Str → Option Value) (fa : Addr) (h : Heap), YP w h → h.Ns mainGlobals mg → mg d.name = some (.ref fa) →
      ∃ (K : PySem.W.Frag) (fd : FuncData), K.In h ∧ (∀ (s : Shared) (u : Value), BindsTo s fd ⟨[u], []⟩ [("script", u)]) ∧ ∀ base : Heap, K.In base → base.Ns mainGlobals mg → FnOk l.prog w K mg base (CX l.prog w) k fa fd ["script"] (spLaw K)) :
    PySem.W.WalkO q loose XP YP l.row.toRowW d [] (fun f vs => PySem.call f vs) := by
  refine Att.attach_callB hn hdf fun w s₀ s₁ mg mb fa o pm cd doc a vs ns G Y ho hd hcd hmg hobj hints hlen hbits hg => ?_
  obtain ⟨K, fd, KX, hb, hF⟩ := F w mg fa _ Y G.T.g hmg
  refine law_call KX G.T.g G.T.b G.T.builtins G.T.nolimit hg hobj hints (Nat.le_trans hlen (by rw [sizeLine_eq]; decide)) hr hF hb (fun H hO hS => ⟨a, ns, rfl, hS, hlen, hbits, fun _ => rfl⟩) fun H e s' hx => ?_
  obtain ⟨_, _, _, _, _, _, _, _, _, _, _, _, z⟩ := hx
  exact z
end RA

set_option exponentiation.threshold 9000
/-! RA20: the head's Hook, the law's first lines. -/
namespace RA
open PySem PySem.Spec PyProof.Rows L2
abbrev AlR : Type := He.AlT × Bool
def obsR (fa : List He.Fa) (fn : List He.DefD) (ts : List He.Tab) (ex : List (PySem.W.Frag → Bool)) (K : PySem.W.Frag) : AlR := (He.obsT fa fn ts K, ex.all fun f => f K)
def valR (fn : List He.DefD) (ts : List He.Tab) (w : World) : AlR := (He.valT fn ts w, true)
def obsRG (n : Nat) (fa : List He.Fa) (fn : List He.DefD) (ts : List He.Tab) (ex : List (PySem.W.Frag → Bool)) (g : Addr → Option Obj) : AlR := obsR fa fn ts ex (He.frG g (He.asD g n))
def SaysR (fa : List He.Fa) (fn : List He.DefD) (ts : List He.Tab) (ex : List (PySem.W.Frag → Bool)) (w : World) (K : PySem.W.Frag) : Prop := obsR fa fn ts ex K = valR fn ts w
def hookR (n : Nat) (fa : List He.Fa) (fn : List He.DefD) (ts : List He.Tab) (ex : List (PySem.W.Frag → Bool)) : PySem.W.Hook where
  α := AlR
  obs := fun s => obsRG n fa fn ts ex s.heap.get?
  val := fun w => valR fn ts w
  says := fun w h => ∃ K : PySem.W.Frag, K.In h ∧ SaysR fa fn ts ex w K
  of := fun _ _ e => ⟨_, He.frG_in, e⟩
  keeps := fun _ _ _ ⟨K, hK, c⟩ k => ⟨K, PySem.W.Frag.In.keeps hK k, c⟩
theorem obsRG_eq {n : Nat} {fa : List He.Fa} {fn : List He.DefD} {ts : List He.Tab} {ex : List (PySem.W.Frag → Bool)} {g : Addr → Option Obj} {s : Shared} (h : ∀ a, g a = s.heap.get? a) : obsRG n fa fn ts ex g = (hookR n fa fn ts ex).obs s := by
  have e : g = s.heap.get? := funext h
  rw [e] <;> rfl
theorem SaysR.vw {fa : List He.Fa} {fn : List He.DefD} {ts : List He.Tab} {ex : List (PySem.W.Frag → Bool)} {w : World} {K : PySem.W.Frag} {mg : Str → Option Value} {h : Heap} (c : SaysR fa fn ts ex w K) (X : K.In h) (G : h.Ns mainGlobals mg) : Vw fa fn ex K mg :=
  ⟨⟨h, X, G⟩, He.SaysT.d (congrArg (fun z : AlR => z.1) c), congrArg (fun z : AlR => z.2) c⟩
/-- no shelf, no keys kept apart -/
theorem Vw.nokk {fa : List He.Fa} {fn : List He.DefD} {ex : List (PySem.W.Frag → Bool)} {K : PySem.W.Frag} {mg : Str → Option Value} (V : Vw fa fn ex K mg) (i : Nat) (h : fa[i]? = some (.free ⟨#[83, 72, 69, 76, 70]⟩) := by rfl) : kkOf mg = false := by
  unfold kkOf
  rw [V.free i h]
  rfl
end RA

/-! RA21: d.pop(k). -/
namespace DT
open PySem PySem.Spec PyProof.Rows
section
variable {K : Type} [DecidableEq K] {prog : Program} {w : World} {knd : HeapKind prog w K}
theorem meetsPop1 {d b : Addr} {k : K} :
    MeetsIn prog w (Builtin.«dict.pop» ⟨[.ref d, .ref b], []⟩) (fun A R s => ∃ xs p, knd.room A.in1 ∧ knd.is s.heap k b ∧ s.heap.DictOfH knd d xs ∧ xs.length ≤ sizeLine ∧ atKey xs k = some p ∧
      ∀ h' tk, h'.DictOfH knd d (dropH xs k) → Heap.SameBut d s.heap h' → R (.ok (.ret p.2)) { s with heap := h', toks := tk }) :=
  .of_wp fun A R s ⟨xs, p, hu, hkey, hm, hsz, hp, hsome⟩ => by
    obtain ⟨o, es, ep, ho, hc, hdat, he, his, hn⟩ := id hm
    have hes : es.size = xs.length := size_of_entries he
    have hpart : (keyPart (Value.ref b)).isSome = false := rfl
    unfold Builtin.«dict.pop»
    refine wpAny_bind ?_
    unfold Builtin.Dict.keyAndDefault
    refine wpAny_bind (wpAny_notOrdered_dict hm.typeIs ?_)
    show wpAny _ _ (pure (d, Value.ref b, none)) _ _ s
    refine wpAny_pure ?_
    simp only [hpart, Bool.false_eq_true, if_false]
    refine wpAny_bind (wpAny_dictEntries ho hdat (wpAny_bind (wpAny_pure ?_)))
    cases hem : es.isEmpty with
    | true =>
      have h0 : xs = [] := by
        have z : es.size = 0 := by simpa using hem
        exact List.length_eq_zero_iff.mp (by omega)
      rw [h0] at hp
      cases hp
    | false =>
      simp only [Bool.false_eq_true, if_false]
      refine wpAny_bind (takeH hu hkey hm hsz (fun hno => ?_) fun p' e hp' hev h' hm' hs' => ?_)
      · rw [hno] at hp
        cases hp
      · rw [hp] at hp'
        cases hp'
        simp only [Option.isNone_some, Bool.false_eq_true, if_false]
        exact wpAny_bind (wpAny_letGo (wpAny_pure ⟨e.val, rfl, by rw [hev]; exact hsome h' _ hm' hs'⟩))
end
end DT
namespace RA
open PySem PySem.Spec L2
section
variable {X : Cx}
def rPopT1 : V → List V → Hp → VK → Prop := fun x xs H Q => ∃ (a : Addr) (kvs : List (List L2.Key × V)) (k : List L2.Key) (b : Addr) (v : V), x = .ref a ∧ xs = [.ref b] ∧ H a = some (.dT kvs) ∧ H b = some (.tup (k.map kV)) ∧ valV kvs k = some v ∧ Q v (upd H a (.dT (dropK kvs k)))
theorem mt_popT1 (hu : X.A.units + 1 < cLine) : MtR X "dict.pop" rPopT1 := by
  intro pins s σ H x xs v us Q I rx rxs h
  obtain ⟨a, kvs, k, b, v0, rfl, rfl, ha, hb, ev, q⟩ := h
  cases rx
  obtain ⟨u1, rfl, r1⟩ := vals1 rxs
  cases r1
  obtain ⟨z, hd, xs', rel, dd⟩ := dt_of I.hok ha
  have hz : xs'.length ≤ sizeLine := by rw [← Paired.length rel]; exact z
  have r := rel.val k
  rw [ev] at r
  obtain ⟨p, hp, rv⟩ : ∃ p, atKey xs' k = some p ∧ RelV v0 p.2 := by
    cases hp : atKey xs' k with
    | none => rw [hp] at r; exact (show False from r).elim
    | some p => rw [hp] at r; exact ⟨p, rfl, r⟩
  refine call_meetsIn PySem.F.slot_dict_pop dd.typeIs PySem.F.entry_dict_pop (PySem.F.args_dict_pop_2 _ _) (DT.meetsPop1 (knd := tupleKind (mixKind X.prog X.w)) (k := k))
    ⟨xs', p, tupleKind_room_in1 hu, key_of I.hok hb, dd, hz, hp, fun h' tk dd' hs => ?_⟩
  obtain ⟨o, es, ep, hq, h2, h3, h4, _, h5⟩ := dd'
  have I2 : Inv X pins σ (upd H a (.dT (dropK kvs k))) { s with heap := h', toks := tk } :=
    d_write I (by rw [ha]; exact True.intro) hs ⟨o, hq⟩ ⟨Nat.le_trans (dropK_le kvs k) z, hd, _, (DX.KT_drop k rel).keeps (fun c ys ec => (by rw [upd_ne (ne_of ec ha (fun z => nomatch z))]; exact ec)), o, es, ep, hq, h2, h3, h4, h5⟩
  exact ⟨v0, _, I2, rv, q⟩
def rPopK1 : V → List V → Hp → VK → Prop := fun x xs H Q => ∃ (a : Addr) (kvs : List (L2.Key × V)) (k : L2.Key) (v : V), x = .ref a ∧ xs = [kV k] ∧ H a = some (.dK kvs) ∧ valV kvs k = some v ∧ Q v (upd H a (.dK (dropK kvs k)))
theorem mt_popK1 : MtR X "dict.pop" rPopK1 := by
  intro pins s σ H x xs v us Q I rx rxs h
  obtain ⟨a, kvs, k, v0, rfl, rfl, ha, ev, q⟩ := h
  cases rx
  obtain ⟨u1, rfl, r1⟩ := vals1 rxs
  exact d_pop I ha r1 ev (.inl rfl) fun w' s' I' rw' => ⟨v0, _, I', rw', q⟩
def gDPop : AV → List AV → Store → Option (AV × Store) := fun o xs S => match xs with
  | [i] => match o with
    | .h n => match S[n]? with
      | some (.dk kvs) => match keyK i with
        | some k => match lookA keyB k kvs with
          | some v => some (v, S.set n (.dk (dropA keyB kvs k)))
          | none => none
        | none => none
      | some (.dt kvs) => match keyT i with
        | some k => match lookA keysB k kvs with
          | some v => some (v, S.set n (.dt (dropA keysB kvs k)))
          | none => none
        | none => none
      | _ => none
    | _ => none
  | _ => none
theorem MtR.or {id : String} {r t : V → List V → Hp → VK → Prop} (a : MtR X id r) (b : MtR X id t) : MtR X id (fun x xs H Q => r x xs H Q ∨ t x xs H Q) := fun pins s σ H x xs v us Q I rx rxs h => by
  rcases h with h | h
  · exact a pins s σ H x xs v us Q I rx rxs h
  · exact b pins s σ H x xs v us Q I rx rxs h
theorem mt_gDPop (hkk : kkOf X.mg = false) (hu : X.A.units + 1 < cLine) : MtR X "dict.pop" (rBM X.K X.mg gDPop) := MtR.imp (MtR.or mt_popK1 (mt_popT1 hu)) fun v vs H Q ⟨c, w, S, x, xs, z, S', hK, hM, k, rx, rs, e, q⟩ => by
  unfold gDPop at e
  split at e
  · rename_i i
    obtain ⟨u, rfl, ru⟩ := rps1 rs
    split at e
    · rename_i n
      split at e
      · rename_i kvs hm
        split at e
        · rename_i kk hk
          split at e
          · rename_i y hy
            cases e
            cases rx with
            | @h _ a ha =>
              obtain ⟨a', h1, _, ks, h3, h4⟩ := k.st _ _ hm
              rw [ha] at h1
              cases h1
              cases rp_keyK hk ru
              have hn : n < S.length := (List.getElem?_eq_some_iff.mp hm).1
              have ho := lookA_ok keyB_eq kk h4
              rw [hy] at ho
              obtain ⟨v0, ev, ho⟩ := (show ∃ v, valV ks kk = some v ∧ Rp c w v z from ho)
              exact .inl ⟨a, ks, kk, v0, rfl, rfl, h3, ev, q v0 w _ (Ext.put k ha) (k.put hn ha ⟨_, upd_same, dropA_ok keyB_eq kk h4⟩) ho⟩
          · cases e
        · cases e
      · rename_i kvs hm
        split at e
        · rename_i kk hk
          split at e
          · rename_i y hy
            cases e
            cases rx with
            | @h _ a ha =>
              obtain ⟨a', h1, _, ks, h3, h4⟩ := k.st _ _ hm
              rw [ha] at h1
              cases h1
              obtain ⟨b, rfl, hb⟩ := rp_keyT (by show kkOf c.mg = false; rw [hM]; exact hkk) k hk ru
              have hn : n < S.length := (List.getElem?_eq_some_iff.mp hm).1
              have ho := lookA_ok keysB_eq kk h4
              rw [hy] at ho
              obtain ⟨v0, ev, ho⟩ := (show ∃ v, valV ks kk = some v ∧ Rp c w v z from ho)
              exact .inr ⟨a, ks, kk, b, v0, rfl, rfl, h3, hb, ev, q v0 w _ (Ext.put k ha) (k.put hn ha ⟨_, upd_same, dropA_ok keysB_eq kk h4⟩) ho⟩
          · cases e
        · cases e
      · cases e
    · cases e
  · cases e
end
section
variable {X : Cx} {W : XK} {k : Nat} {apos cpos : Pos} {o e : Expr} {fo : XE} {ga : XA}
theorem dpop (C : Cn X W k) (ho : AE X W o fo) (ha : AA X W [e] ga) (hbase : attributeBase o "pop" X.env (eval o X.env) = eval o X.env := by rfl)
    (hfew : ((backTo cpos (starEach [e] X.env)).all (fun x => !x.1) && (backToKw cpos (keywordEach [] X.env)).all (fun x => x.1.isSome)
      && decide (([e] : List Expr).length + ([] : List Keyword).length + (if ([] : List Keyword).isEmpty then 0 else 1) < 30)) = true := by rfl)
    (hline : (apos.endLine == cpos.line) = true := by rfl) (hs : starEach [e] X.env = (false, eval e X.env) :: starEach [] X.env := by rfl) : AE X W (.Call (.Attribute o "pop" apos) [e] [] cpos) (eBM "dict" gDPop fo ga) :=
  ae_bm PySem.F.plainAttrs_dict PySem.F.slot_dict_pop PySem.F.type_dict_pop (mt_gDPop C.kk C.u1) ho ha hbase hfew hline hs rfl
end
/-- at every draw the law answers True -/
structure LawHd (l : Nat) (d : XS) : Prop where
  run : (d (none :: some .cup :: List.replicate l none) []).All (fun r _ => r = .rt (.p (.bool true))) (fun _ _ => False)
theorem LawHd.of {l : Nat} {d : XS} (h : okLaw (d (none :: some .cup :: List.replicate l none) []) = true) : LawHd l d := ⟨okLaw_ok h⟩
theorem lawOkH {P : Program} {w : World} {K : PySem.W.Frag} {mg : Str → Option Value} {base : Heap} {k l : Nat} {x qual : Str} {params : Arguments} {body : List Stmt} {scope : Scope} {f : Addr} {fd : FuncData} {N : List Str} {d : XS} (F : FunD K x qual params body scope [] [] f fd) (S : FnScope N ["script"] scope) (hN : N.length = l + 2)
    (hbody : ∀ (cdv : Value) (A : Around) (outer : List PySem.Env) (s : Shared) (H : Hp) (E : XK), Cn (cxOf (CX P w) P w K mg base N qual scope f cdv A outer s H E) E k → PSs (cxOf (CX P w) P w K mg base N qual scope f cdv A outer s H E) body (tSeq (tHead K) (tS K mg E d)))
    (hkk : kkOf mg = false) (hd : LawHd l d) : FnOk P w K mg base (CX P w) (k + 1) f fd ["script"] (spLaw K) := lawOk F S hN hbody hkk hd.run
end RA

namespace G
open PySem PySem.Spec L2 RA
def top (i : Nat) : Stmt := PySem.Challenge.pw_reducehouse_k53_kept_histories.main.body.getD i (.Pass ⟨0, 0, 0, 0⟩)
def fa : List He.Fa := [.free "SHELF",
  .free "isinstance",
  .free "tuple",
  .free "list",
  .free "int",
  .free "str",
  .free "bool",
  .glo "_law_mark",
  .free "len",
  .free "zip",
  .glo "_law_like",
  .glo "_law_roll",
  .glo "is_kept",
  .free "range",
  .glo "_law_long_right",
  .free "enumerate",
  .glo "_law_kept",
  .free "abs",
  .glo "_law_cup",
  .glo "law"]
def fn : List He.DefD := [⟨("_law_mark", none), "_law_mark", "_law_mark", defArgs (top 6), defBody (top 6), defScope (top 6), [], []⟩,
  ⟨("_law_like", none), "_law_like", "_law_like", defArgs (top 7), defBody (top 7), defScope (top 7), [], []⟩,
  ⟨("_law_roll", none), "_law_roll", "_law_roll", defArgs (top 4), defBody (top 4), defScope (top 4), [], []⟩,
  ⟨("is_kept", none), "is_kept", "is_kept", defArgs (top 1), defBody (top 1), defScope (top 1), [], []⟩,
  ⟨("_law_long_right", none), "_law_long_right", "_law_long_right", defArgs (top 8), defBody (top 8), defScope (top 8), [], []⟩,
  ⟨("_law_kept", none), "_law_kept", "_law_kept", defArgs (top 5), defBody (top 5), defScope (top 5), [], []⟩,
  ⟨("_law_cup", none), "_law_cup", "_law_cup", defArgs (top 3), defBody (top 3), defScope (top 3), [], []⟩,
  ⟨("law", none), "law", "law", defArgs (top 9), defBody (top 9), defScope (top 9), [], []⟩]
def ex : List (PySem.W.Frag → Bool) := []
section
variable {P : Program} {w : World} {K : PySem.W.Frag} {mg : Str → Option Value} {base : Heap}
def d__law_mark : XS := (sSeq (sIf (tOrX (toT (e2 (gIsN false) (eVar 0) (eC .none))) (toT (eIsi .bool (eVar 0)))) (sRet (eIf (toT (e2 (gIsN false) (eVar 0) (eC .none))) (eC (.int 0)) (eC (.int 1)))) sNext) (sSeq (sIf (tOrX (toT (eIsi .int (eVar 0))) (toT (eIsi .str (eVar 0)))) (sRet (eIf (toT (eIsi .int (eVar 0))) (eC (.int 2)) (eC (.int 3)))) sNext) (sRet (eIf (toT (eIsi .tuple (eVar 0))) (eC (.int 4)) (eIf (toT (eIsi .list (eVar 0))) (eC (.int 5)) (eC (.int 6)))))))
def m__law_mark : Mf := box (defRun 1 0 d__law_mark)
theorem sc__law_mark : FnScope ["value"] ["value"] (defScope (top 6)) := ⟨rfl, rfl, rfl, by decide +kernel, rfl, by decide +kernel, by decide +kernel⟩
theorem a__law_mark (V : Vw fa fn ex K mg) (hkk : kkOf mg = false) : FnA P w K mg base 1 "_law_mark" m__law_mark :=
  FnA.box (defA (k := 0) (V.dfn 0 7) hkk sc__law_mark (hb := (fun _ _ _ _ _ _ us hl => match us, hl with | [_], _ => rfl)) (hbody := (fun cdv A outer s H E f C => (ass_cons (as_if (at_w (aw_or (tstO op_gIsN (vr 0) ae_non) (aw_or1 (at_val (isi .bool (V.free 1) (vr 0) (tyE .bool (V.free 6) PyProof.Rows.boot_bool)))))) (ass_one (as_ret (ae_if (tstO op_gIsN (vr 0) ae_non) ae_int ae_int))) ass_nil)
  (ass_cons (as_if (at_w (aw_or (at_val (isi .int (V.free 1) (vr 0) (tyE .int (V.free 4) PyProof.Rows.boot_int))) (aw_or1 (at_val (isi .str (V.free 1) (vr 0) (tyE .str (V.free 5) PyProof.Rows.boot_str)))))) (ass_one (as_ret (ae_if (at_val (isi .int (V.free 1) (vr 0) (tyE .int (V.free 4) PyProof.Rows.boot_int))) ae_int ae_int))) ass_nil)
  (ass_one (as_ret (ae_if (at_val (isi .tuple (V.free 1) (vr 0) (tyE .tuple (V.free 2) PyProof.Rows.boot_tuple))) ae_int (ae_if (at_val (isi .list (V.free 1) (vr 0) (tyE .list (V.free 3) PyProof.Rows.boot_list))) ae_int ae_int)))))))))
def d__law_like (r : Nat → Mf) : XS := (sSeq (sSet 2 (eCall m__law_mark (aCons (eVar 1) aNil))) (sSeq (sIf (tOrX (toT (e2 (gEq true) (eCall m__law_mark (aCons (eVar 0) aNil)) (eVar 2))) (toT (e2 (gEq false) (eVar 2) (eC (.int 6))))) (sRet (eC (.bool false))) sNext) (sSeq (sIf (toT (e2 (gIn false) (eVar 2) (eTup (aCons (eC (.int 4)) (aCons (eC (.int 5)) aNil))))) (sRet (eAnd (e2 (gEq false) (eN gLen (aCons (eVar 0) aNil)) (eN gLen (aCons (eVar 1) aNil))) (e2 (gEq false) (eComp false [3, 4] (iZpX (aCons (eVar 0) (aCons (eVar 1) aNil))) (.tup [(.nm 3), (.nm 4)]) (tNotX (toT (eCall (r 0) (aCons (eVar 3) (aCons (eVar 4) aNil))))) (eC (.int 1))) (eLst false aNil)))) sNext) (sRet (e2 (gEq false) (eVar 0) (eVar 1))))))
def r__law_like : Nat → Nat → Mf
  | 0, _ => fun _ _ => .stuck
  | q + 1, _ => box (defRun 2 3 (d__law_like (r__law_like q)))
theorem sc__law_like : FnScope ["one", "other", "mark", "first", "second"] ["one", "other"] (defScope (top 7)) := ⟨rfl, rfl, rfl, by decide +kernel, rfl, by decide +kernel, by decide +kernel⟩
structure R__law_like (P : Program) (w : World) (K : PySem.W.Frag) (mg : Str → Option Value) (base : Heap) (q : Nat) : Prop where
  _law_like : FnA P w K mg base (1 + q) "_law_like" (r__law_like q 0)
theorem R__law_like_at (V : Vw fa fn ex K mg) (hkk : kkOf mg = false) : ∀ q : Nat, R__law_like P w K mg base q
  | 0 => ⟨(defS (V.dfn 1 10) sc__law_like (hb := (fun _ _ _ _ _ _ us hl => match us, hl with | [_, _], _ => rfl)))⟩
  | q + 1 => by
    have ih := R__law_like_at V hkk q
    exact ⟨(FnA.box (defA (k := 1 + q) (V.dfn 1 10) hkk sc__law_like (hb := (fun _ _ _ _ _ _ us hl => match us, hl with | [_, _], _ => rfl)) (hbody := (fun cdv A outer s H E f C => (ass_cons (st C 2 (cl C (a__law_mark V hkk) (aa_cons (vr 1) aa_nil) (Nat.le_trans (by decide : _ ≤ 1) (Nat.le_add_right _ _))))
  (ass_cons (as_if (at_w (aw_or (tstNe C (cl C (a__law_mark V hkk) (aa_cons (vr 0) aa_nil) (Nat.le_trans (by decide : _ ≤ 1) (Nat.le_add_right _ _))) (vr 2)) (aw_or1 (tstEq C (vr 2) ae_int)))) (ass_one (as_ret ae_bl)) ass_nil)
  (ass_cons (as_if (tstIn C (vr 2) (ae_tup (aa_cons ae_int (aa_cons ae_int aa_nil)))) (ass_one (as_ret (ae_and (cmpEq C (bLen (V.free 8) (aa_cons (vr 0) aa_nil)) (bLen (V.free 8) (aa_cons (vr 1) aa_nil))) (ae_one (cmpEq C (cmpr false [("first", 3), ("second", 4)] C (ai_zp rfl (V.free 9) (aa_cons (vr 0) (aa_cons (vr 1) aa_nil))) (fun s H c l fp C => (ptn C (aps_cons (pN C 3) (aps_cons (pN C 4) aps_nil)))) (fun s H c l fp C => (ats_one (at_not (at_val (cl C (ih._law_like) (aa_cons (vr 3) (aa_cons (vr 4) aa_nil)) (Nat.le_refl _)))))) (fun s H c l fp C => ae_int)) (ae_lst false aa_nil)))))) ass_nil)
  (ass_one (as_ret (cmpEq C (vr 0) (vr 1)))))))))))⟩
def m__law_like : Mf := r__law_like 4 0
theorem a__law_like (V : Vw fa fn ex K mg) (hkk : kkOf mg = false) : FnA P w K mg base 5 "_law_like" m__law_like := (R__law_like_at V hkk 4)._law_like
def d__law_roll : XS := (sSeq (sIf (toT (e2 gGt (e2 gIx (eVar 0) (eC (.int 0))) (eC (.int 0)))) (sSeq (sSet 2 (e2 gMod (eN gInt1 (aCons (e2 gIx (eVar 0) (eC (.int 0))) aNil)) (eVar 1))) (sSeq (sAsg (e2 gDivW (e2 gIx (eVar 0) (eC (.int 0))) (eVar 1)) (gPutX (eVar 0) (eC (.int 0)))) (sRet (eVar 2)))) sNext) (sSeq (sAsg (e2 gMod (eN gInt1 (aCons (e2 (gAdd false) (e2 (gMul false) (e2 gIx (eVar 0) (eC (.int 1))) (eC (.int 31051))) (eC (.int 7993))) aNil)) (eC (.int 2147483543))) (gPutX (eVar 0) (eC (.int 1)))) (sSeq (sSet 3 (e2 gMod (eN gInt1 (aCons (e2 (gMul false) (e2 gIx (eVar 0) (eC (.int 1))) (e2 (gAdd false) (e2 gIx (eVar 0) (eC (.int 1))) (eC (.int 229)))) aNil)) (eC (.int 2147483587)))) (sRet (e2 gMod (eN gInt1 (aCons (e2 gDivW (eVar 3) (eC (.int 821))) aNil)) (eVar 1))))))
theorem sc__law_roll : FnScope ["cup", "many", "found", "deep"] ["cup", "many"] (defScope (top 4)) := ⟨rfl, rfl, rfl, by decide +kernel, rfl, by decide +kernel, by decide +kernel⟩
def m__law_roll : Mf := mRoll
theorem a__law_roll (V : Vw fa fn ex K mg) (hkk : kkOf mg = false) : FnA P w K mg base 1 "_law_roll" m__law_roll :=
  rollA (defA (k := 0) (V.dfn 2 11) hkk sc__law_roll (hb := (fun _ _ _ _ _ _ us hl => match us, hl with | [_, _], _ => rfl)) (hbody := (fun cdv A outer s H E f C => (ass_cons (as_if (tstO op_gGt (ix C (vr 0) ae_int) ae_int) (ass_cons (st C 2 (ae_bin op_gMod (bInt (V.free 4) (aa_cons (ix C (vr 0) ae_int) aa_nil)) (vr 1)))
  (ass_cons (as_asg (ae_bin op_gDivW (ix C (vr 0) ae_int) (vr 1)) (ag_sub C.kk C.u1 (vr 0) ae_int))
  (ass_one (as_ret (vr 2))))) ass_nil)
  (ass_cons (as_asg (ae_bin op_gMod (bInt (V.free 4) (aa_cons (ae_bin (op_gAdd false) (ae_bin (op_gMul false) (ix C (vr 0) ae_int) ae_int) ae_int) aa_nil)) ae_int) (ag_sub C.kk C.u1 (vr 0) ae_int))
  (ass_cons (st C 3 (ae_bin op_gMod (bInt (V.free 4) (aa_cons (ae_bin (op_gMul false) (ix C (vr 0) ae_int) (ae_bin (op_gAdd false) (ix C (vr 0) ae_int) ae_int)) aa_nil)) ae_int))
  (ass_one (as_ret (ae_bin op_gMod (bInt (V.free 4) (aa_cons (ae_bin op_gDivW (vr 3) ae_int) aa_nil)) (vr 1)))))))))) rfl
def d_is_kept : XS := (sSeq (sPar 1 2 (aCons eDt (aCons (eLst true aNil) aNil))) (sSeq (sFor (iAny (eVar 0)) (gUnX 3 (gsCons (gNm 3) (gsCons (gNm 4) (gsCons (gNm 5) gsNil)))) (sIf (toT (e2 (gEq false) (eVar 4) (eC (.str ⟨#[100, 111, 110, 101]⟩)))) (sExpr (eBM "list" gApp (eVar 2) (aCons (eVar 5) aNil))) (sIf (toT (e2 (gEq false) (eVar 4) (eC (.str ⟨#[99, 111, 109, 109, 105, 116, 116, 101, 100]⟩)))) (sSeq (sIf (toT (e2 (gIn false) (eCut false (eVar 5) oNone (oSome (eC (.int 2)))) (eVar 1))) (sRet (eC (.bool false))) sNext) (sAsg (e2 gIx (eVar 5) (eC (.int 2))) (gPutX (eVar 1) (eCut false (eVar 5) oNone (oSome (eC (.int 2))))))) (sSeq (sIf (tOrX (toT (e2 (gIn false) (e2 gIx (eVar 5) (eC (.int 0))) (eVar 2))) (tOrX (toT (e2 (gEq true) (eGet2 (eVar 1) (eCut false (eVar 5) oNone (oSome (eC (.int 2)))) (eC .none)) (e2 gIx (eVar 5) (eC (.int 2))))) (toT (e2 (gEq true) (e2 gIx (eVar 5) (eC (.int 3))) (eTup aNil))))) (sRet (eC (.bool false))) sNext) (sExpr (eBM "dict" gDPop (eVar 1) (aCons (eCut false (eVar 5) oNone (oSome (eC (.int 2)))) aNil))))))) (sRet (eC (.bool true)))))
def m_is_kept : Mf := box (defRun 1 5 d_is_kept)
theorem sc_is_kept : FnScope ["history", "held", "done", "moment", "word", "thing"] ["history"] (defScope (top 1)) := ⟨rfl, rfl, rfl, by decide +kernel, rfl, by decide +kernel, by decide +kernel⟩
theorem a_is_kept (V : Vw fa fn ex K mg) (hkk : kkOf mg = false) : FnA P w K mg base 1 "is_kept" m_is_kept :=
  FnA.box (defA (k := 0) (V.dfn 3 12) hkk sc_is_kept (hb := (fun _ _ _ _ _ _ us hl => match us, hl with | [_], _ => rfl)) (hbody := (fun cdv A outer s H E f C => (ass_cons (par C 1 2 (aa_cons ae_dt (aa_cons (ae_lst true aa_nil) aa_nil)))
  (ass_cons (as_for C.ps C.calm (ai_any (vr 0)) (ag_un C.calm (ags_cons (gN C 3) (ags_cons (gN C 4) (ags_cons (gN C 5) ags_nil)))) (ass_one (as_if (tstEq C (vr 4) (ae_str ⟨#[100, 111, 110, 101]⟩)) (ass_one (as_expr (ae_app (vr 2) (aa_cons (vr 5) aa_nil)))) (ass_one (as_if (tstEq C (vr 4) (ae_str ⟨#[99, 111, 109, 109, 105, 116, 116, 101, 100]⟩)) (ass_cons (as_if (tstIn C (ae_cut false (vr 5) ao_none (ao_some ae_int)) (vr 1)) (ass_one (as_ret ae_bl)) ass_nil)
  (ass_one (as_asg (ix C (vr 5) ae_int) (ag_sub C.kk C.u1 (vr 1) (ae_cut false (vr 5) ao_none (ao_some ae_int)))))) (ass_cons (as_if (at_w (aw_or (tstIn C (ix C (vr 5) ae_int) (vr 2)) (aw_or (tstNe C (get2 C (vr 1) (ae_cut false (vr 5) ao_none (ao_some ae_int)) ae_non) (ix C (vr 5) ae_int)) (aw_or1 (tstNe C (ix C (vr 5) ae_int) (ae_tup aa_nil)))))) (ass_one (as_ret ae_bl)) ass_nil)
  (ass_one (as_expr (dpop C (vr 1) (aa_cons (ae_cut false (vr 5) ao_none (ao_some ae_int)) aa_nil))))))))))
  (ass_one (as_ret ae_bl)))))))
def d__law_long_right : XS := (sSeq (sAsg (eTup (aCons (eLst false aNil) (aCons (e2 (gAdd false) (eC (.int 20)) (eCall m__law_roll (aCons (eVar 0) (aCons (eC (.int 60)) aNil)))) aNil))) (gUnX 2 (gsCons (gNm 1) (gsCons (gNm 2) gsNil)))) (sSeq (sFor (iRg1 (aCons (eVar 2) aNil)) (gNm 3) (sSet 1 (e2 (gAdd false) (eVar 1) (eLst false (aCons (eTup (aCons (e2 (gMul false) (eC (.int 2)) (eVar 3)) (aCons (eC (.str ⟨#[99, 111, 109, 109, 105, 116, 116, 101, 100]⟩)) (aCons (eTup (aCons (eC (.int 0)) (aCons (eC (.int 1)) (aCons (e2 (gAdd false) (eVar 3) (eC (.int 1))) (aCons (eTup (aCons (eTup (aCons (eC (.int 0)) (aCons (eC (.int 0)) aNil))) aNil)) aNil))))) aNil)))) (aCons (eTup (aCons (e2 (gAdd false) (e2 (gMul false) (eC (.int 2)) (eVar 3)) (eC (.int 1))) (aCons (eC (.str ⟨#[100, 114, 111, 112, 112, 101, 100]⟩)) (aCons (eTup (aCons (eC (.int 0)) (aCons (eC (.int 1)) (aCons (e2 (gAdd false) (eVar 3) (eC (.int 1))) (aCons (eTup aNil) aNil))))) aNil)))) aNil)))))) (sSeq (sSet 1 (e2 (gAdd false) (eVar 1) (eLst false (aCons (eTup (aCons (e2 (gMul false) (eC (.int 2)) (eVar 2)) (aCons (eC (.str ⟨#[99, 111, 109, 109, 105, 116, 116, 101, 100]⟩)) (aCons (eTup (aCons (eC (.int 0)) (aCons (eC (.int 1)) (aCons (e2 (gAdd false) (eVar 2) (eC (.int 1))) (aCons (eTup (aCons (eTup (aCons (eC (.int 0)) (aCons (eC (.int 0)) aNil))) aNil)) aNil))))) aNil)))) (aCons (eTup (aCons (e2 (gAdd false) (e2 (gMul false) (eC (.int 2)) (eVar 2)) (eC (.int 1))) (aCons (eC (.str ⟨#[100, 111, 110, 101]⟩)) (aCons (eC (.int 0)) aNil)))) aNil))))) (sSeq (sSet 4 (e2 (gAdd false) (e2 (gMul false) (eC (.int 2)) (eVar 2)) (eC (.int 2)))) (sSeq (sSet 5 (eLst false (aCons (eTup (aCons (eVar 4) (aCons (eC (.str ⟨#[100, 114, 111, 112, 112, 101, 100]⟩)) (aCons (eTup (aCons (eC (.int 0)) (aCons (eC (.int 1)) (aCons (e2 (gAdd false) (eVar 2) (eC (.int 1))) (aCons (eTup aNil) aNil))))) aNil)))) (aCons (eTup (aCons (eVar 4) (aCons (eC (.str ⟨#[99, 111, 109, 109, 105, 116, 116, 101, 100]⟩)) (aCons (eTup (aCons (eC (.int 0)) (aCons (eC (.int 1)) (aCons (e2 (gAdd false) (eVar 2) (eC (.int 2))) (aCons (eTup (aCons (eTup (aCons (eC (.int 0)) (aCons (eC (.int 0)) aNil))) aNil)) aNil))))) aNil)))) (aCons (eTup (aCons (eVar 4) (aCons (eC (.str ⟨#[100, 114, 111, 112, 112, 101, 100]⟩)) (aCons (eTup (aCons (eC (.int 1)) (aCons (eC (.int 1)) (aCons (eC (.int 1)) (aCons (eTup aNil) aNil))))) aNil)))) aNil))))) (sSeq (sSet 6 (e2 (gAdd false) (eLst false (aCons (eCall m_is_kept (aCons (eN gTuple (aCons (eVar 1) aNil)) aNil)) (aCons (eCall m_is_kept (aCons (eN gTuple (aCons (e2 (gAdd false) (eVar 1) (eLst false (aCons (eTup (aCons (eVar 4) (aCons (eC (.str ⟨#[99, 111, 109, 109, 105, 116, 116, 101, 100]⟩)) (aCons (eTup (aCons (eC (.int 1)) (aCons (eC (.int 1)) (aCons (eC (.int 1)) (aCons (eTup (aCons (eTup (aCons (eC (.int 0)) (aCons (eC (.int 0)) aNil))) aNil)) aNil))))) aNil)))) aNil))) aNil)) aNil)) aNil))) (eComp false [10] (iAny (eVar 5)) (.nm 10) tYesX (eCall m_is_kept (aCons (eN gTuple (aCons (e2 (gAdd false) (eVar 1) (eLst false (aCons (eVar 10) aNil))) aNil)) aNil))))) (sSeq (sSet 7 (e2 (gAdd false) (e2 (gMul false) (eC (.int 2)) (eCall m__law_roll (aCons (eVar 0) (aCons (eVar 2) aNil)))) (eC (.int 1)))) (sSeq (sSet 8 (e2 (gAdd false) (e2 (gAdd false) (eCut false (eVar 1) oNone (oSome (eVar 7))) (eLst false (aCons (e2 (gAdd false) (eCut false (e2 gIx (eVar 1) (eVar 7)) oNone (oSome (eC (.int 2)))) (eTup (aCons (eTup (aCons (eC (.int 0)) (aCons (eC (.int 1)) (aCons (e2 (gAdd false) (e2 gIx (e2 gIx (e2 gIx (eVar 1) (eVar 7)) (eC (.int 2))) (eC (.int 2))) (eC (.int 1))) (aCons (eTup aNil) aNil))))) aNil))) aNil))) (eCut false (eVar 1) (oSome (e2 (gAdd false) (eVar 7) (eC (.int 1)))) oNone))) (sSeq (sSet 9 (e2 (gAdd false) (e2 (gAdd false) (eCut false (eVar 1) oNone (oSome (eVar 7))) (eLst false (aCons (e2 (gAdd false) (eCut false (e2 gIx (eVar 1) (eVar 7)) oNone (oSome (eC (.int 2)))) (eTup (aCons (e2 (gAdd false) (eCut false (e2 gIx (e2 gIx (eVar 1) (eVar 7)) (eC (.int 2))) oNone (oSome (eC (.int 3)))) (eTup (aCons (eTup (aCons (eC (.int 2)) aNil)) aNil))) aNil))) aNil))) (eCut false (eVar 1) (oSome (e2 (gAdd false) (eVar 7) (eC (.int 1)))) oNone))) (sRet (eCall m__law_like (aCons (e2 (gAdd false) (eVar 6) (eLst false (aCons (eCall m_is_kept (aCons (eN gTuple (aCons (eVar 8) aNil)) aNil)) (aCons (eCall m_is_kept (aCons (eN gTuple (aCons (eVar 9) aNil)) aNil)) (aCons (eCall m_is_kept (aCons (eN gTuple (aCons (e2 (gAdd false) (eCut false (eVar 1) oNone (oSome (eVar 7))) (eCut false (eVar 1) (oSome (e2 (gAdd false) (eVar 7) (eC (.int 1)))) oNone)) aNil)) aNil)) aNil))))) (aCons (e2 (gAdd false) (eLst false (aCons (eC (.bool true)) (aCons (eC (.bool true)) aNil))) (e2 (gMul false) (eLst false (aCons (eC (.bool false)) aNil)) (eC (.int 6)))) aNil)))))))))))))
def m__law_long_right : Mf := box (defRun 1 10 d__law_long_right)
theorem sc__law_long_right : FnScope ["cup", "rows", "many", "moment", "late", "bad", "told", "place", "turned", "left", "row"] ["cup"] (defScope (top 8)) := ⟨rfl, rfl, rfl, by decide +kernel, rfl, by decide +kernel, by decide +kernel⟩
theorem a__law_long_right (V : Vw fa fn ex K mg) (hkk : kkOf mg = false) : FnA P w K mg base 6 "_law_long_right" m__law_long_right :=
  FnA.box (defA (k := 5) (V.dfn 4 14) hkk sc__law_long_right (hb := (fun _ _ _ _ _ _ us hl => match us, hl with | [_], _ => rfl)) (hbody := (fun cdv A outer s H E f C => (ass_cons (as_asg (ae_tup (aa_cons (ae_lst false aa_nil) (aa_cons (ae_bin (op_gAdd false) ae_int (cl C (a__law_roll V hkk) (aa_cons (vr 0) (aa_cons ae_int aa_nil)) (by decide))) aa_nil))) (ag_un C.calm (ags_cons (gN C 1) (ags_cons (gN C 2) ags_nil))))
  (ass_cons (as_for C.ps C.calm (ai_rg1 rfl (V.free 13) (aa_cons (vr 2) aa_nil)) (gN C 3) (ass_one (st C 1 (ae_bin (op_gAdd false) (vr 1) (ae_lst false (aa_cons (ae_tup (aa_cons (ae_bin (op_gMul false) ae_int (vr 3)) (aa_cons (ae_str ⟨#[99, 111, 109, 109, 105, 116, 116, 101, 100]⟩) (aa_cons (ae_tup (aa_cons ae_int (aa_cons ae_int (aa_cons (ae_bin (op_gAdd false) (vr 3) ae_int) (aa_cons (ae_tup (aa_cons (ae_tup (aa_cons ae_int (aa_cons ae_int aa_nil))) aa_nil)) aa_nil))))) aa_nil)))) (aa_cons (ae_tup (aa_cons (ae_bin (op_gAdd false) (ae_bin (op_gMul false) ae_int (vr 3)) ae_int) (aa_cons (ae_str ⟨#[100, 114, 111, 112, 112, 101, 100]⟩) (aa_cons (ae_tup (aa_cons ae_int (aa_cons ae_int (aa_cons (ae_bin (op_gAdd false) (vr 3) ae_int) (aa_cons (ae_tup aa_nil) aa_nil))))) aa_nil)))) aa_nil)))))))
  (ass_cons (st C 1 (ae_bin (op_gAdd false) (vr 1) (ae_lst false (aa_cons (ae_tup (aa_cons (ae_bin (op_gMul false) ae_int (vr 2)) (aa_cons (ae_str ⟨#[99, 111, 109, 109, 105, 116, 116, 101, 100]⟩) (aa_cons (ae_tup (aa_cons ae_int (aa_cons ae_int (aa_cons (ae_bin (op_gAdd false) (vr 2) ae_int) (aa_cons (ae_tup (aa_cons (ae_tup (aa_cons ae_int (aa_cons ae_int aa_nil))) aa_nil)) aa_nil))))) aa_nil)))) (aa_cons (ae_tup (aa_cons (ae_bin (op_gAdd false) (ae_bin (op_gMul false) ae_int (vr 2)) ae_int) (aa_cons (ae_str ⟨#[100, 111, 110, 101]⟩) (aa_cons ae_int aa_nil)))) aa_nil)))))
  (ass_cons (st C 4 (ae_bin (op_gAdd false) (ae_bin (op_gMul false) ae_int (vr 2)) ae_int))
  (ass_cons (st C 5 (ae_lst false (aa_cons (ae_tup (aa_cons (vr 4) (aa_cons (ae_str ⟨#[100, 114, 111, 112, 112, 101, 100]⟩) (aa_cons (ae_tup (aa_cons ae_int (aa_cons ae_int (aa_cons (ae_bin (op_gAdd false) (vr 2) ae_int) (aa_cons (ae_tup aa_nil) aa_nil))))) aa_nil)))) (aa_cons (ae_tup (aa_cons (vr 4) (aa_cons (ae_str ⟨#[99, 111, 109, 109, 105, 116, 116, 101, 100]⟩) (aa_cons (ae_tup (aa_cons ae_int (aa_cons ae_int (aa_cons (ae_bin (op_gAdd false) (vr 2) ae_int) (aa_cons (ae_tup (aa_cons (ae_tup (aa_cons ae_int (aa_cons ae_int aa_nil))) aa_nil)) aa_nil))))) aa_nil)))) (aa_cons (ae_tup (aa_cons (vr 4) (aa_cons (ae_str ⟨#[100, 114, 111, 112, 112, 101, 100]⟩) (aa_cons (ae_tup (aa_cons ae_int (aa_cons ae_int (aa_cons ae_int (aa_cons (ae_tup aa_nil) aa_nil))))) aa_nil)))) aa_nil)))))
  (ass_cons (st C 6 (ae_bin (op_gAdd false) (ae_lst false (aa_cons (cl C (a_is_kept V hkk) (aa_cons (bTuple (V.free 2) (aa_cons (vr 1) aa_nil)) aa_nil) (by decide)) (aa_cons (cl C (a_is_kept V hkk) (aa_cons (bTuple (V.free 2) (aa_cons (ae_bin (op_gAdd false) (vr 1) (ae_lst false (aa_cons (ae_tup (aa_cons (vr 4) (aa_cons (ae_str ⟨#[99, 111, 109, 109, 105, 116, 116, 101, 100]⟩) (aa_cons (ae_tup (aa_cons ae_int (aa_cons ae_int (aa_cons ae_int (aa_cons (ae_tup (aa_cons (ae_tup (aa_cons ae_int (aa_cons ae_int aa_nil))) aa_nil)) aa_nil))))) aa_nil)))) aa_nil))) aa_nil)) aa_nil) (by decide)) aa_nil))) (cmpr false [("row", 10)] C (ai_any (vr 5)) (fun s H c l fp C => (pN C 10)) (fun s H c l fp C => ats_nil) (fun s H c l fp C => (cl C (a_is_kept V hkk) (aa_cons (bTuple (V.free 2) (aa_cons (ae_bin (op_gAdd false) (vr 1) (ae_lst false (aa_cons (vr 10) aa_nil))) aa_nil)) aa_nil) (by decide))))))
  (ass_cons (st C 7 (ae_bin (op_gAdd false) (ae_bin (op_gMul false) ae_int (cl C (a__law_roll V hkk) (aa_cons (vr 0) (aa_cons (vr 2) aa_nil)) (by decide))) ae_int))
  (ass_cons (st C 8 (ae_bin (op_gAdd false) (ae_bin (op_gAdd false) (ae_cut false (vr 1) ao_none (ao_some (vr 7))) (ae_lst false (aa_cons (ae_bin (op_gAdd false) (ae_cut false (ix C (vr 1) (vr 7)) ao_none (ao_some ae_int)) (ae_tup (aa_cons (ae_tup (aa_cons ae_int (aa_cons ae_int (aa_cons (ae_bin (op_gAdd false) (ix C (ix C (ix C (vr 1) (vr 7)) ae_int) ae_int) ae_int) (aa_cons (ae_tup aa_nil) aa_nil))))) aa_nil))) aa_nil))) (ae_cut false (vr 1) (ao_some (ae_bin (op_gAdd false) (vr 7) ae_int)) ao_none)))
  (ass_cons (st C 9 (ae_bin (op_gAdd false) (ae_bin (op_gAdd false) (ae_cut false (vr 1) ao_none (ao_some (vr 7))) (ae_lst false (aa_cons (ae_bin (op_gAdd false) (ae_cut false (ix C (vr 1) (vr 7)) ao_none (ao_some ae_int)) (ae_tup (aa_cons (ae_bin (op_gAdd false) (ae_cut false (ix C (ix C (vr 1) (vr 7)) ae_int) ao_none (ao_some ae_int)) (ae_tup (aa_cons (ae_tup (aa_cons ae_int aa_nil)) aa_nil))) aa_nil))) aa_nil))) (ae_cut false (vr 1) (ao_some (ae_bin (op_gAdd false) (vr 7) ae_int)) ao_none)))
  (ass_one (as_ret (cl C (a__law_like V hkk) (aa_cons (ae_bin (op_gAdd false) (vr 6) (ae_lst false (aa_cons (cl C (a_is_kept V hkk) (aa_cons (bTuple (V.free 2) (aa_cons (vr 8) aa_nil)) aa_nil) (by decide)) (aa_cons (cl C (a_is_kept V hkk) (aa_cons (bTuple (V.free 2) (aa_cons (vr 9) aa_nil)) aa_nil) (by decide)) (aa_cons (cl C (a_is_kept V hkk) (aa_cons (bTuple (V.free 2) (aa_cons (ae_bin (op_gAdd false) (ae_cut false (vr 1) ao_none (ao_some (vr 7))) (ae_cut false (vr 1) (ao_some (ae_bin (op_gAdd false) (vr 7) ae_int)) ao_none)) aa_nil)) aa_nil) (by decide)) aa_nil))))) (aa_cons (ae_bin (op_gAdd false) (ae_lst false (aa_cons ae_bl (aa_cons ae_bl aa_nil))) (ae_bin (op_gMul false) (ae_lst false (aa_cons ae_bl aa_nil)) ae_int)) aa_nil)) (by decide))))))))))))))))
def d__law_kept : XS := (sSeq (sFor (iEnA (aCons (eVar 0) aNil)) (gUnX 2 (gsCons (gNm 1) (gsCons (gUnX 3 (gsCons (gNm 2) (gsCons (gNm 3) (gsCons (gNm 4) gsNil)))) gsNil))) (sSeq (sIf (toT (e2 (gEq false) (eVar 3) (eC (.str ⟨#[100, 111, 110, 101]⟩)))) sCont sNext) (sSeq (sSet 5 (eComp false [6] (iAny (eCut false (eVar 0) oNone (oSome (eVar 1)))) (.nm 6) (tAndX (toT (e2 (gEq true) (e2 gIx (eVar 6) (eC (.int 1))) (eC (.str ⟨#[100, 111, 110, 101]⟩)))) (toT (e2 (gEq false) (eCut false (e2 gIx (eVar 6) (eC (.int 2))) oNone (oSome (eC (.int 2)))) (eCut false (eVar 4) oNone (oSome (eC (.int 2))))))) (eVar 6))) (sSeq (sIf (tAndX (toT (e2 (gEq false) (eVar 3) (eC (.str ⟨#[99, 111, 109, 109, 105, 116, 116, 101, 100]⟩)))) (tAndX (toT (e2 (gEq true) (eVar 5) (eLst false aNil))) (toT (e2 (gEq false) (e2 gIx (e2 gIx (eVar 5) (eNeg (eC (.int 1)))) (eC (.int 1))) (eC (.str ⟨#[99, 111, 109, 109, 105, 116, 116, 101, 100]⟩)))))) (sRet (eC (.bool false))) sNext) (sIf (toT (e2 (gEq false) (eVar 3) (eC (.str ⟨#[100, 114, 111, 112, 112, 101, 100]⟩)))) (sSeq (sIf (tOrX (toT (e2 (gEq false) (eVar 5) (eLst false aNil))) (tOrX (toT (e2 (gEq true) (e2 gIx (e2 gIx (eVar 5) (eNeg (eC (.int 1)))) (eC (.int 1))) (eC (.str ⟨#[99, 111, 109, 109, 105, 116, 116, 101, 100]⟩)))) (tOrX (toT (e2 (gEq true) (e2 gIx (e2 gIx (e2 gIx (eVar 5) (eNeg (eC (.int 1)))) (eC (.int 2))) (eC (.int 2))) (e2 gIx (eVar 4) (eC (.int 2))))) (toT (e2 (gEq true) (e2 gIx (eVar 4) (eC (.int 3))) (eTup aNil)))))) (sRet (eC (.bool false))) sNext) (sIf (toT (e2 (gEq true) (eComp false [6] (iAny (eCut false (eVar 0) oNone (oSome (eVar 1)))) (.nm 6) (tAndX (toT (e2 (gEq false) (e2 gIx (eVar 6) (eC (.int 1))) (eC (.str ⟨#[100, 111, 110, 101]⟩)))) (toT (e2 (gEq false) (e2 gIx (eVar 6) (eC (.int 2))) (e2 gIx (eVar 4) (eC (.int 0)))))) (eVar 6)) (eLst false aNil))) (sRet (eC (.bool false))) sNext)) sNext))))) (sRet (eC (.bool true))))
def m__law_kept : Mf := defRun 1 6 d__law_kept
theorem sc__law_kept : FnScope ["rows", "at", "moment", "word", "thing", "ahead", "row"] ["rows"] (defScope (top 5)) := ⟨rfl, rfl, rfl, by decide +kernel, rfl, by decide +kernel, by decide +kernel⟩
theorem a__law_kept (V : Vw fa fn ex K mg) (hkk : kkOf mg = false) : FnA P w K mg base 1 "_law_kept" m__law_kept :=
  (defA (k := 0) (V.dfn 5 16) hkk sc__law_kept (hb := (fun _ _ _ _ _ _ us hl => match us, hl with | [_], _ => rfl)) (hbody := (fun cdv A outer s H E f C => (ass_cons (as_for C.ps C.calm (ai_enA rfl (V.free 15) (aa_cons (vr 0) aa_nil)) (ag_un C.calm (ags_cons (gN C 1) (ags_cons (ag_un C.calm (ags_cons (gN C 2) (ags_cons (gN C 3) (ags_cons (gN C 4) ags_nil)))) ags_nil))) (ass_cons (as_if (tstEq C (vr 3) (ae_str ⟨#[100, 111, 110, 101]⟩)) (ass_one as_cont) ass_nil)
  (ass_cons (stCmpr false [("row", 6)] C 5 (ai_any (ae_cut false (vr 0) ao_none (ao_some (vr 1)))) (fun s H c l fp C => (pN C 6)) (fun s H c l fp C => (ats_one (at_w (aw_and (tstNe C (ix C (vr 6) ae_int) (ae_str ⟨#[100, 111, 110, 101]⟩)) (aw_and1 (tstEq C (ae_cut false (ix C (vr 6) ae_int) ao_none (ao_some ae_int)) (ae_cut false (vr 4) ao_none (ao_some ae_int)))))))) (fun s H c l fp C => (vr 6)))
  (ass_cons (as_if (at_w (aw_and (tstEq C (vr 3) (ae_str ⟨#[99, 111, 109, 109, 105, 116, 116, 101, 100]⟩)) (aw_and (tstNe C (vr 5) (ae_lst false aa_nil)) (aw_and1 (tstEq C (ix C (ix C (vr 5) (ae_neg ae_int)) ae_int) (ae_str ⟨#[99, 111, 109, 109, 105, 116, 116, 101, 100]⟩)))))) (ass_one (as_ret ae_bl)) ass_nil)
  (ass_one (as_if (tstEq C (vr 3) (ae_str ⟨#[100, 114, 111, 112, 112, 101, 100]⟩)) (ass_cons (as_if (at_w (aw_or (tstEq C (vr 5) (ae_lst false aa_nil)) (aw_or (tstNe C (ix C (ix C (vr 5) (ae_neg ae_int)) ae_int) (ae_str ⟨#[99, 111, 109, 109, 105, 116, 116, 101, 100]⟩)) (aw_or (tstNe C (ix C (ix C (ix C (vr 5) (ae_neg ae_int)) ae_int) ae_int) (ix C (vr 4) ae_int)) (aw_or1 (tstNe C (ix C (vr 4) ae_int) (ae_tup aa_nil))))))) (ass_one (as_ret ae_bl)) ass_nil)
  (ass_one (as_if (tstNe C (cmpr false [("row", 6)] C (ai_any (ae_cut false (vr 0) ao_none (ao_some (vr 1)))) (fun s H c l fp C => (pN C 6)) (fun s H c l fp C => (ats_one (at_w (aw_and (tstEq C (ix C (vr 6) ae_int) (ae_str ⟨#[100, 111, 110, 101]⟩)) (aw_and1 (tstEq C (ix C (vr 6) ae_int) (ix C (vr 4) ae_int))))))) (fun s H c l fp C => (vr 6))) (ae_lst false aa_nil)) (ass_one (as_ret ae_bl)) ass_nil))) ass_nil))))))
  (ass_one (as_ret ae_bl))))))
theorem sc__law_cup : FnScope ["script", "cell"] ["script"] (defScope (top 3)) := ⟨rfl, rfl, rfl, by decide +kernel, rfl, by decide +kernel, by decide +kernel⟩
theorem a__law_cup (V : Vw fa fn ex K mg) (hkk : kkOf mg = false) : ∃ f fd, mg "_law_cup" = some (.ref f) ∧ FnOk P w K mg base (CX P w) 2 f fd ["script"] (spCup K) ∧ PySem.W.keepIn K (.ref f) = true ∧ Binds K fd ["script"] [] := by
  obtain ⟨f, fd, e, F⟩ := V.dfn 6 18
  exact ⟨f, fd, e, cupOk (k := 1) F sc__law_cup (fun cdv A outer s H E C => pss_cons (ps_set C.nd rfl (Or.inl rfl) (pe_callB call_abs rfl (V.free 17) PyProof.Rows.boot_abs (pa_cons (pe_ix ix_list (pe_op op_cat (pe_callTy call_list_of rfl (V.free 3) PyProof.Rows.boot_list (pa_cons (pv 0) pa_nil)) (pe_lst (pa_cons pe_int pa_nil))) pe_int (by intro _ _; rfl)) pa_nil))) ((ass_one (as_ret (ae_lst true (aa_cons (ae_if (tstO op_gGe (vr 1) (ae_bin op_gPow ae_int ae_int)) (ae_bin op_gDivW (vr 1) ae_int) ae_int) (aa_cons (ae_bin (op_gAdd false) (ae_bin op_gMod (bInt (V.free 4) (aa_cons (ae_bin (op_gAdd false) (ae_bin (op_gMul false) (vr 1) ae_int) ae_int) aa_nil)) ae_int) ae_int) aa_nil))))))) hkk, F.kp, F.bindsN (fun _ _ _ _ _ _ us hl => match us, hl with | [_], _ => rfl)⟩
theorem sc_law : FnScope ["script", "cup", "turn", "rows", "held", "moment", "run", "index", "odd", "attempt", "nodes"] ["script"] (defScope (top 9)) := ⟨rfl, rfl, rfl, by decide +kernel, rfl, by decide +kernel, by decide +kernel⟩
def d_law : XS := (sSeq (sIf (tNotX (toT (eCall m__law_long_right (aCons (eVar 1) aNil)))) (sRet (eC (.bool false))) sNext) (sSeq (sFor (iRg1 (aCons (eC (.int 6)) aNil)) (gNm 2) (sSeq (sPar 3 4 (aCons (eLst true aNil) (aCons eDt aNil))) (sSeq (sFor (iRg1 (aCons (eCall m__law_roll (aCons (eVar 1) (aCons (eC (.int 11)) aNil))) aNil)) (gNm 5) (sSeq (sPar 6 7 (aCons (eCall m__law_roll (aCons (eVar 1) (aCons (eC (.int 2)) aNil))) (aCons (eCall m__law_roll (aCons (eVar 1) (aCons (eC (.int 2)) aNil))) aNil))) (sSeq (sSet 8 (e2 (gEq false) (eCall m__law_roll (aCons (eVar 1) (aCons (eC (.int 8)) aNil))) (eC (.int 0)))) (sIf (tAndX (toT (e2 (gIn false) (eTup (aCons (eVar 6) (aCons (eVar 7) aNil))) (eVar 4))) (toT (e2 gGt (eCall m__law_roll (aCons (eVar 1) (aCons (eC (.int 3)) aNil))) (eC (.int 0))))) (sSeq (sSet 9 (eBM "dict" gDPop (eVar 4) (aCons (eTup (aCons (eVar 6) (aCons (eVar 7) aNil))) aNil))) (sSeq (sSet 10 (eIf (tAndX (toT (eVar 8)) (toT (e2 (gEq false) (eCall m__law_roll (aCons (eVar 1) (aCons (eC (.int 2)) aNil))) (eC (.int 0))))) (eTup (aCons (eCall m__law_roll (aCons (eVar 1) (aCons (eC (.int 3)) aNil))) aNil)) (eTup aNil))) (sExpr (eBM "list" gApp (eVar 3) (aCons (eTup (aCons (eVar 5) (aCons (eC (.str ⟨#[100, 114, 111, 112, 112, 101, 100]⟩)) (aCons (eTup (aCons (eVar 6) (aCons (eVar 7) (aCons (e2 (gAdd false) (eVar 9) (eIf (tAndX (toT (eVar 8)) (toT (e2 (gEq false) (eVar 10) (eTup aNil)))) (eC (.int 1)) (eC (.int 0)))) (aCons (eVar 10) aNil))))) aNil)))) aNil))))) (sIf (tOrX (toT (e2 (gIn true) (eTup (aCons (eVar 6) (aCons (eVar 7) aNil))) (eVar 4))) (toT (eVar 8))) (sSeq (sAsg (e2 (gAdd false) (eC (.int 1)) (eCall m__law_roll (aCons (eVar 1) (aCons (eC (.int 4)) aNil)))) (gPutX (eVar 4) (eTup (aCons (eVar 6) (aCons (eVar 7) aNil))))) (sExpr (eBM "list" gApp (eVar 3) (aCons (eTup (aCons (eVar 5) (aCons (eC (.str ⟨#[99, 111, 109, 109, 105, 116, 116, 101, 100]⟩)) (aCons (eTup (aCons (eVar 6) (aCons (eVar 7) (aCons (e2 gIx (eVar 4) (eTup (aCons (eVar 6) (aCons (eVar 7) aNil)))) (aCons (eTup (aCons (eTup (aCons (eVar 7) (aCons (eC (.int 0)) aNil))) aNil)) aNil))))) aNil)))) aNil)))) (sExpr (eBM "list" gApp (eVar 3) (aCons (eTup (aCons (eVar 5) (aCons (eC (.str ⟨#[100, 111, 110, 101]⟩)) (aCons (eVar 6) aNil)))) aNil)))))))) (sIf (tNotX (toT (eCall m__law_like (aCons (eCall m_is_kept (aCons (eN gTuple (aCons (eVar 3) aNil)) aNil)) (aCons (eCall m__law_kept (aCons (eVar 3) aNil)) aNil))))) (sRet (eC (.bool false))) sNext)))) (sRet (e2 (gIsB false) (eCall m_is_kept (aCons (eTup aNil) aNil)) (eC (.bool true))))))
theorem a_law (V : Vw fa fn ex K mg) (hkk : kkOf mg = false) (hd : LawHd 9 d_law) : ∃ f fd, mg "law" = some (.ref f) ∧ (∀ base : Heap, FnOk P w K mg base (CX P w) 7 f fd ["script"] (spLaw K)) ∧ ∀ (s : Shared) (u : Value), BindsTo s fd ⟨[u], []⟩ [("script", u)] := by
  obtain ⟨f, fd, e, F⟩ := V.dfn 7 19
  refine ⟨f, fd, e, fun base => ?_, fun s v => FunD.bindsA (ps := ["script"]) F (fun _ _ _ _ _ _ us hl => match us, hl with | [_], _ => rfl) s [v] rfl⟩
  obtain ⟨fc, fdc, ec, Fc, kc, bc⟩ := a__law_cup (P := P) (w := w) (base := base) V hkk
  exact lawOkH (k := 6) (l := 9) (d := d_law) F sc_law rfl (fun cdv A outer s H E C => pss_cons (ps_set C.nd rfl (Or.inl rfl) (pe_call Fc (C.hr.mono (by decide)) rfl ec kc bc .nil (passes_call C.tk fun _ _ _ _ h => h.elim) (pa_cons (pv 0) pa_nil)))
    ((ass_cons (as_if (at_not (at_val (cl C (a__law_long_right V hkk) (aa_cons (vr 1) aa_nil) (by decide)))) (ass_one (as_ret ae_bl)) ass_nil)
  (ass_cons (as_for C.ps C.calm (ai_rg1 rfl (V.free 13) (aa_cons ae_int aa_nil)) (gN C 2) (ass_cons (par C 3 4 (aa_cons (ae_lst true aa_nil) (aa_cons ae_dt aa_nil)))
  (ass_cons (as_for C.ps C.calm (ai_rg1 rfl (V.free 13) (aa_cons (cl C (a__law_roll V hkk) (aa_cons (vr 1) (aa_cons ae_int aa_nil)) (by decide)) aa_nil)) (gN C 5) (ass_cons (par C 6 7 (aa_cons (cl C (a__law_roll V hkk) (aa_cons (vr 1) (aa_cons ae_int aa_nil)) (by decide)) (aa_cons (cl C (a__law_roll V hkk) (aa_cons (vr 1) (aa_cons ae_int aa_nil)) (by decide)) aa_nil)))
  (ass_cons (st C 8 (cmpEq C (cl C (a__law_roll V hkk) (aa_cons (vr 1) (aa_cons ae_int aa_nil)) (by decide)) ae_int))
  (ass_one (as_if (at_w (aw_and (tstIn C (ae_tup (aa_cons (vr 6) (aa_cons (vr 7) aa_nil))) (vr 4)) (aw_and1 (tstO op_gGt (cl C (a__law_roll V hkk) (aa_cons (vr 1) (aa_cons ae_int aa_nil)) (by decide)) ae_int)))) (ass_cons (st C 9 (dpop C (vr 4) (aa_cons (ae_tup (aa_cons (vr 6) (aa_cons (vr 7) aa_nil))) aa_nil)))
  (ass_cons (st C 10 (ae_if (at_w (aw_and (at_val (vr 8)) (aw_and1 (tstEq C (cl C (a__law_roll V hkk) (aa_cons (vr 1) (aa_cons ae_int aa_nil)) (by decide)) ae_int)))) (ae_tup (aa_cons (cl C (a__law_roll V hkk) (aa_cons (vr 1) (aa_cons ae_int aa_nil)) (by decide)) aa_nil)) (ae_tup aa_nil)))
  (ass_one (as_expr (ae_app (vr 3) (aa_cons (ae_tup (aa_cons (vr 5) (aa_cons (ae_str ⟨#[100, 114, 111, 112, 112, 101, 100]⟩) (aa_cons (ae_tup (aa_cons (vr 6) (aa_cons (vr 7) (aa_cons (ae_bin (op_gAdd false) (vr 9) (ae_if (at_w (aw_and (at_val (vr 8)) (aw_and1 (tstEq C (vr 10) (ae_tup aa_nil))))) ae_int ae_int)) (aa_cons (vr 10) aa_nil))))) aa_nil)))) aa_nil)))))) (ass_one (as_if (at_w (aw_or (tstNin C (ae_tup (aa_cons (vr 6) (aa_cons (vr 7) aa_nil))) (vr 4)) (aw_or1 (at_val (vr 8))))) (ass_cons (as_asg (ae_bin (op_gAdd false) ae_int (cl C (a__law_roll V hkk) (aa_cons (vr 1) (aa_cons ae_int aa_nil)) (by decide))) (ag_sub C.kk C.u1 (vr 4) (ae_tup (aa_cons (vr 6) (aa_cons (vr 7) aa_nil)))))
  (ass_one (as_expr (ae_app (vr 3) (aa_cons (ae_tup (aa_cons (vr 5) (aa_cons (ae_str ⟨#[99, 111, 109, 109, 105, 116, 116, 101, 100]⟩) (aa_cons (ae_tup (aa_cons (vr 6) (aa_cons (vr 7) (aa_cons (ix C (vr 4) (ae_tup (aa_cons (vr 6) (aa_cons (vr 7) aa_nil)))) (aa_cons (ae_tup (aa_cons (ae_tup (aa_cons (vr 7) (aa_cons ae_int aa_nil))) aa_nil)) aa_nil))))) aa_nil)))) aa_nil))))) (ass_one (as_expr (ae_app (vr 3) (aa_cons (ae_tup (aa_cons (vr 5) (aa_cons (ae_str ⟨#[100, 111, 110, 101]⟩) (aa_cons (vr 6) aa_nil)))) aa_nil)))))))))))
  (ass_one (as_if (at_not (at_val (cl C (a__law_like V hkk) (aa_cons (cl C (a_is_kept V hkk) (aa_cons (bTuple (V.free 2) (aa_cons (vr 3) aa_nil)) aa_nil) (by decide)) (aa_cons (cl C (a__law_kept V hkk) (aa_cons (vr 3) aa_nil) (by decide)) aa_nil)) (by decide)))) (ass_one (as_ret ae_bl)) ass_nil)))))
  (ass_one (as_ret (cmpO op_gIsB (cl C (a_is_kept V hkk) (aa_cons (ae_tup aa_nil) aa_nil) (by decide)) ae_bl))))))) hkk hd
end
end G

/-! RA22: for the plain laws: what each combinator does, as rules for simp. Printed by plgen.py. -/
namespace RA
open PySem PySem.Spec L2
@[simp] theorem bind_ret {α β : Type} (a : α) (S : Store) (k : α → Store → Cm β) : (Cm.ret a S).bind k = k a S := rfl
@[simp] theorem bind_exn {α β : Type} (e : Ex) (S : Store) (k : α → Store → Cm β) : (Cm.exn e S).bind k = .exn e S := rfl
@[simp] theorem bind_stuck {α β : Type} (k : α → Store → Cm β) : (Cm.stuck).bind k = .stuck := rfl
@[simp] theorem of_some {α : Type} (a : α) (S : Store) : Cm.of (some (a, S)) = .ret a S := rfl
@[simp] theorem of_none {α : Type} : Cm.of (none : Option (α × Store)) = .stuck := rfl
@[simp] theorem forL_nil (g : XG) (b : XS) (as : RA.Env) (S : Store) : forL g b [] as S = .ret (.nx as) S := rfl
@[simp] theorem turn_nx (k : RA.Env → Store → Cm Fl) (as : RA.Env) (S : Store) : turnK k (.nx as) S = k as S := rfl
@[simp] theorem turn_ct (k : RA.Env → Store → Cm Fl) (as : RA.Env) (S : Store) : turnK k (.ct as) S = k as S := rfl
@[simp] theorem turn_bk (k : RA.Env → Store → Cm Fl) (as : RA.Env) (S : Store) : turnK k (.bk as) S = .ret (.nx as) S := rfl
@[simp] theorem turn_rt (k : RA.Env → Store → Cm Fl) (v : AV) (S : Store) : turnK k (.rt v) S = .ret (.rt v) S := rfl
@[simp] theorem eVar_ap (i : Nat) (as : RA.Env) (S : Store) : eVar i as S = match as[i]? with
  | some (some x) => .ret x S
  | _ => .stuck := rfl
@[simp] theorem eC_ap (d : PyData) (_v0 : RA.Env) (S : Store) : eC d _v0 S = .ret (.p d) S := rfl
@[simp] theorem e2_ap (g : Op2) (fa fb : XE) (as : RA.Env) (S : Store) : e2 g fa fb as S = (fa as S).bind fun x S1 => (fb as S1).bind fun y S2 => Cm.of (g x y S2) := rfl
@[simp] theorem eN_ap (g : OpN) (fa : XA) (as : RA.Env) (S : Store) : eN g fa as S = (fa as S).bind fun xs S1 => Cm.of (g xs S1) := rfl
@[simp] theorem toT_ap (f : XE) (as : RA.Env) (S : Store) : toT f as S = (f as S).bind fun x S1 => match x with
  | .p (.bool b) => .ret b S1
  | _ => .stuck := rfl
@[simp] theorem ofT_ap (f : XT) (as : RA.Env) (S : Store) : ofT f as S = (f as S).bind fun b S1 => .ret (.p (.bool b)) S1 := rfl
@[simp] theorem tAndX_ap (f g : XT) (as : RA.Env) (S : Store) : tAndX f g as S = (f as S).bind fun b S1 => match b with
  | true => g as S1
  | false => .ret false S1 := rfl
@[simp] theorem tOrX_ap (f g : XT) (as : RA.Env) (S : Store) : tOrX f g as S = (f as S).bind fun b S1 => match b with
  | true => .ret true S1
  | false => g as S1 := rfl
@[simp] theorem tNotX_ap (f : XT) (as : RA.Env) (S : Store) : tNotX f as S = (f as S).bind fun b S1 => .ret (!b) S1 := rfl
@[simp] theorem eAnd_ap (f g : XE) (as : RA.Env) (S : Store) : eAnd f g as S = (f as S).bind fun x S1 => match x with
  | .p (.bool true) => g as S1
  | .p (.bool false) => .ret x S1
  | _ => .stuck := rfl
@[simp] theorem eOr_ap (f g : XE) (as : RA.Env) (S : Store) : eOr f g as S = (f as S).bind fun x S1 => match x with
  | .p (.bool true) => .ret x S1
  | .p (.bool false) => g as S1
  | _ => .stuck := rfl
@[simp] theorem eNot_ap (f : XE) (as : RA.Env) (S : Store) : eNot f as S = (f as S).bind fun x S1 => match x with
  | .p (.bool b) => .ret (.p (.bool (!b))) S1
  | _ => .stuck := rfl
@[simp] theorem eIf_ap (t : XT) (f g : XE) (as : RA.Env) (S : Store) : eIf t f g as S = (t as S).bind fun b S1 => match b with
  | true => f as S1
  | false => g as S1 := rfl
@[simp] theorem eChain_ap (g g' : Op2) (fa fb fc : XE) (as : RA.Env) (S : Store) : eChain g g' fa fb fc as S = (fa as S).bind fun x S1 => (fb as S1).bind fun y S2 => (Cm.of (g x y S2)).bind fun z S3 => match z with
  | .p (.bool true) => (fc as S3).bind fun u S4 => Cm.of (g' y u S4)
  | .p (.bool false) => .ret z S3
  | _ => .stuck := rfl
@[simp] theorem aNil_ap (_v0 : RA.Env) (S : Store) : aNil _v0 S = .ret [] S := rfl
@[simp] theorem aCons_ap (f : XE) (g : XA) (as : RA.Env) (S : Store) : aCons f g as S = (f as S).bind fun x S1 => (g as S1).bind fun xs S2 => .ret (x :: xs) S2 := rfl
@[simp] theorem eTup_ap (g : XA) (as : RA.Env) (S : Store) : eTup g as S = (g as S).bind fun xs S1 => match okLen xs.length with
  | true => .ret (mkTup xs) S1
  | false => .stuck := rfl
@[simp] theorem eLst_ap (mu : Bool) (g : XA) (as : RA.Env) (S : Store) : eLst mu g as S = (g as S).bind fun xs S1 => match okLen xs.length with
  | true => .ret (newL mu xs S1).1 (newL mu xs S1).2
  | false => .stuck := rfl
@[simp] theorem sNext_ap (as : RA.Env) (S : Store) : sNext as S = .ret (.nx as) S := rfl
@[simp] theorem sSeq_ap (f g : XS) (as : RA.Env) (S : Store) : sSeq f g as S = (f as S).bind fun r S1 => match r with
  | .nx as' => g as' S1
  | r => .ret r S1 := rfl
@[simp] theorem sBreak_ap (as : RA.Env) (S : Store) : sBreak as S = .ret (.bk as) S := rfl
@[simp] theorem sCont_ap (as : RA.Env) (S : Store) : sCont as S = .ret (.ct as) S := rfl
@[simp] theorem sNever_ap (_v0 : RA.Env) (_v1 : Store) : sNever _v0 _v1 = .stuck := rfl
@[simp] theorem sExpr_ap (f : XE) (as : RA.Env) (S : Store) : sExpr f as S = (f as S).bind fun _ S1 => .ret (.nx as) S1 := rfl
@[simp] theorem sRet_ap (f : XE) (as : RA.Env) (S : Store) : sRet f as S = (f as S).bind fun x S1 => .ret (.rt x) S1 := rfl
@[simp] theorem sRetN_ap (_v0 : RA.Env) (S : Store) : sRetN _v0 S = .ret (.rt (.p .none)) S := rfl
@[simp] theorem sIf_ap (t : XT) (f g : XS) (as : RA.Env) (S : Store) : sIf t f g as S = (t as S).bind fun b S1 => match b with
  | true => f as S1
  | false => g as S1 := rfl
@[simp] theorem gNm_ap (i : Nat) (x : AV) (as : RA.Env) (S : Store) : gNm i x as S = .ret (as.set i (some x)) S := rfl
@[simp] theorem sAsg_ap (f : XE) (g : XG) (as : RA.Env) (S : Store) : sAsg f g as S = (f as S).bind fun x S1 => (g x as S1).bind fun as' S2 => .ret (.nx as') S2 := rfl
@[simp] theorem sSet_ap (i : Nat) (f : XE) (as : RA.Env) (S : Store) : sSet i f as S = (f as S).bind fun x S1 => .ret (.nx (as.set i (some x))) S1 := rfl
@[simp] theorem eNeg_ap (f : XE) (as : RA.Env) (S : Store) : eNeg f as S = (f as S).bind fun x S1 => match x with
  | .p (.int i) => .ret (.p (.int (-i))) S1
  | _ => .stuck := rfl
@[simp] theorem oNone_ap (_v0 : RA.Env) (S : Store) : oNone _v0 S = .ret none S := rfl
@[simp] theorem oSome_ap (f : XE) (as : RA.Env) (S : Store) : oSome f as S = (f as S).bind fun x S1 => match x with
  | .p (.int i) => .ret (some i) S1
  | _ => .stuck := rfl
@[simp] theorem eCut_ap (mu : Bool) (f : XE) (l h : XO) (as : RA.Env) (S : Store) : eCut mu f l h as S = (f as S).bind fun x S1 => (l as S1).bind fun lo S2 => (h as S2).bind fun hi S3 => Cm.of (gCut mu x lo hi S3) := rfl
@[simp] theorem eIsi_ap (t : Tg) (f : XE) (as : RA.Env) (S : Store) : eIsi t f as S = (f as S).bind fun x S1 => match isA t x S1 with
  | some b => .ret (.p (.bool b)) S1
  | none => .stuck := rfl
@[simp] theorem gsNil_ap (xs : List AV) (as : RA.Env) (S : Store) : gsNil xs as S = match xs with
  | [] => .ret as S
  | _ => .stuck := rfl
@[simp] theorem gsCons_ap (g : XG) (gs : XGs) (xs : List AV) (as : RA.Env) (S : Store) : gsCons g gs xs as S = match xs with
  | x :: xs => (g x as S).bind fun as1 S1 => gs xs as1 S1
  | [] => .stuck := rfl
@[simp] theorem gTupX_ap (n : Nat) (gs : XGs) (x : AV) (as : RA.Env) (S : Store) : gTupX n gs x as S = match tupOf x with
  | some xs => match Nat.beq xs.length n with
    | true => gs xs as S
    | false => .stuck
  | none => .stuck := rfl
@[simp] theorem sPar_ap (i j : Nat) (g : XA) (as : RA.Env) (S : Store) : sPar i j g as S = (g as S).bind fun xs S1 => match xs with
  | [x, y] => .ret (.nx ((as.set i (some x)).set j (some y))) S1
  | _ => .stuck := rfl
@[simp] theorem iTupX_ap (f : XE) (as : RA.Env) (S : Store) : iTupX f as S = (f as S).bind fun x S1 => match tupOf x with
  | some xs => .ret (.fz xs) S1
  | none => .stuck := rfl
@[simp] theorem iLstX_ap (f : XE) (as : RA.Env) (S : Store) : iLstX f as S = (f as S).bind fun x S1 => match x with
  | .h n => match S1[n]? with
    | some (.lst _) => .ret (.mu n false) S1
    | _ => .stuck
  | x => match lstOf x with
    | some xs => .ret (.fz xs) S1
    | none => .stuck := rfl
@[simp] theorem iRg1_ap (g : XA) (as : RA.Env) (S : Store) : iRg1 g as S = (g as S).bind fun xs S1 => match xs with
  | [.p (.int j)] => match okRg j with
    | true => .ret (.fz (rgA 0 j.toNat)) S1
    | false => .stuck
  | _ => .stuck := rfl
@[simp] theorem iRg2_ap (g : XA) (as : RA.Env) (S : Store) : iRg2 g as S = (g as S).bind fun xs S1 => match xs with
  | [.p (.int i), .p (.int j)] => match okRg i with
    | true => match okRg j with
      | true => .ret (.fz (rgA i (j - i).toNat)) S1
      | false => .stuck
    | false => .stuck
  | _ => .stuck := rfl
@[simp] theorem iEnX_ap (g : XA) (as : RA.Env) (S : Store) : iEnX g as S = (g as S).bind fun xs S1 => match xs with
  | [x] => match x with
    | .h n => match S1[n]? with
      | some (.lst _) => .ret (.mu n true) S1
      | _ => .stuck
    | x => match lstOf x with
      | some ys => .ret (.fz (enumA 0 ys)) S1
      | none => .stuck
  | _ => .stuck := rfl
@[simp] theorem iZpX_ap (g : XA) (as : RA.Env) (S : Store) : iZpX g as S = (g as S).bind fun xs S1 => match xs with
  | [x, y] => match lstOf x, lstOf y with
    | some xs, some ys => .ret (.fz (zipA xs ys)) S1
    | _, _ => match tupOf x, tupOf y with
      | some xs, some ys => .ret (.fz (zipA xs ys)) S1
      | _, _ => .stuck
  | _ => .stuck := rfl
@[simp] theorem sFor_ap (f : XI) (g : XG) (b : XS) (as : RA.Env) (S : Store) : sFor f g b as S = (f as S).bind fun v S1 => forI g b v as S1 := rfl
@[simp] theorem tYesX_ap (_v0 : RA.Env) (S : Store) : tYesX _v0 S = .ret true S := rfl
@[simp] theorem eComp_ap (mu : Bool) (vs : List Nat) (f : XI) (p : Pat) (t : XT) (e : XE) (as : RA.Env) (S : Store) : eComp mu vs f p t e as S = (f as S).bind fun v S1 => (compI p t e (wipeE as vs) v S1).calm.bind fun ys S2 => .ret (newL mu ys S2).1 (newL mu ys S2).2 := rfl
@[simp] theorem gPutX_ap (fo fi : XE) (v : AV) (as : RA.Env) (S : Store) : gPutX fo fi v as S = (fo as S).bind fun o S1 => (fi as S1).bind fun i S2 => match gPut o i v S2 with
  | some S3 => .ret as S3
  | none => .stuck := rfl
@[simp] theorem eDk_ap (_v0 : RA.Env) (S : Store) : eDk _v0 S = .ret (.h S.length) (S ++ [.dk []]) := rfl
@[simp] theorem eDt_ap (_v0 : RA.Env) (S : Store) : eDt _v0 S = .ret (.h S.length) (S ++ [.dt []]) := rfl
@[simp] theorem eDisp_ap (ps : List (XE × XE)) (as : RA.Env) (S : Store) : eDisp ps as S = (pairsX ps as S).bind fun xs S1 => match keysOf xs with
  | some kvs => match Nat.ble kvs.length 15 with
    | true => .ret (.h S1.length) (S1 ++ [.dk (mergeA [] kvs)])
    | false => .stuck
  | none => .stuck := rfl
@[simp] theorem eGet2_ap (fo f g : XE) (as : RA.Env) (S : Store) : eGet2 fo f g as S = (fo as S).bind fun x S1 => match isDict x S1 with
  | true => (f as S1).bind fun y S2 => (g as S2).bind fun z S3 => match dGet x y S3 with
    | some (some u) => .ret u S3
    | some none => .ret z S3
    | none => .stuck
  | false => .stuck := rfl
@[simp] theorem eBM_ap (T : String) (g : AV → List AV → Store → Option (AV × Store)) (fo : XE) (ga : XA) (as : RA.Env) (S : Store) : eBM T g fo ga as S = (fo as S).bind fun x S1 => match tyA T x S1 with
  | true => (ga as S1).bind fun xs S2 => Cm.of (g x xs S2)
  | false => .stuck := rfl
@[simp] theorem eFld_ap (C f : Str) (fo : XE) (as : RA.Env) (S : Store) : eFld C f fo as S = (fo as S).bind fun x S1 => match insOf C x S1 with
  | some (_, fs) => match lookA strE f fs with
    | some y => .ret y S1
    | none => .stuck
  | none => .stuck := rfl
@[simp] theorem sFldX_ap (C f : Str) (fo fe : XE) (as : RA.Env) (S : Store) : sFldX C f fo fe as S = (fe as S).bind fun y S1 => (fo as S1).bind fun x S2 => match insOf C x S2 with
  | some (n, fs) => match Nat.ble (fs.length + 1) 1000 with
    | true => .ret (.nx as) (S2.set n (.ins C (putFA f y fs)))
    | false => .stuck
  | none => .stuck := rfl
@[simp] theorem eCall_ap (m : Mf) (ga : XA) (as : RA.Env) (S : Store) : eCall m ga as S = (ga as S).bind fun xs S1 => m xs S1 := rfl
@[simp] theorem eMeth_ap (C x : Str) (m : Mf) (fo : XE) (ga : XA) (as : RA.Env) (S : Store) : eMeth C x m fo ga as S = (fo as S).bind fun y S1 => match insOf C y S1 with
  | some (_, fs) => match lookA strE x fs with
    | none => (ga as S1).bind fun xs S2 => m (y :: xs) S2
    | some _ => .stuck
  | none => .stuck := rfl
@[simp] theorem eMake_ap (C : Str) (m : Mf) (ga : XA) (as : RA.Env) (S : Store) : eMake C m ga as S = (ga as S).bind fun xs S1 => (m (.h S1.length :: xs) (S1 ++ [.ins C []])).bind fun r S2 => match r with
  | .p .none => .ret (.h S1.length) S2
  | _ => .stuck := rfl
@[simp] theorem iAny_ap (f : XE) (as : RA.Env) (S : Store) : iAny f as S = (f as S).bind fun x S1 => match x with
  | .h n => match S1[n]? with
    | some (.lst _) => .ret (.mu n false) S1
    | _ => .stuck
  | .p (.str z) => .ret (.fz (z.cps.toList.map fun k => .p (.str ⟨#[k]⟩))) S1
  | x => match tupOf x with
    | some xs => .ret (.fz xs) S1
    | none => match lstOf x with
      | some xs => .ret (.fz xs) S1
      | none => .stuck := rfl
@[simp] theorem iEnA_ap (g : XA) (as : RA.Env) (S : Store) : iEnA g as S = (g as S).bind fun xs S1 => match xs with
  | [x] => match x with
    | .h n => match S1[n]? with
      | some (.lst _) => .ret (.mu n true) S1
      | _ => .stuck
    | x => match tupOf x with
      | some ys => .ret (.fz (enumA 0 ys)) S1
      | none => match lstOf x with
        | some ys => .ret (.fz (enumA 0 ys)) S1
        | none => .stuck
  | _ => .stuck := rfl
@[simp] theorem gUnX_ap (n : Nat) (gs : XGs) (x : AV) (as : RA.Env) (S : Store) : gUnX n gs x as S = match seqOf x S with
  | some xs => match Nat.beq xs.length n with
    | true => gs xs as S
    | false => .stuck
  | none => .stuck := rfl
@[simp] theorem eSortFst_ap (mu : Bool) (f : XE) (as : RA.Env) (S : Store) : eSortFst mu f as S = (f as S).bind fun x S1 => Cm.of (gSortFst mu x S1) := rfl
@[simp] theorem eFn_ap (x : Str) (_v0 : RA.Env) (S : Store) : eFn x _v0 S = .ret (.fn x) S := rfl
@[simp] theorem eDComp_ap (vs : List Nat) (f : XI) (p : Pat) (t : XT) (ek ev : XE) (as : RA.Env) (S : Store) : eDComp vs f p t ek ev as S = (f as S).bind fun v S1 => match v with
  | .fz xs => (dcompL p t ek ev (wipeE as vs) xs [] S1).calm.bind fun kvs S2 => .ret (.h S2.length) (S2 ++ [.dk kvs])
  | .mu _ _ => .stuck := rfl
@[simp] theorem sPar3_ap (i j l : Nat) (g : XA) (as : RA.Env) (S : Store) : sPar3 i j l g as S = (g as S).bind fun xs S1 => match xs with
  | [x, y, z] => .ret (.nx (((as.set i (some x)).set j (some y)).set l (some z))) S1
  | _ => .stuck := rfl
@[simp] theorem eEqC_ap (neg : Bool) (f : XE) (d : PyData) (as : RA.Env) (S : Store) : eEqC neg f d as S = (f as S).bind fun x S1 => match pureOf x S1 with
  | some e => match eqD e d with
    | some b => .ret (.p (.bool (match neg with | true => !b | false => b))) S1
    | none => .stuck
  | none => .stuck := rfl
end RA

namespace G
open PySem PySem.Spec L2 RA
/-! ### k53, plain -/
abbrev wDone : Str := ⟨#[100, 111, 110, 101]⟩
abbrev wCom : Str := ⟨#[99, 111, 109, 109, 105, 116, 116, 101, 100]⟩
abbrev wDrop : Str := ⟨#[100, 114, 111, 112, 112, 101, 100]⟩
inductive Rw where
  | done (m r : Int)
  | com (m r i a : Int) (nd : List PyData)
  | drp (m r i a : Int) (nd : List PyData)
def Rw.d : Rw → PyData
  | .done m r => .tuple [.int m, .str wDone, .int r]
  | .com m r i a nd => .tuple [.int m, .str wCom, .tuple [.int r, .int i, .int a, .tuple nd]]
  | .drp m r i a nd => .tuple [.int m, .str wDrop, .tuple [.int r, .int i, .int a, .tuple nd]]
def kTgt : XG := gUnX 3 (gsCons (gNm 3) (gsCons (gNm 4) (gsCons (gNm 5) gsNil)))
def kBody : XS := (sIf (toT (e2 (gEq false) (eVar 4) (eC (.str ⟨#[100, 111, 110, 101]⟩)))) (sExpr (eBM "list" gApp (eVar 2) (aCons (eVar 5) aNil))) (sIf (toT (e2 (gEq false) (eVar 4) (eC (.str ⟨#[99, 111, 109, 109, 105, 116, 116, 101, 100]⟩)))) (sSeq (sIf (toT (e2 (gIn false) (eCut false (eVar 5) oNone (oSome (eC (.int 2)))) (eVar 1))) (sRet (eC (.bool false))) sNext) (sAsg (e2 gIx (eVar 5) (eC (.int 2))) (gPutX (eVar 1) (eCut false (eVar 5) oNone (oSome (eC (.int 2))))))) (sSeq (sIf (tOrX (toT (e2 (gIn false) (e2 gIx (eVar 5) (eC (.int 0))) (eVar 2))) (tOrX (toT (e2 (gEq true) (eGet2 (eVar 1) (eCut false (eVar 5) oNone (oSome (eC (.int 2)))) (eC .none)) (e2 gIx (eVar 5) (eC (.int 2))))) (toT (e2 (gEq true) (e2 gIx (eVar 5) (eC (.int 3))) (eTup aNil))))) (sRet (eC (.bool false))) sNext) (sExpr (eBM "dict" gDPop (eVar 1) (aCons (eCut false (eVar 5) oNone (oSome (eC (.int 2)))) aNil))))))
def envK (R a3 a4 a5 : Option AV) : RA.Env := [R, some (.h 0), some (.h 1), a3, a4, a5]
theorem eq_dd : eqD (.str wDone) (.str wDone) = some true := by kernel_rfl
theorem eq_cd : eqD (.str wCom) (.str wDone) = some false := by kernel_rfl
theorem eq_pd : eqD (.str wDrop) (.str wDone) = some false := by kernel_rfl
theorem eq_cc : eqD (.str wCom) (.str wCom) = some true := by kernel_rfl
theorem eq_pc : eqD (.str wDrop) (.str wCom) = some false := by kernel_rfl
theorem k_done (R a3 a4 a5 : Option AV) (kvs : List (List Key × AV)) (dn : List AV) (m r : Int) (h : okLen (dn.length + 1) = true) :
    (kTgt (.p (Rw.done m r).d) (envK R a3 a4 a5) [.dt kvs, .lst dn]).bind kBody = .ret (.nx (envK R (some (.p (.int m))) (some (.p (.str wDone))) (some (.p (.int r))))) [.dt kvs, .lst (dn ++ [.p (.int r)])] := by
  simp [kTgt, kBody, seqOf, tupOf, gEq, pureOf, eq_dd, Rw.d, envK, tyA, gApp, chg, h, Nat.beq]
theorem k_com (R a3 a4 a5 : Option AV) (kvs : List (List Key × AV)) (dn : List AV) (m r i a : Int) (nd : List PyData) (h : okLen (kvs.length + 1) = true) :
    (kTgt (.p (Rw.com m r i a nd).d) (envK R a3 a4 a5) [.dt kvs, .lst dn]).bind kBody = match lookA keysB [.inl r, .inl i] kvs with
      | some _ => .ret (.rt (.p (.bool false))) [.dt kvs, .lst dn]
      | none => .ret (.nx (envK R (some (.p (.int m))) (some (.p (.str wCom))) (some (.p (.tuple [.int r, .int i, .int a, .tuple nd]))))) [.dt (putA keysB kvs [.inl r, .inl i] (.p (.int a))), .lst dn] := by
  have e1 : ∀ (S : Store), gCut false (.p (.tuple [.int r, .int i, .int a, .tuple nd])) none (some 2) S = some (.p (.tuple [.int r, .int i]), S) := fun S => by rfl
  have e2 : atI [.int r, .int i, .int a, .tuple nd] 2 = some (PyData.int a) := by rfl
  cases q : lookA keysB [.inl r, .inl i] kvs <;>
  simp [kTgt, kBody, seqOf, tupOf, gEq, pureOf, eq_cd, eq_cc, Rw.d, envK, tyA, e1, e2, gIn, inA, dGet, keyT, keysD, q, gIx, gPut, chg, putM, h, Nat.beq]
theorem pures_ints : ∀ ds : List Int, pures (ds.map fun z => AV.p (.int z)) = some (ds.map PyData.int)
  | [] => rfl
  | d :: ds => by
    simp [pures, pures_ints ds]
theorem inD_ints (r : Int) (w : PyData) (ds : List Int) : inD (.int r) (ds.map PyData.int) w = some (ds.any fun z => decide (z = r)) := by
  have h : (ds.map PyData.int).all flatD = true := by
    rw [List.all_eq_true]
    intro x hx
    obtain ⟨z, _, rfl⟩ := List.mem_map.mp hx
    rfl
  unfold inD
  rw [h]
  show some ((ds.map PyData.int).any fun z => eqF z (.int r)) = _
  rw [List.any_map]
  congr 1
@[simp] theorem okL0 : okLen 0 = true := rfl
@[simp] theorem okL1 : okLen 1 = true := rfl
@[simp] theorem okL2 : okLen 2 = true := rfl
@[simp] theorem okL3 : okLen 3 = true := rfl
@[simp] theorem okL4 : okLen 4 = true := rfl
@[simp] theorem okL5 : okLen 5 = true := rfl
@[simp] theorem okL6 : okLen 6 = true := rfl
@[simp] theorem okL7 : okLen 7 = true := rfl
@[simp] theorem okL8 : okLen 8 = true := rfl
theorem eqD_ii (a b : Int) : eqD (.int a) (.int b) = some (decide (a = b)) := rfl
theorem eqD_ni (b : Int) : eqD .none (.int b) = some false := rfl
theorem eq_ne : eqD (.tuple []) (.tuple []) = some true := by kernel_rfl
theorem eq_n1 (n : Int) : eqD (.tuple [.int n]) (.tuple []) = some false := by kernel_rfl
/-- a row of a fall, in one word: is it kept -/
def okDrp (ds : List Int) (kvs : List (List Key × AV)) (r i a : Int) (nd : List PyData) : Bool := match ds.any fun z => decide (z = r) with
  | true => false
  | false => match lookA keysB [.inl r, .inl i] kvs with
    | some (.p (.int b)) => match decide (b = a) with
      | true => match nd with
        | [] => true
        | _ => false
      | false => false
    | _ => false
theorem k_drp (R a3 a4 a5 : Option AV) (kvs : List (List Key × AV)) (ds : List Int) (m r i a : Int) (nd : List PyData) (hv : ∀ v, lookA keysB [.inl r, .inl i] kvs = some v → ∃ b : Int, v = .p (.int b)) (hn : nd = [] ∨ ∃ n, nd = [.int n]) :
    (kTgt (.p (Rw.drp m r i a nd).d) (envK R a3 a4 a5) [.dt kvs, .lst (ds.map fun z => AV.p (.int z))]).bind kBody = match okDrp ds kvs r i a nd with
      | false => .ret (.rt (.p (.bool false))) [.dt kvs, .lst (ds.map fun z => AV.p (.int z))]
      | true => .ret (.nx (envK R (some (.p (.int m))) (some (.p (.str wDrop))) (some (.p (.tuple [.int r, .int i, .int a, .tuple nd]))))) [.dt (dropA keysB kvs [.inl r, .inl i]), .lst (ds.map fun z => AV.p (.int z))] := by
  have e1 : ∀ (S : Store), gCut false (.p (.tuple [.int r, .int i, .int a, .tuple nd])) none (some 2) S = some (.p (.tuple [.int r, .int i]), S) := fun S => by rfl
  have e2 : atI [.int r, .int i, .int a, .tuple nd] 2 = some (PyData.int a) := by rfl
  have e3 : atI [.int r, .int i, .int a, .tuple nd] 0 = some (PyData.int r) := by rfl
  have e4 : atI [.int r, .int i, .int a, .tuple nd] 3 = some (PyData.tuple nd) := by rfl
  unfold okDrp
  cases q1 : ds.any (fun z => decide (z = r)) with
  | true => simp [kTgt, kBody, seqOf, tupOf, gEq, pureOf, eq_pd, eq_pc, Rw.d, envK, tyA, e1, e2, e3, gIn, inA, dGet, keyT, keysD, gIx, chg, Nat.beq, pures_ints, inD_ints, q1]
  | false =>
    cases q : lookA keysB [.inl r, .inl i] kvs with
    | none => simp [kTgt, kBody, seqOf, tupOf, gEq, pureOf, eq_pd, eq_pc, Rw.d, envK, tyA, e1, e2, e3, gIn, inA, dGet, keyT, keysD, gIx, chg, Nat.beq, pures_ints, inD_ints, q1, q, isDict, eqD_ii, eqD_ni]
    | some v =>
      obtain ⟨b, rfl⟩ := hv v q
      cases q2 : decide (b = a) with
      | false => simp [kTgt, kBody, seqOf, tupOf, gEq, pureOf, eq_pd, eq_pc, Rw.d, envK, tyA, e1, e2, e3, gIn, inA, dGet, keyT, keysD, gIx, chg, Nat.beq, pures_ints, inD_ints, q1, q, isDict, eqD_ii, eqD_ni, q2]
      | true =>
        rcases hn with rfl | ⟨n, rfl⟩
        · simp [kTgt, kBody, seqOf, tupOf, gEq, pureOf, eq_pd, eq_pc, Rw.d, envK, tyA, e1, e2, e3, e4, gIn, inA, dGet, keyT, keysD, gIx, chg, Nat.beq, pures_ints, inD_ints, q1, q, isDict, eqD_ii, eqD_ni, q2, eq_ne, mkTup, pures, gDPop]
        · simp [kTgt, kBody, seqOf, tupOf, gEq, pureOf, eq_pd, eq_pc, Rw.d, envK, tyA, e1, e2, e3, e4, gIn, inA, dGet, keyT, keysD, gIx, chg, Nat.beq, pures_ints, inD_ints, q1, q, isDict, eqD_ii, eqD_ni, q2, eq_n1, mkTup, pures, gDPop]
end G

namespace G
open PySem PySem.Spec L2 RA
abbrev KV := List (List Key × AV)
def Ints (kvs : KV) : Prop := ∀ p ∈ kvs, ∃ b : Int, p.2 = .p (.int b)
theorem look_mem {k : List Key} : ∀ {kvs : KV} {v : AV}, lookA keysB k kvs = some v → ∃ p ∈ kvs, p.2 = v
  | [], v, h => by cases h
  | (a, x) :: r, v, h => by
    unfold lookA at h
    split at h
    · cases h; exact ⟨_, List.mem_cons_self .., rfl⟩
    · obtain ⟨p, h1, h2⟩ := look_mem h
      exact ⟨p, List.mem_cons_of_mem _ h1, h2⟩
theorem Ints.look {kvs : KV} (h : Ints kvs) {k : List Key} {v : AV} (e : lookA keysB k kvs = some v) : ∃ b : Int, v = .p (.int b) := by
  obtain ⟨p, h1, h2⟩ := look_mem e
  rw [← h2]
  exact h p h1
theorem Ints.put {kvs : KV} (h : Ints kvs) (k : List Key) (a : Int) : Ints (putA keysB kvs k (.p (.int a))) := by
  intro p hp
  unfold putA at hp
  split at hp
  · obtain ⟨q, hq, rfl⟩ := List.mem_map.mp hp
    split
    · exact ⟨a, rfl⟩
    · exact h q hq
  · rcases List.mem_append.mp hp with hp | hp
    · exact h p hp
    · rw [List.mem_singleton] at hp
      rw [hp]
      exact ⟨a, rfl⟩
theorem Ints.drop {kvs : KV} (h : Ints kvs) (k : List Key) : Ints (dropA keysB kvs k) := fun p hp => h p (List.mem_filter.mp hp).1
theorem put_len (kvs : KV) (k : List Key) (v : AV) : (putA keysB kvs k v).length ≤ kvs.length + 1 := by
  unfold putA
  split
  · rw [List.length_map]; omega
  · rw [List.length_append]; exact Nat.le_refl _
theorem drop_len (kvs : KV) (k : List Key) : (dropA keysB kvs k).length ≤ kvs.length := List.length_filter_le ..
theorem okL_of {n : Nat} (h : n ≤ 16777216) : okLen n = true := Nat.ble_eq_true_of_le h
def Rw.ok : Rw → Prop
  | .drp _ _ _ _ nd => nd = [] ∨ ∃ n, nd = [.int n]
  | _ => True
def kp : List Rw → List Int → KV → Bool
  | [], _, _ => true
  | .done _ r :: t, ds, kvs => kp t (ds ++ [r]) kvs
  | .com _ r i a _ :: t, ds, kvs => match lookA keysB [.inl r, .inl i] kvs with
    | some _ => false
    | none => kp t ds (putA keysB kvs [.inl r, .inl i] (.p (.int a)))
  | .drp _ r i a nd :: t, ds, kvs => match okDrp ds kvs r i a nd with
    | false => false
    | true => kp t ds (dropA keysB kvs [.inl r, .inl i])
theorem bind_assoc {α β γ : Type} {f : α → Store → Cm β} {g : β → Store → Cm γ} : ∀ m : Cm α, (m.bind f).bind g = m.bind fun a S => (f a S).bind g
  | .ret _ _ => rfl
  | .exn _ _ => rfl
  | .stuck => rfl
  | .roll n k => congrArg (Cm.roll n) (funext fun i => bind_assoc (k i))
theorem forL_cons (g : XG) (b : XS) (z : AV) (zs : List AV) (as : RA.Env) (S : Store) : forL g b (z :: zs) as S = ((g z as S).bind b).bind (turnK (forL g b zs)) := (bind_assoc _).symm
theorem kp_run (R : Option AV) : ∀ (rows : List Rw) (ds : List Int) (kvs : KV) (a3 a4 a5 : Option AV), Ints kvs → (∀ x ∈ rows, x.ok) → ds.length + rows.length ≤ 16000000 → kvs.length + rows.length ≤ 16000000 →
    ∃ fl S', forL kTgt kBody (rows.map fun x => AV.p x.d) (envK R a3 a4 a5) [.dt kvs, .lst (ds.map fun z => AV.p (.int z))] = .ret fl S' ∧ (match kp rows ds kvs with | true => ∃ as', fl = .nx as' | false => fl = .rt (.p (.bool false)))
  | [], ds, kvs, a3, a4, a5, _, _, _, _ => ⟨_, _, rfl, _, rfl⟩
  | .done m r :: t, ds, kvs, a3, a4, a5, hi, ho, h1, h2 => by
    simp only [List.length_cons] at h1 h2
    have e := k_done R a3 a4 a5 kvs (ds.map fun z => AV.p (.int z)) m r (okL_of (by rw [List.length_map]; omega))
    obtain ⟨fl, S', e2, h⟩ := kp_run R t (ds ++ [r]) kvs (some (.p (.int m))) (some (.p (.str wDone))) (some (.p (.int r))) hi (fun x hx => ho x (List.mem_cons_of_mem _ hx)) (by rw [List.length_append]; simp; omega) (by omega)
    refine ⟨fl, S', ?_, h⟩
    rw [List.map_append] at e2
    rw [List.map_cons, forL_cons, e]
    exact e2
  | .com m r i a nd :: t, ds, kvs, a3, a4, a5, hi, ho, h1, h2 => by
    simp only [List.length_cons] at h1 h2
    have e := k_com R a3 a4 a5 kvs (ds.map fun z => AV.p (.int z)) m r i a nd (okL_of (by omega))
    rw [List.map_cons, forL_cons, e]
    unfold kp
    cases q : lookA keysB [.inl r, .inl i] kvs with
    | some v => exact ⟨_, _, rfl, rfl⟩
    | none =>
      have hl := put_len kvs [.inl r, .inl i] (.p (.int a))
      exact kp_run R t ds (putA keysB kvs [.inl r, .inl i] (.p (.int a))) _ _ _ (hi.put _ a) (fun x hx => ho x (List.mem_cons_of_mem _ hx)) (by omega) (by omega)
  | .drp m r i a nd :: t, ds, kvs, a3, a4, a5, hi, ho, h1, h2 => by
    simp only [List.length_cons] at h1 h2
    have e := k_drp R a3 a4 a5 kvs ds m r i a nd (fun v h => hi.look h) (ho _ (List.mem_cons_self ..))
    rw [List.map_cons, forL_cons, e]
    unfold kp
    cases q : okDrp ds kvs r i a nd with
    | false => exact ⟨_, _, rfl, rfl⟩
    | true =>
      have hl := drop_len kvs [.inl r, .inl i]
      exact kp_run R t ds (dropA keysB kvs [.inl r, .inl i]) _ _ _ (hi.drop _) (fun x hx => ho x (List.mem_cons_of_mem _ hx)) (by omega) (by omega)
end G

namespace G
open PySem PySem.Spec L2 RA
theorem isk_def : d_is_kept = sSeq (sPar 1 2 (aCons eDt (aCons (eLst true aNil) aNil))) (sSeq (sFor (iAny (eVar 0)) kTgt kBody) (sRet (eC (.bool true)))) := rfl
theorem isk (rows : List Rw) (ho : ∀ x ∈ rows, x.ok) (hl : rows.length ≤ 16000000) (S : Store) : m_is_kept [.p (.tuple (rows.map Rw.d))] S = .ret (.p (.bool (kp rows [] []))) S := by
  obtain ⟨fl, S', e, h⟩ := kp_run (some (.p (.tuple (rows.map Rw.d)))) rows [] [] none none none (by intro p hp; cases hp) ho (by simpa using hl) (by simpa using hl)
  have e1 : defRun 1 5 d_is_kept [.p (.tuple (rows.map Rw.d))] [] = ((Cm.ret fl S').bind fun r S1 => match r with
      | Fl.nx _ => Cm.ret (Fl.rt (AV.p (PyData.bool true))) S1
      | r => Cm.ret r S1).bind endK := by
    rw [isk_def, ← e]
    simp [defRun, Nat.beq, iAny, forI, seqOf, tupOf, newL, eDt, sPar, envK]
    rfl
  unfold m_is_kept box
  rw [e1]
  cases q : kp rows [] [] with
  | true =>
    rw [q] at h
    obtain ⟨as', rfl⟩ := h
    rfl
  | false =>
    rw [q] at h
    cases h
    rfl
end G

namespace G
open PySem PySem.Spec L2 RA
theorem eqD_kk (a b c d : Int) : eqD (.tuple [.int a, .int b]) (.tuple [.int c, .int d]) = some (decide (a = c) && decide (b = d)) := by
  unfold eqD
  have h : ∀ x y : Int, shN (.tuple [.int x, .int y]) 60 = true := fun x y => by rfl
  simp only [okEq, h, eqvD, eqvDs]
  cases decide (a = c) <;> cases decide (b = d) <;> rfl
theorem compL_filter {p : Pat} {t : XT} {e : XE} {as : RA.Env} {S : Store} {A : AV → RA.Env} {P : AV → Bool} {f : AV → AV} : ∀ {xs : List AV}, (∀ z ∈ xs, patE p z as = some (A z)) → (∀ z ∈ xs, t (A z) S = .ret (P z) S) → (∀ z ∈ xs, e (A z) S = .ret (f z) S) → compL p t e as xs S = .ret ((xs.filter P).map f) S
  | [], _, _, _ => rfl
  | z :: zs, h1, h2, h3 => by
    have ih := compL_filter (xs := zs) (fun y hy => h1 y (List.mem_cons_of_mem _ hy)) (fun y hy => h2 y (List.mem_cons_of_mem _ hy)) (fun y hy => h3 y (List.mem_cons_of_mem _ hy))
    unfold compL
    rw [h1 z (List.mem_cons_self ..)]
    show (t (A z) S).bind _ = _
    rw [h2 z (List.mem_cons_self ..), bind_ret]
    cases q : P z with
    | true =>
      show (e (A z) S).bind _ = _
      rw [h3 z (List.mem_cons_self ..), bind_ret, ih, List.filter_cons_of_pos q]
      rfl
    | false =>
      show compL p t e as zs S = _
      rw [ih, List.filter_cons_of_neg (by rw [q]; exact Bool.false_ne_true)]
def Rw.key : Rw → Option (Int × Int)
  | .done _ _ => none
  | .com _ r i _ _ => some (r, i)
  | .drp _ r i _ _ => some (r, i)
def tAh : XT := (tAndX (toT (e2 (gEq true) (e2 gIx (eVar 6) (eC (.int 1))) (eC (.str ⟨#[100, 111, 110, 101]⟩)))) (toT (e2 (gEq false) (eCut false (e2 gIx (eVar 6) (eC (.int 2))) oNone (oSome (eC (.int 2)))) (eCut false (eVar 4) oNone (oSome (eC (.int 2)))))))
def tDn : XT := (tAndX (toT (e2 (gEq false) (e2 gIx (eVar 6) (eC (.int 1))) (eC (.str ⟨#[100, 111, 110, 101]⟩)))) (toT (e2 (gEq false) (e2 gIx (eVar 6) (eC (.int 2))) (e2 gIx (eVar 4) (eC (.int 0))))))
def thg (r i a : Int) (nd : List PyData) : PyData := .tuple [.int r, .int i, .int a, .tuple nd]
theorem cut_thg (r i a : Int) (nd : List PyData) (S : Store) : gCut false (.p (thg r i a nd)) none (some 2) S = some (.p (.tuple [.int r, .int i]), S) := rfl
theorem at1 (x y z : PyData) : atI [x, y, z] 1 = some y := rfl
theorem at2 (x y z : PyData) : atI [x, y, z] 2 = some z := rfl
theorem tAh_at (a0 a1 a2 a3 a5 : Option AV) (r i a : Int) (nd : List PyData) (S : Store) (y : Rw) : tAh [a0, a1, a2, a3, some (.p (thg r i a nd)), a5, some (.p y.d)] S = .ret (match y.key with | some (r', i') => decide (r' = r) && decide (i' = i) | none => false) S := by
  cases y with
  | done m q => simp [tAh, gIx, Rw.d, at1, gEq, pureOf, eq_dd, Rw.key]
  | com m r' i' a' nd' =>
    have e1 := cut_thg r' i' a' nd' S
    unfold thg at e1
    simp [tAh, gIx, Rw.d, at1, at2, gEq, pureOf, eq_cd, cut_thg, e1, Rw.key, eqD_kk]
  | drp m r' i' a' nd' =>
    have e1 := cut_thg r' i' a' nd' S
    unfold thg at e1
    simp [tAh, gIx, Rw.d, at1, at2, gEq, pureOf, eq_pd, cut_thg, e1, Rw.key, eqD_kk]
theorem tDn_at (a0 a1 a2 a3 a5 : Option AV) (r i a : Int) (nd : List PyData) (S : Store) (y : Rw) : tDn [a0, a1, a2, a3, some (.p (thg r i a nd)), a5, some (.p y.d)] S = .ret (match y with | .done _ q => decide (q = r) | _ => false) S := by
  have e0 : atI [.int r, .int i, .int a, .tuple nd] 0 = some (PyData.int r) := by rfl
  cases y with
  | done m q => simp [tDn, gIx, Rw.d, thg, e0, at1, at2, gEq, pureOf, eq_dd, eqD_ii]
  | com m r' i' a' nd' => simp [tDn, gIx, Rw.d, at1, at2, gEq, pureOf, eq_cd]
  | drp m r' i' a' nd' => simp [tDn, gIx, Rw.d, at1, at2, gEq, pureOf, eq_pd]
theorem pures_ds : ∀ ds : List PyData, pures (ds.map AV.p) = some ds
  | [] => rfl
  | d :: ds => by
    simp [pures, pures_ds ds]
theorem pures_rs (rs : List Rw) : pures (rs.map fun x => AV.p x.d) = some (rs.map Rw.d) := by
  have := pures_ds (rs.map Rw.d)
  rw [List.map_map] at this
  exact this
theorem cutTo {α : Type} (xs : List α) (k : Nat) (h : k ≤ xs.length) : cut xs none (some (k : Int)) = xs.take k := by
  unfold cut
  rw [HT.sIx_nat, HT.sIx_none, Nat.min_eq_left h]
  simp
/-- the places of the def's loop -/
abbrev envL (h k : Nat) (m w th : PyData) (a5 a6 : Option AV) : RA.Env := [some (.h h), some (.p (.int k)), some (.p m), some (.p w), some (.p th), a5, a6]
theorem comp_at {h k : Nat} {rs : List Rw} {S : Store} {m w : PyData} {r i a : Int} {nd : List PyData} {a5 a6 : Option AV} (t : XT) (P : Rw → Bool) (hS : S[h]? = some (.lst (rs.map fun x => AV.p x.d))) (hk : k ≤ rs.length) (hl : rs.length ≤ 16000000)
    (ht : ∀ y : Rw, t [some (.h h), some (.p (.int k)), some (.p m), some (.p w), some (.p (thg r i a nd)), a5, some (.p y.d)] S = .ret (P y) S) :
    eComp false [6] (iAny (eCut false (eVar 0) oNone (oSome (eVar 1)))) (.nm 6) t (eVar 6) (envL h k m w (thg r i a nd) a5 a6) S = .ret (.p (.list (((rs.take k).filter P).map Rw.d))) S := by
  have e1 : gCut false (.h h) none (some (k : Int)) S = some (.p (.list ((rs.take k).map Rw.d)), S) := by
    simp only [gCut, seqL, hS]
    rw [cutTo _ _ (by rw [List.length_map]; exact hk), ← List.map_take]
    simp only [newL, mkLst, pures_rs]
  have hc : compL (.nm 6) t (eVar 6) [some (.h h), some (.p (.int k)), some (.p m), some (.p w), some (.p (thg r i a nd)), a5, none] (((rs.take k).map Rw.d).map AV.p) S = .ret ((((rs.take k).filter P).map Rw.d).map AV.p) S := by
    induction rs.take k with
    | nil => rfl
    | cons y ys ih =>
      rw [List.map_cons, List.map_cons]
      unfold compL
      show (t [some (.h h), some (.p (.int k)), some (.p m), some (.p w), some (.p (thg r i a nd)), a5, some (.p y.d)] S).bind _ = _
      rw [ht y, bind_ret]
      cases q : P y with
      | true =>
        rw [List.filter_cons_of_pos q]
        show (eVar 6 [some (.h h), some (.p (.int k)), some (.p m), some (.p w), some (.p (thg r i a nd)), a5, some (.p y.d)] S).bind _ = _
        show (compL (.nm 6) t (eVar 6) [some (.h h), some (.p (.int k)), some (.p m), some (.p w), some (.p (thg r i a nd)), a5, none] ((ys.map Rw.d).map AV.p) S).bind _ = _
        rw [ih]
        rfl
      | false =>
        rw [List.filter_cons_of_neg (by rw [q]; exact Bool.false_ne_true)]
        exact ih
  have ol : okLen (((rs.take k).map Rw.d).map AV.p).length = true := okL_of (by rw [List.length_map, List.length_map, List.length_take]; omega)
  simp only [eComp_ap, iAny_ap, eCut_ap, eVar_ap, oNone_ap, oSome_ap]
  simp only [List.getElem?_cons_zero, List.getElem?_cons_succ, bind_ret, e1, of_some, tupOf, lstOf]
  show (compI (.nm 6) t (eVar 6) (wipeE (envL h k m w (thg r i a nd) a5 a6) [6]) (.fz (((rs.take k).map Rw.d).map AV.p)) S).calm.bind _ = _
  have hI : compI (.nm 6) t (eVar 6) (wipeE (envL h k m w (thg r i a nd) a5 a6) [6]) (.fz (((rs.take k).map Rw.d).map AV.p)) S = compL (.nm 6) t (eVar 6) [some (.h h), some (.p (.int k)), some (.p m), some (.p w), some (.p (thg r i a nd)), a5, none] (((rs.take k).map Rw.d).map AV.p) S := by
    show (match okLen (((rs.take k).map Rw.d).map AV.p).length with
      | true => compL (.nm 6) t (eVar 6) (wipeE (envL h k m w (thg r i a nd) a5 a6) [6]) (((rs.take k).map Rw.d).map AV.p) S
      | false => Cm.stuck) = _
    rw [ol]
    rfl
  rw [hI]
  rw [hc]
  simp only [Cm.calm, bind_ret, newL, mkLst, pures_ds]
end G

namespace G
open PySem PySem.Spec L2 RA
/-! ### the law's own judge, turn by turn -/
def Rw.gd : Rw → Prop
  | .done _ _ => True
  | .com _ _ _ _ nd => ∃ p q : Int, nd = [.tuple [.int p, .int q]]
  | .drp _ _ _ _ nd => nd = [] ∨ ∃ n, nd = [.int n]
theorem Rw.gd.ok {x : Rw} (h : x.gd) : x.ok := by
  cases x with
  | done m r => trivial
  | com m r i a nd => trivial
  | drp m r i a nd => exact h
theorem gd_sh {x : Rw} (h : x.gd) : shN x.d 59 = true := by
  cases x with
  | done m r => kernel_rfl
  | com m r i a nd => obtain ⟨p, q, rfl⟩ := h; kernel_rfl
  | drp m r i a nd => rcases h with rfl | ⟨n, rfl⟩ <;> kernel_rfl
theorem gds_sh : ∀ {xs : List Rw}, (∀ x ∈ xs, x.gd) → shNs (xs.map Rw.d) 59 = true
  | [], _ => by simp [shNs]
  | x :: xs, h => by
    rw [List.map_cons]
    unfold shNs
    rw [gd_sh (h x (List.mem_cons_self ..))]
    exact gds_sh fun y hy => h y (List.mem_cons_of_mem _ hy)
theorem eqD_le {xs : List Rw} (h : ∀ x ∈ xs, x.gd) : eqD (.list (xs.map Rw.d)) (.list []) = some xs.isEmpty := by
  have e : okEq (.list (xs.map Rw.d)) (.list []) = true := by
    unfold okEq
    have : shN (.list (xs.map Rw.d)) 60 = true := by unfold shN; exact gds_sh h
    rw [this]
    rfl
  unfold eqD
  simp only [e]
  cases xs <;> rfl
theorem eq_cp : eqD (.str wCom) (.str wDrop) = some false := by kernel_rfl
theorem eq_pp : eqD (.str wDrop) (.str wDrop) = some true := by kernel_rfl
theorem eq_dc : eqD (.str wDone) (.str wCom) = some false := by kernel_rfl
def lTgt : XG := gUnX 2 (gsCons (gNm 1) (gsCons (gUnX 3 (gsCons (gNm 2) (gsCons (gNm 3) (gsCons (gNm 4) gsNil)))) gsNil))
def eAh : XE := eComp false [6] (iAny (eCut false (eVar 0) oNone (oSome (eVar 1)))) (.nm 6) tAh (eVar 6)
def eDn : XE := eComp false [6] (iAny (eCut false (eVar 0) oNone (oSome (eVar 1)))) (.nm 6) tDn (eVar 6)
def lBody : XS := (sSeq (sIf (toT (e2 (gEq false) (eVar 3) (eC (.str wDone)))) sCont sNext) (sSeq (sSet 5 eAh) (sSeq (sIf (tAndX (toT (e2 (gEq false) (eVar 3) (eC (.str wCom)))) (tAndX (toT (e2 (gEq true) (eVar 5) (eLst false aNil))) (toT (e2 (gEq false) (e2 gIx (e2 gIx (eVar 5) (eNeg (eC (.int 1)))) (eC (.int 1))) (eC (.str wCom)))))) (sRet (eC (.bool false))) sNext) (sIf (toT (e2 (gEq false) (eVar 3) (eC (.str wDrop)))) (sSeq (sIf (tOrX (toT (e2 (gEq false) (eVar 5) (eLst false aNil))) (tOrX (toT (e2 (gEq true) (e2 gIx (e2 gIx (eVar 5) (eNeg (eC (.int 1)))) (eC (.int 1))) (eC (.str wCom)))) (tOrX (toT (e2 (gEq true) (e2 gIx (e2 gIx (e2 gIx (eVar 5) (eNeg (eC (.int 1)))) (eC (.int 2))) (eC (.int 2))) (e2 gIx (eVar 4) (eC (.int 2))))) (toT (e2 (gEq true) (e2 gIx (eVar 4) (eC (.int 3))) (eTup aNil)))))) (sRet (eC (.bool false))) sNext) (sIf (toT (e2 (gEq true) eDn (eLst false aNil))) (sRet (eC (.bool false))) sNext)) sNext))))
theorem lk_def : d__law_kept = sSeq (sFor (iEnA (aCons (eVar 0) aNil)) lTgt lBody) (sRet (eC (.bool true))) := rfl
def isAh (r i : Int) (y : Rw) : Bool := match y.key with | some (r', i') => decide (r' = r) && decide (i' = i) | none => false
def isDn (r : Int) (y : Rw) : Bool := match y with | .done _ q => decide (q = r) | _ => false
def okC (al : List Rw) : Bool := match al.getLast? with | some (.com ..) => false | _ => true
def okD (al dl : List Rw) (a : Int) (nd : List PyData) : Bool := match al.getLast? with
  | some (.com _ _ _ b _) => match decide (b = a) with
    | true => match nd with
      | [] => dl.isEmpty
      | _ => false
    | false => false
  | _ => false
theorem gIx_t (ds : List PyData) (i : Int) (S : Store) : gIx (.p (.tuple ds)) (.p (.int i)) S = match atI ds i with | some d => some (.p d, S) | none => none := rfl
abbrev env0 (h : Nat) (a1 a2 a3 a4 a5 : Option AV) : RA.Env := [some (.h h), a1, a2, a3, a4, a5, none]
section
variable {h k : Nat} {rs : List Rw} {S : Store} (hS : S[h]? = some (.lst (rs.map fun x => AV.p x.d))) (hk : k ≤ rs.length) (hl : rs.length ≤ 16000000) (hg : ∀ x ∈ rs, x.gd)
include hS hk hl hg
theorem l_done (a1 a2 a3 a4 a5 : Option AV) (m r : Int) :
    (lTgt (.p (.tuple [.int k, (Rw.done m r).d])) (env0 h a1 a2 a3 a4 a5) S).bind lBody = .ret (.ct (env0 h (some (.p (.int k))) (some (.p (.int m))) (some (.p (.str wDone))) (some (.p (.int r))) a5)) S := by
  simp [lTgt, lBody, seqOf, tupOf, Rw.d, Nat.beq, gEq, pureOf, eq_dd]
theorem ah_eq (m r i a : Int) (w : PyData) (nd : List PyData) (a5 a6 : Option AV) : eAh [some (.h h), some (.p (.int k)), some (.p (.int m)), some (.p w), some (.p (.tuple [.int r, .int i, .int a, .tuple nd])), a5, a6] S = .ret (.p (.list (((rs.take k).filter (isAh r i)).map Rw.d))) S :=
  comp_at tAh (isAh r i) hS hk hl fun y => tAh_at ..
theorem dn_eq (m r i a : Int) (w : PyData) (nd : List PyData) (a5 a6 : Option AV) : eDn [some (.h h), some (.p (.int k)), some (.p (.int m)), some (.p w), some (.p (.tuple [.int r, .int i, .int a, .tuple nd])), a5, a6] S = .ret (.p (.list (((rs.take k).filter (isDn r)).map Rw.d))) S :=
  comp_at tDn (isDn r) hS hk hl fun y => tDn_at ..
omit hS hk hl in
theorem fil_gd (P : Rw → Bool) : ∀ x ∈ (rs.take k).filter P, x.gd := fun x hx => hg x (List.mem_of_mem_take (List.mem_filter.mp hx).1)
theorem l_com (a1 a2 a3 a4 a5 : Option AV) (m r i a : Int) (nd : List PyData) :
    (lTgt (.p (.tuple [.int k, (Rw.com m r i a nd).d])) (env0 h a1 a2 a3 a4 a5) S).bind lBody = match okC ((rs.take k).filter (isAh r i)) with
      | false => .ret (.rt (.p (.bool false))) S
      | true => .ret (.nx (env0 h (some (.p (.int k))) (some (.p (.int m))) (some (.p (.str wCom))) (some (.p (.tuple [.int r, .int i, .int a, .tuple nd]))) (some (.p (.list (((rs.take k).filter (isAh r i)).map Rw.d)))))) S := by
  have e1 := ah_eq hS hk hl hg m r i a (.str wCom) nd a5 none
  have g := fil_gd (k := k) hg (isAh r i)
  revert e1 g
  generalize (rs.take k).filter (isAh r i) = al
  intro e1 g
  have e2 := eqD_le g
  rcases List.eq_nil_or_concat al with rfl | ⟨al', z, rfl⟩
  · rw [List.map_nil] at e1 e2
    simp [lTgt, lBody, seqOf, tupOf, Rw.d, Nat.beq, gEq, pureOf, eq_cd, eq_cc, eq_cp, e1, newL, mkLst, pures, e2, okC]
  · rw [List.concat_eq_append] at *
    have e3 : ∀ (S : Store), gIx (.p (.list ((al' ++ [z]).map Rw.d))) (.p (.int (-1))) S = some (.p z.d, S) := by
      intro S
      have : atI (((al' ++ [z]).map Rw.d).map AV.p) (-1) = some (.p z.d) := by
        rw [List.map_append, List.map_append]
        exact atI_last _ _
      simp only [gIx, seqL, lstOf, this]
    have e4 : (al' ++ [z]).isEmpty = false := by cases al' <;> rfl
    rw [e4] at e2
    have e5 : (al' ++ [z]).getLast? = some z := by rw [List.getLast?_append]; rfl
    unfold okC
    rw [e5]
    generalize (al' ++ [z]).map Rw.d = L at *
    cases z with
    | done m r => simp [lTgt, lBody, seqOf, tupOf, Rw.d, Nat.beq, gEq, pureOf, eq_cd, eq_cc, eq_cp, eq_dc, e1, newL, mkLst, pures, e2, e3, gIx_t, at1, eq_dc]
    | com m' r' i' a' nd' => simp [lTgt, lBody, seqOf, tupOf, Rw.d, Nat.beq, gEq, pureOf, eq_cd, eq_cc, eq_cp, e1, newL, mkLst, pures, e2, e3, gIx_t, at1, eq_cc]
    | drp m' r' i' a' nd' => simp [lTgt, lBody, seqOf, tupOf, Rw.d, Nat.beq, gEq, pureOf, eq_cd, eq_cc, eq_cp, e1, newL, mkLst, pures, e2, e3, gIx_t, at1, eq_pc]
theorem l_drp (a1 a2 a3 a4 a5 : Option AV) (m r i a : Int) (nd : List PyData) (hn : nd = [] ∨ ∃ n, nd = [.int n]) :
    (lTgt (.p (.tuple [.int k, (Rw.drp m r i a nd).d])) (env0 h a1 a2 a3 a4 a5) S).bind lBody = match okD ((rs.take k).filter (isAh r i)) ((rs.take k).filter (isDn r)) a nd with
      | false => .ret (.rt (.p (.bool false))) S
      | true => .ret (.nx (env0 h (some (.p (.int k))) (some (.p (.int m))) (some (.p (.str wDrop))) (some (.p (.tuple [.int r, .int i, .int a, .tuple nd]))) (some (.p (.list (((rs.take k).filter (isAh r i)).map Rw.d)))))) S := by
  have e1 := ah_eq hS hk hl hg m r i a (.str wDrop) nd a5 none
  have e0 := fun a5 => dn_eq hS hk hl hg m r i a (.str wDrop) nd a5 none
  have g := fil_gd (k := k) hg (isAh r i)
  have g0 := fil_gd (k := k) hg (isDn r)
  revert e1 g e0 g0
  generalize (rs.take k).filter (isAh r i) = al
  generalize (rs.take k).filter (isDn r) = dl
  intro e1 e0 g g0
  have e2 := eqD_le g
  have e8 := eqD_le g0
  have e9 : atI [.int r, .int i, .int a, .tuple nd] 2 = some (PyData.int a) := by rfl
  have e10 : atI [.int r, .int i, .int a, .tuple nd] 3 = some (PyData.tuple nd) := by rfl
  rcases List.eq_nil_or_concat al with rfl | ⟨al', z, rfl⟩
  · rw [List.map_nil] at e1 e2
    simp [lTgt, lBody, seqOf, tupOf, Rw.d, Nat.beq, gEq, pureOf, eq_pd, eq_pc, eq_pp, e1, newL, mkLst, pures, e2, okD]
  · rw [List.concat_eq_append] at *
    have e3 : ∀ (S : Store), gIx (.p (.list ((al' ++ [z]).map Rw.d))) (.p (.int (-1))) S = some (.p z.d, S) := by
      intro S
      have : atI (((al' ++ [z]).map Rw.d).map AV.p) (-1) = some (.p z.d) := by
        rw [List.map_append, List.map_append]
        exact atI_last _ _
      simp only [gIx, seqL, lstOf, this]
    have e4 : (al' ++ [z]).isEmpty = false := by cases al' <;> rfl
    rw [e4] at e2
    have e5 : (al' ++ [z]).getLast? = some z := by rw [List.getLast?_append]; rfl
    unfold okD
    rw [e5]
    generalize (al' ++ [z]).map Rw.d = L at *
    cases z with
    | done m r => simp [lTgt, lBody, seqOf, tupOf, Rw.d, Nat.beq, gEq, pureOf, eq_pd, eq_pc, eq_pp, eq_dc, e1, newL, mkLst, pures, e2, e3, gIx_t, at1, eq_dc]
    | drp m' r' i' a' nd' => simp [lTgt, lBody, seqOf, tupOf, Rw.d, Nat.beq, gEq, pureOf, eq_pd, eq_pc, eq_pp, e1, newL, mkLst, pures, e2, e3, gIx_t, at1, eq_pc]
    | com m' r' i' b nd' =>
      have e6 : atI [.int r', .int i', .int b, .tuple nd'] 2 = some (PyData.int b) := by rfl
      cases q : decide (b = a) with
      | false => simp [lTgt, lBody, seqOf, tupOf, Rw.d, Nat.beq, gEq, pureOf, eq_pd, eq_pc, eq_pp, e1, newL, mkLst, pures, e2, e3, gIx_t, at1, at2, eq_cc, e6, e9, eqD_ii, q]
      | true =>
        rcases hn with rfl | ⟨n, rfl⟩
        · cases q2 : dl.isEmpty <;> rw [q2] at e8 <;> simp [lTgt, lBody, seqOf, tupOf, Rw.d, Nat.beq, gEq, pureOf, eq_pd, eq_pc, eq_pp, e1, newL, mkLst, pures, e2, e3, gIx_t, at1, at2, eq_cc, e6, e9, e10, eqD_ii, q, mkTup, pures, eq_ne, e0, e8]
        · simp [lTgt, lBody, seqOf, tupOf, Rw.d, Nat.beq, gEq, pureOf, eq_pd, eq_pc, eq_pp, e1, newL, mkLst, pures, e2, e3, gIx_t, at1, at2, eq_cc, e6, e9, e10, eqD_ii, q, mkTup, pures, eq_n1]
end
def lk : List Rw → List Rw → Bool
  | _, [] => true
  | pre, .done m r :: t => lk (pre ++ [.done m r]) t
  | pre, .com m r i a nd :: t => match okC (pre.filter (isAh r i)) with
    | false => false
    | true => lk (pre ++ [.com m r i a nd]) t
  | pre, .drp m r i a nd :: t => match okD (pre.filter (isAh r i)) (pre.filter (isDn r)) a nd with
    | false => false
    | true => lk (pre ++ [.drp m r i a nd]) t
theorem forM_step {g : XG} {b : XS} {h : Nat} {n i : Nat} {as : RA.Env} {S : Store} {xs : List AV} {x : AV} (hS : S[h]? = some (.lst xs)) (hx : xs[i]? = some x) : forM g b h true (n + 1) i as S = ((g (mkTup [.p (.int (i : Nat)), x]) as S).bind b).bind (turnK (forM g b h true n (i + 1))) := by
  have e : muAt h true S = some (enumA 0 xs) := by unfold muAt; rw [hS]
  have e2 : (enumA 0 xs)[i]? = some (mkTup [.p (.int (i : Nat)), x]) := by rw [enumA_get, hx, Nat.zero_add]; rfl
  show (match muAt h true S with
    | some xs => match xs[i]? with
      | none => Cm.ret (Fl.nx as) S
      | some z => (g z as S).bind fun as1 S1 => (b as1 S1).bind (turnK (forM g b h true n (i + 1)))
    | none => Cm.stuck) = _
  rw [e]
  show (match (enumA 0 xs)[i]? with
      | none => Cm.ret (Fl.nx as) S
      | some z => (g z as S).bind fun as1 S1 => (b as1 S1).bind (turnK (forM g b h true n (i + 1)))) = _
  rw [e2]
  exact (bind_assoc _).symm
theorem forM_end {g : XG} {b : XS} {h : Nat} {n i : Nat} {as : RA.Env} {S : Store} {xs : List AV} (hS : S[h]? = some (.lst xs)) (hx : xs[i]? = none) : forM g b h true (n + 1) i as S = Cm.ret (Fl.nx as) S := by
  have e : muAt h true S = some (enumA 0 xs) := by unfold muAt; rw [hS]
  have e2 : (enumA 0 xs)[i]? = none := by rw [enumA_get, hx]; rfl
  show (match muAt h true S with
    | some xs => match xs[i]? with
      | none => Cm.ret (Fl.nx as) S
      | some z => (g z as S).bind fun as1 S1 => (b as1 S1).bind (turnK (forM g b h true n (i + 1)))
    | none => Cm.stuck) = _
  rw [e]
  show (match (enumA 0 xs)[i]? with
      | none => Cm.ret (Fl.nx as) S
      | some z => (g z as S).bind fun as1 S1 => (b as1 S1).bind (turnK (forM g b h true n (i + 1)))) = _
  rw [e2]
theorem lk_run {h : Nat} {rs : List Rw} {S : Store} (hS : S[h]? = some (.lst (rs.map fun x => AV.p x.d))) (hl : rs.length ≤ 16000000) (hg : ∀ x ∈ rs, x.gd) : ∀ (t pre : List Rw), rs = pre ++ t → ∀ n, t.length + 1 ≤ n → ∀ a1 a2 a3 a4 a5 : Option AV,
    ∃ fl, forM lTgt lBody h true n pre.length (env0 h a1 a2 a3 a4 a5) S = .ret fl S ∧ (match lk pre t with | true => ∃ as', fl = Fl.nx as' | false => fl = Fl.rt (.p (.bool false)))
  | [], pre, e, n, hn, a1, a2, a3, a4, a5 => by
    obtain ⟨n, rfl⟩ : ∃ n', n = n' + 1 := ⟨n - 1, by simp at hn; omega⟩
    refine ⟨_, forM_end hS ?_, ?_⟩
    · rw [List.getElem?_map, e, List.append_nil, List.getElem?_eq_none (Nat.le_refl _)]; rfl
    · unfold lk; exact ⟨_, rfl⟩
  | x :: t, pre, e, n, hn, a1, a2, a3, a4, a5 => by
    obtain ⟨n, rfl⟩ : ∃ n', n = n' + 1 := ⟨n - 1, by simp at hn; omega⟩
    have hx : (rs.map fun x => AV.p x.d)[pre.length]? = some (.p x.d) := by
      rw [List.getElem?_map, e, List.getElem?_append_right (Nat.le_refl _), Nat.sub_self]; rfl
    have hk : pre.length ≤ rs.length := by rw [e, List.length_append]; omega
    have ht : rs.take pre.length = pre := by rw [e, List.take_left]
    have hn' : t.length + 1 ≤ n := by simp only [List.length_cons] at hn; omega
    have gx : x.gd := hg x (by rw [e]; simp)
    have next := fun a1 a2 a3 a4 a5 => lk_run hS hl hg t (pre ++ [x]) (by rw [e, List.append_assoc]; rfl) n hn' a1 a2 a3 a4 a5
    simp only [List.length_append, List.length_singleton] at next
    rw [forM_step hS hx]
    show ∃ fl, ((lTgt (.p (.tuple [.int (pre.length : Nat), x.d])) (env0 h a1 a2 a3 a4 a5) S).bind lBody).bind _ = _ ∧ _
    cases x with
    | done m r =>
      rw [l_done hS hk hl hg]
      unfold lk
      exact next _ _ _ _ _
    | com m r i a nd =>
      rw [l_com hS hk hl hg, ht]
      unfold lk
      cases q : okC (pre.filter (isAh r i)) with
      | false => exact ⟨_, rfl, rfl⟩
      | true => exact next _ _ _ _ _
    | drp m r i a nd =>
      rw [l_drp hS hk hl hg _ _ _ _ _ _ _ _ _ _ gx, ht]
      unfold lk
      cases q : okD (pre.filter (isAh r i)) (pre.filter (isDn r)) a nd with
      | false => exact ⟨_, rfl, rfl⟩
      | true => exact next _ _ _ _ _
theorem islk {h : Nat} {rs : List Rw} {S : Store} (hS : S[h]? = some (.lst (rs.map fun x => AV.p x.d))) (hl : rs.length ≤ 16000000) (hg : ∀ x ∈ rs, x.gd) : m__law_kept [.h h] S = .ret (.p (.bool (lk [] rs))) S := by
  obtain ⟨fl, e, q⟩ := lk_run hS hl hg rs [] rfl (rs.length + 1) (Nat.le_refl _) none none none none none
  have hlen : lenH h S = rs.length := by unfold lenH; rw [hS]; exact List.length_map ..
  have e1 : m__law_kept [.h h] S = ((Cm.ret fl S).bind fun r S1 => match r with
      | Fl.nx _ => Cm.ret (Fl.rt (AV.p (PyData.bool true))) S1
      | r => Cm.ret r S1).bind endK := by
    rw [← e]
    unfold m__law_kept
    rw [lk_def]
    simp only [defRun, List.length_singleton, Nat.beq]
    simp [iEnA_ap, hS, forI, hlen]
    all_goals rfl
  rw [e1]
  cases q' : lk [] rs with
  | true =>
    rw [q'] at q
    obtain ⟨as', rfl⟩ := q
    rfl
  | false =>
    rw [q'] at q
    cases q
    rfl
end G

namespace G
open PySem PySem.Spec L2 RA
/-! ### the two judges say the same -/
theorem look_cons {κ : Type} (b : κ → κ → Bool) (k a : κ) (x : AV) (r : List (κ × AV)) : lookA b k ((a, x) :: r) = match b a k with | true => some x | false => lookA b k r := rfl
theorem look_app {κ : Type} (b : κ → κ → Bool) (k : κ) (k0 : κ) (v : AV) : ∀ kvs : List (κ × AV), lookA b k (kvs ++ [(k0, v)]) = match lookA b k kvs with | some x => some x | none => match b k0 k with | true => some v | false => none
  | [] => rfl
  | (a, x) :: r => by
    rw [List.cons_append, look_cons, look_cons]
    cases b a k with
    | true => rfl
    | false => exact look_app b k k0 v r
section
variable {κ : Type} [DecidableEq κ] {b : κ → κ → Bool} (hb : ∀ x y, b x y = decide (x = y))
include hb
theorem bt (x : κ) : b x x = true := by rw [hb]; exact decide_eq_true rfl
theorem bf {x y : κ} (h : x ≠ y) : b x y = false := by rw [hb]; exact decide_eq_false h
theorem look_any (k : κ) : ∀ kvs : List (κ × AV), (kvs.any fun p => b p.1 k) = false → lookA b k kvs = none
  | [], _ => rfl
  | (a, x) :: r, h => by
    rw [List.any_cons, Bool.or_eq_false_iff] at h
    rw [look_cons, h.1]
    exact look_any k r h.2
theorem look_none_any (k : κ) : ∀ kvs : List (κ × AV), lookA b k kvs = none → (kvs.any fun p => b p.1 k) = false
  | [], _ => rfl
  | (a, x) :: r, h => by
    rw [look_cons] at h
    rw [List.any_cons]
    cases q : b a k with
    | true => rw [q] at h; cases h
    | false => rw [q] at h; exact look_none_any k r h
theorem look_map (k k' : κ) (v : AV) : ∀ kvs : List (κ × AV), lookA b k' (kvs.map fun p => match b p.1 k with | true => (p.1, v) | false => p) = match decide (k = k') with | true => (match kvs.any fun p => b p.1 k with | true => some v | false => none) | false => lookA b k' kvs
  | [] => by cases decide (k = k') <;> rfl
  | (a, x) :: r => by
    have ih := look_map k k' v r
    rw [List.map_cons, List.any_cons, look_cons]
    by_cases h : k = k'
    · subst h
      rw [decide_eq_true rfl] at ih ⊢
      cases q : b a k with
      | true => simp only [q]; first | rfl | (rw [look_cons, q]; rfl)
      | false => simp only [q]; first | exact ih | (rw [look_cons, q]; exact ih)
    · rw [decide_eq_false h] at ih ⊢
      cases q : b a k with
      | true =>
        simp only [q]; rw [look_cons]
        have : a = k := by rw [hb] at q; exact of_decide_eq_true q
        rw [bf hb (by rw [this]; exact h)]
        exact ih
      | false =>
        simp only [q]; rw [look_cons]
        cases b a k' with
        | true => rfl
        | false => exact ih
theorem look_put_same (kvs : List (κ × AV)) (k : κ) (v : AV) : lookA b k (putA b kvs k v) = some v := by
  unfold putA
  cases q : kvs.any fun p => b p.1 k with
  | true => exact (look_map hb k k v kvs).trans (by rw [decide_eq_true rfl, q])
  | false => simp only []; rw [look_app, look_any hb k kvs q, bt hb]
theorem look_put_ne (kvs : List (κ × AV)) {k k' : κ} (h : k ≠ k') (v : AV) : lookA b k' (putA b kvs k v) = lookA b k' kvs := by
  unfold putA
  cases q : kvs.any fun p => b p.1 k with
  | true => exact (look_map hb k k' v kvs).trans (by rw [decide_eq_false h])
  | false => simp only []; rw [look_app, bf hb h]; cases lookA b k' kvs <;> rfl
theorem look_drop_same (k : κ) : ∀ kvs : List (κ × AV), lookA b k (dropA b kvs k) = none
  | [] => rfl
  | (a, x) :: r => by
    have ih := look_drop_same k r
    unfold dropA at *
    rw [List.filter_cons]
    cases q : b a k with
    | true => simpa [q] using ih
    | false => simp [q, look_cons, ih]
theorem look_drop_ne {k k' : κ} (h : k ≠ k') : ∀ kvs : List (κ × AV), lookA b k' (dropA b kvs k) = lookA b k' kvs
  | [] => rfl
  | (a, x) :: r => by
    have ih := look_drop_ne h r
    unfold dropA at *
    rw [List.filter_cons, look_cons]
    cases q : b a k with
    | true =>
      have : a = k := by rw [hb] at q; exact of_decide_eq_true q
      rw [bf hb (by rw [this]; exact h)]
      simpa [q] using ih
    | false => simp [q, look_cons, ih]
theorem drop_put {kvs : List (κ × AV)} {k : κ} (v : AV) (h : lookA b k kvs = none) : dropA b (putA b kvs k v) k = kvs := by
  have q := look_none_any hb k kvs h
  unfold putA
  rw [q]
  unfold dropA
  simp only []
  rw [List.filter_append, List.filter_eq_self.mpr, List.filter_cons_of_neg, List.filter_nil, List.append_nil]
  · rw [bt hb]; decide
  · intro p hp
    rw [List.any_eq_false] at q
    have := q p hp
    simpa using this
end
structure Inv (pre : List Rw) (ds : List Int) (kvs : KV) : Prop where
  d : ∀ r, (ds.any fun z => decide (z = r)) = !(pre.filter (isDn r)).isEmpty
  k : ∀ r i, lookA keysB [.inl r, .inl i] kvs = match (pre.filter (isAh r i)).getLast? with | some (.com _ _ _ b _) => some (.p (.int b)) | _ => none
theorem key_ne {r i r' i' : Int} (h : isAh r' i' (.com 0 r i 0 []) = false) : ([.inl r, .inl i] : List Key) ≠ [.inl r', .inl i'] := by
  intro e
  injection e with e1 e2
  injection e2 with e2
  injection e1 with e1
  injection e2 with e2
  subst e1 e2
  simp [isAh, Rw.key] at h
theorem key_eq {r i r' i' : Int} (h : isAh r' i' (.com 0 r i 0 []) = true) : r = r' ∧ i = i' := by
  simpa [isAh, Rw.key] using h
theorem kp_lk : ∀ (t pre : List Rw) (ds : List Int) (kvs : KV), Inv pre ds kvs → kp t ds kvs = lk pre t
  | [], pre, ds, kvs, h => by unfold kp lk; rfl
  | .done m r :: t, pre, ds, kvs, h => by
    unfold kp lk
    refine kp_lk t _ _ _ ⟨fun r' => ?_, fun r' i' => ?_⟩
    · rw [List.any_append, h.d, List.filter_append]
      cases q : decide (r = r') with
      | true =>
        have : isDn r' (.done m r) = true := q
        rw [List.filter_cons_of_pos this]
        simp [q]
      | false =>
        have : ¬ isDn r' (.done m r) = true := by show ¬ decide (r = r') = true; rw [q]; decide
        rw [List.filter_cons_of_neg this]
        simp [q]
    · rw [h.k, List.filter_append]
      have : ¬ isAh r' i' (.done m r) = true := by simp [isAh, Rw.key]
      rw [List.filter_cons_of_neg this, List.filter_nil, List.append_nil]
  | .com m r i a nd :: t, pre, ds, kvs, h => by
    unfold kp lk
    have h1 := h.k r i
    have e : (match lookA keysB [.inl r, .inl i] kvs with | some _ => false | none => kp t ds (putA keysB kvs [.inl r, .inl i] (.p (.int a)))) = match okC (pre.filter (isAh r i)) with
      | false => false
      | true => kp t ds (putA keysB kvs [.inl r, .inl i] (.p (.int a))) := by
      rw [h1]
      unfold okC
      cases (pre.filter (isAh r i)).getLast? with
      | none => rfl
      | some z => cases z <;> rfl
    refine e.trans ?_
    cases q : okC (pre.filter (isAh r i)) with
    | false => rfl
    | true =>
      refine kp_lk t _ _ _ ⟨fun r' => ?_, fun r' i' => ?_⟩
      · rw [h.d, List.filter_append]
        have : ¬ isDn r' (.com m r i a nd) = true := by simp [isDn]
        rw [List.filter_cons_of_neg this, List.filter_nil, List.append_nil]
      · rw [List.filter_append]
        have e0 : isAh r' i' (.com m r i a nd) = isAh r' i' (.com 0 r i 0 []) := rfl
        cases q2 : isAh r' i' (.com 0 r i 0 []) with
        | true =>
          obtain ⟨rfl, rfl⟩ := key_eq q2
          rw [look_put_same keysB_eq, List.filter_cons_of_pos (e0.trans q2), List.filter_nil, List.getLast?_append]
          rfl
        | false =>
          rw [look_put_ne keysB_eq _ (key_ne q2), h.k, List.filter_cons_of_neg (by rw [e0, q2]; decide), List.filter_nil, List.append_nil]
  | .drp m r i a nd :: t, pre, ds, kvs, h => by
    unfold kp lk
    have h1 := h.k r i
    have h2 := h.d r
    have e : okDrp ds kvs r i a nd = okD (pre.filter (isAh r i)) (pre.filter (isDn r)) a nd := by
      unfold okDrp okD
      rw [h1, h2]
      cases (pre.filter (isAh r i)).getLast? with
      | none => cases (pre.filter (isDn r)).isEmpty <;> rfl
      | some z =>
        cases z with
        | com m' r' i' b nd' => cases (pre.filter (isDn r)).isEmpty <;> by_cases q2 : b = a <;> cases nd <;> simp [q2]
        | _ => cases (pre.filter (isDn r)).isEmpty <;> rfl
    rw [e]
    cases q : okD (pre.filter (isAh r i)) (pre.filter (isDn r)) a nd with
    | false => rfl
    | true =>
      refine kp_lk t _ _ _ ⟨fun r' => ?_, fun r' i' => ?_⟩
      · rw [h.d, List.filter_append]
        have : ¬ isDn r' (.drp m r i a nd) = true := by simp [isDn]
        rw [List.filter_cons_of_neg this, List.filter_nil, List.append_nil]
      · rw [List.filter_append]
        have e0 : isAh r' i' (.drp m r i a nd) = isAh r' i' (.com 0 r i 0 []) := rfl
        cases q2 : isAh r' i' (.com 0 r i 0 []) with
        | true =>
          obtain ⟨rfl, rfl⟩ := key_eq q2
          rw [look_drop_same keysB_eq, List.filter_cons_of_pos (e0.trans q2), List.filter_nil, List.getLast?_append]
          rfl
        | false =>
          rw [look_drop_ne keysB_eq (key_ne q2), h.k, List.filter_cons_of_neg (by rw [e0, q2]; decide), List.filter_nil, List.append_nil]
theorem kp_eq (rs : List Rw) : kp rs [] [] = lk [] rs := kp_lk rs [] [] [] ⟨fun _ => rfl, fun _ _ => rfl⟩
end G

namespace G
open PySem PySem.Spec L2 RA
/-! ### the long history -/
abbrev lp (X : List Rw) : AV := .p (.list (X.map Rw.d))
theorem cut_map {α β : Type} (f : α → β) (xs : List α) (lo hi : Option Int) : cut (xs.map f) lo hi = (cut xs lo hi).map f := by
  unfold cut
  rw [List.length_map, List.map_take, List.map_drop]
theorem cutFrom {α : Type} (xs : List α) (k : Nat) (h : k ≤ xs.length) : cut xs (some (k : Int)) none = xs.drop k := by
  unfold cut
  rw [HT.sIx_nat, HT.sIx_none, Nat.min_eq_left h]
  exact List.take_of_length_le (by rw [List.length_drop]; omega)
theorem lstOf_l (ds : List PyData) : lstOf (.p (.list ds)) = some (ds.map .p) := rfl
theorem add_ll (a b : List PyData) (h : a.length + b.length ≤ 16000000) (S : Store) : gAdd false (.p (.list a)) (.p (.list b)) S = some (.p (.list (a ++ b)), S) := by
  have e : okLen ((a.map AV.p).length + (b.map AV.p).length) = true := okL_of (by rw [List.length_map, List.length_map]; omega)
  show (match okLen ((a.map AV.p).length + (b.map AV.p).length) with
        | true => some (newL false (a.map AV.p ++ b.map AV.p) S)
        | false => none) = _
  rw [e]
  simp only [newL, mkLst]
  rw [← List.map_append, pures_ds]
theorem add_rows {f g : XE} {as : RA.Env} {S : Store} {X Y : List Rw} (hf : f as S = .ret (lp X) S) (hg : g as S = .ret (lp Y) S) (h : X.length + Y.length ≤ 16000000) : e2 (gAdd false) f g as S = .ret (lp (X ++ Y)) S := by
  rw [e2_ap, hf, bind_ret, hg, bind_ret, add_ll _ _ (by rw [List.length_map, List.length_map]; exact h), of_some, ← List.map_append]
theorem lst1 {f : XE} {as : RA.Env} {S : Store} {x : Rw} (hf : f as S = .ret (.p x.d) S) : eLst false (aCons f aNil) as S = .ret (lp [x]) S := by
  simp [hf, newL, mkLst, pures]
theorem lst2 {f g : XE} {as : RA.Env} {S : Store} {x y : Rw} (hf : f as S = .ret (.p x.d) S) (hg : g as S = .ret (.p y.d) S) : eLst false (aCons f (aCons g aNil)) as S = .ret (lp [x, y]) S := by
  simp [hf, hg, newL, mkLst, pures]
theorem lst3 {f g e : XE} {as : RA.Env} {S : Store} {x y z : Rw} (hf : f as S = .ret (.p x.d) S) (hg : g as S = .ret (.p y.d) S) (he : e as S = .ret (.p z.d) S) : eLst false (aCons f (aCons g (aCons e aNil))) as S = .ret (lp [x, y, z]) S := by
  simp [hf, hg, he, newL, mkLst, pures]
theorem cut_to {f g : XE} {as : RA.Env} {S : Store} {X : List Rw} {k : Nat} (hf : f as S = .ret (lp X) S) (hg : g as S = .ret (.p (.int k)) S) (h : k ≤ X.length) : eCut false f oNone (oSome g) as S = .ret (lp (X.take k)) S := by
  have e : gCut false (lp X) none (some (k : Int)) S = some (lp (X.take k), S) := by
    show some (newL false (cut ((X.map Rw.d).map AV.p) none (some (k : Int))) S) = _
    rw [List.map_map, cut_map, cutTo _ _ h]
    simp only [newL, mkLst]
    have := pures_rs (X.take k)
    rw [show List.map (AV.p ∘ Rw.d) (X.take k) = (X.take k).map fun x => AV.p x.d from rfl, this]
  simp only [eCut_ap, hf, bind_ret, oNone_ap, oSome_ap, hg, e, of_some]
theorem cut_from {f g : XE} {as : RA.Env} {S : Store} {X : List Rw} {k : Nat} (hf : f as S = .ret (lp X) S) (hg : g as S = .ret (.p (.int k)) S) (h : k ≤ X.length) : eCut false f (oSome g) oNone as S = .ret (lp (X.drop k)) S := by
  have e : gCut false (lp X) (some (k : Int)) none S = some (lp (X.drop k), S) := by
    show some (newL false (cut ((X.map Rw.d).map AV.p) (some (k : Int)) none) S) = _
    rw [List.map_map, cut_map, cutFrom _ _ h]
    simp only [newL, mkLst]
    have := pures_rs (X.drop k)
    rw [show List.map (AV.p ∘ Rw.d) (X.drop k) = (X.drop k).map fun x => AV.p x.d from rfl, this]
  simp only [eCut_ap, hf, bind_ret, oNone_ap, oSome_ap, hg, e, of_some]
theorem atI_nat {α : Type} (xs : List α) (k : Nat) {x : α} (h : xs[k]? = some x) : atI xs (k : Int) = some x := by
  have hk : k < xs.length := by
    rcases Nat.lt_or_ge k xs.length with h1 | h1
    · exact h1
    · rw [List.getElem?_eq_none h1] at h; cases h
  unfold atI ixN
  rw [if_pos (Int.natCast_nonneg k), if_pos (by omega)]
  exact h
theorem ix_row {f g : XE} {as : RA.Env} {S : Store} {X : List Rw} {k : Nat} {x : Rw} (hf : f as S = .ret (lp X) S) (hg : g as S = .ret (.p (.int k)) S) (h : X[k]? = some x) : e2 gIx f g as S = .ret (.p x.d) S := by
  have e : atI ((X.map Rw.d).map AV.p) (k : Int) = some (.p x.d) := by
    rw [List.map_map]
    exact atI_nat _ _ (by rw [List.getElem?_map, h]; rfl)
  have e1 : gIx (lp X) (.p (.int k)) S = some (.p x.d, S) := by
    simp only [gIx, seqL, lstOf_l, e]
  simp only [e2_ap, hf, bind_ret, hg, e1, of_some]
def kx (f : XE) : XE := eCall m_is_kept (aCons (eN gTuple (aCons f aNil)) aNil)
theorem kept_at {f : XE} {as : RA.Env} {S : Store} {X : List Rw} (hf : f as S = .ret (lp X) S) (ho : ∀ x ∈ X, x.ok) (hl : X.length ≤ 16000000) : kx f as S = .ret (.p (.bool (kp X [] []))) S := by
  have e : gTuple [lp X] S = some (.p (.tuple (X.map Rw.d)), S) := by
    simp only [gTuple, seqOf, tupOf, seqL, lstOf_l, mkTup, pures_ds]
  simp only [kx, eCall_ap, aCons_ap, eN_ap, hf, bind_ret, aNil_ap, e, of_some]
  exact isk X ho hl S
/-! rows -/
abbrev nd0 : List PyData := [.tuple [.int 0, .int 0]]
def xCom (t r i a : XE) : XE := eTup (aCons t (aCons (eC (.str wCom)) (aCons (eTup (aCons r (aCons i (aCons a (aCons (eTup (aCons (eTup (aCons (eC (.int 0)) (aCons (eC (.int 0)) aNil))) aNil)) aNil))))) aNil)))
def xDrp (t r i a : XE) : XE := eTup (aCons t (aCons (eC (.str wDrop)) (aCons (eTup (aCons r (aCons i (aCons a (aCons (eTup aNil) aNil))))) aNil)))
def xDon (t r : XE) : XE := eTup (aCons t (aCons (eC (.str wDone)) (aCons r aNil)))
section
variable {t r i a : XE} {as : RA.Env} {S : Store} {mm rr ii aa : Int} (ht : t as S = .ret (.p (.int mm)) S) (hr : r as S = .ret (.p (.int rr)) S) (hi : i as S = .ret (.p (.int ii)) S) (ha : a as S = .ret (.p (.int aa)) S)
include ht hr
theorem xDon_at : xDon t r as S = .ret (.p (Rw.done mm rr).d) S := by
  simp [xDon, ht, hr, mkTup, pures, Rw.d]
include hi ha
theorem xCom_at : xCom t r i a as S = .ret (.p (Rw.com mm rr ii aa nd0).d) S := by
  simp [xCom, ht, hr, hi, ha, mkTup, pures, Rw.d]
theorem xDrp_at : xDrp t r i a as S = .ret (.p (Rw.drp mm rr ii aa []).d) S := by
  simp [xDrp, ht, hr, hi, ha, mkTup, pures, Rw.d]
end
abbrev cm (m a : Int) : Rw := .com m 0 1 a nd0
abbrev dp (m a : Int) : Rw := .drp m 0 1 a []
/-- so many rows of two, from one on -/
def prs : Nat → Nat → List Rw
  | _, 0 => []
  | j, n + 1 => cm (2 * j) (j + 1) :: dp (2 * j + 1) (j + 1) :: prs (j + 1) n
theorem prs_len : ∀ j n, (prs j n).length = 2 * n
  | _, 0 => rfl
  | j, n + 1 => by unfold prs; rw [List.length_cons, List.length_cons, prs_len]; omega
theorem prs_add : ∀ a j b, prs j (a + b) = prs j a ++ prs (j + a) b
  | 0, j, b => by rw [Nat.zero_add]; rfl
  | a + 1, j, b => by
    rw [show a + 1 + b = (a + b) + 1 from by omega]
    show cm _ _ :: dp _ _ :: prs (j + 1) (a + b) = cm _ _ :: dp _ _ :: (prs (j + 1) a ++ prs (j + (a + 1)) b)
    rw [prs_add a (j + 1) b, show j + 1 + a = j + (a + 1) from by omega]
theorem prs_ok : ∀ j n, ∀ x ∈ prs j n, x.ok
  | _, 0, x, h => by cases h
  | j, n + 1, x, h => by
    unfold prs at h
    rcases List.mem_cons.mp h with rfl | h
    · trivial
    · rcases List.mem_cons.mp h with rfl | h
      · exact .inl rfl
      · exact prs_ok (j + 1) n x h
abbrev kk : List Key := [.inl 0, .inl 1]
theorem kp_com {m r i a : Int} {nd : List PyData} {t : List Rw} {ds : List Int} {kvs : KV} (h : lookA keysB [.inl r, .inl i] kvs = none) : kp (.com m r i a nd :: t) ds kvs = kp t ds (putA keysB kvs [.inl r, .inl i] (.p (.int a))) := by
  rw [kp, h]
theorem kp_com_no {m r i a : Int} {nd : List PyData} {t : List Rw} {ds : List Int} {kvs : KV} {v : AV} (h : lookA keysB [.inl r, .inl i] kvs = some v) : kp (.com m r i a nd :: t) ds kvs = false := by
  rw [kp, h]
theorem kp_drp {m r i a : Int} {nd : List PyData} {t : List Rw} {ds : List Int} {kvs : KV} (h : okDrp ds kvs r i a nd = true) : kp (.drp m r i a nd :: t) ds kvs = kp t ds (dropA keysB kvs [.inl r, .inl i]) := by
  rw [kp, h]
theorem kp_drp_no {m r i a : Int} {nd : List PyData} {t : List Rw} {ds : List Int} {kvs : KV} (h : okDrp ds kvs r i a nd = false) : kp (.drp m r i a nd :: t) ds kvs = false := by
  rw [kp, h]
theorem kp_prs : ∀ n j (t : List Rw), kp (prs j n ++ t) [] [] = kp t [] []
  | 0, _, _ => rfl
  | n + 1, j, t => by
    show kp (cm (2 * j) (j + 1) :: dp (2 * j + 1) (j + 1) :: (prs (j + 1) n ++ t)) [] [] = _
    rw [kp_com rfl, kp_drp, drop_put keysB_eq _ rfl, kp_prs n (j + 1) t]
    show okDrp [] [([.inl 0, .inl 1], .p (.int (j + 1)))] 0 1 (j + 1) [] = true
    unfold okDrp
    have : lookA keysB [.inl 0, .inl 1] [(([.inl 0, .inl 1] : List Key), AV.p (.int ((j : Int) + 1)))] = some (.p (.int (j + 1))) := rfl
    rw [this]
    simp
end G

namespace G
open PySem PySem.Spec L2 RA
abbrev iC (i : Int) : XE := eC (.int i)
abbrev aM : Op2 := gMul false
abbrev aP : Op2 := gAdd false
abbrev tT (x : XE) : XE := e2 aM (iC 2) x
abbrev tP (x : XE) (i : Int) : XE := e2 aP x (iC i)
abbrev l1 (x : XE) : XE := eLst false (aCons x aNil)
def s1 : XS := sAsg (eTup (aCons (eLst false aNil) (aCons (e2 aP (iC 20) (eCall m__law_roll (aCons (eVar 0) (aCons (iC 60) aNil)))) aNil))) (gUnX 2 (gsCons (gNm 1) (gsCons (gNm 2) gsNil)))
def b2 : XS := sSet 1 (e2 aP (eVar 1) (eLst false (aCons (xCom (tT (eVar 3)) (iC 0) (iC 1) (tP (eVar 3) 1)) (aCons (xDrp (tP (tT (eVar 3)) 1) (iC 0) (iC 1) (tP (eVar 3) 1)) aNil))))
def x3 : XE := e2 aP (eVar 1) (eLst false (aCons (xCom (tT (eVar 2)) (iC 0) (iC 1) (tP (eVar 2) 1)) (aCons (xDon (tP (tT (eVar 2)) 1) (iC 0)) aNil)))
def x5 : XE := eLst false (aCons (xDrp (eVar 4) (iC 0) (iC 1) (tP (eVar 2) 1)) (aCons (xCom (eVar 4) (iC 0) (iC 1) (tP (eVar 2) 2)) (aCons (xDrp (eVar 4) (iC 1) (iC 1) (iC 1)) aNil)))
def x6 : XE := e2 aP (eLst false (aCons (kx (eVar 1)) (aCons (kx (e2 aP (eVar 1) (l1 (xCom (eVar 4) (iC 1) (iC 1) (iC 1))))) aNil))) (eComp false [10] (iAny (eVar 5)) (.nm 10) tYesX (kx (e2 aP (eVar 1) (l1 (eVar 10)))))
def x7 : XE := tP (tT (eCall m__law_roll (aCons (eVar 0) (aCons (eVar 2) aNil)))) 1
def c7 : XE := eCut false (eVar 1) oNone (oSome (eVar 7))
def c8 : XE := eCut false (eVar 1) (oSome (tP (eVar 7) 1)) oNone
def i7 : XE := e2 gIx (eVar 1) (eVar 7)
def y8 : XE := e2 aP (eCut false i7 oNone (oSome (iC 2))) (eTup (aCons (eTup (aCons (iC 0) (aCons (iC 1) (aCons (tP (e2 gIx (e2 gIx i7 (iC 2)) (iC 2)) 1) (aCons (eTup aNil) aNil))))) aNil))
def y9 : XE := e2 aP (eCut false i7 oNone (oSome (iC 2))) (eTup (aCons (e2 aP (eCut false (e2 gIx i7 (iC 2)) oNone (oSome (iC 3))) (eTup (aCons (eTup (aCons (iC 2) aNil)) aNil))) aNil))
def x8 : XE := e2 aP (e2 aP c7 (l1 y8)) c8
def x9 : XE := e2 aP (e2 aP c7 (l1 y9)) c8
def x10 : XE := eCall m__law_like (aCons (e2 aP (eVar 6) (eLst false (aCons (kx (eVar 8)) (aCons (kx (eVar 9)) (aCons (kx (e2 aP c7 c8)) aNil))))) (aCons (e2 aP (eLst false (aCons (eC (.bool true)) (aCons (eC (.bool true)) aNil))) (e2 aM (eLst false (aCons (eC (.bool false)) aNil)) (iC 6))) aNil))
def q7 : XS := sSeq (sSet 8 x8) (sSeq (sSet 9 x9) (sRet x10))
def q3 : XS := sSeq (sSet 1 x3) (sSeq (sSet 4 (tP (tT (eVar 2)) 2)) (sSeq (sSet 5 x5) (sSeq (sSet 6 x6) (sSeq (sSet 7 x7) q7))))
theorem lr_def : d__law_long_right = sSeq s1 (sSeq (sFor (iRg1 (aCons (eVar 2) aNil)) (gNm 3) b2) q3) := rfl
/-! the loop -/
abbrev envR (n : Nat) (v1 v3 v4 v5 v6 v7 v8 v9 : Option AV) : RA.Env := [some .cup, v1, some (.p (.int n)), v3, v4, v5, v6, v7, v8, v9, none]
theorem mul_2 (j : Int) (S : Store) : gMul false (.p (.int 2)) (.p (.int j)) S = some (.p (.int (2 * j)), S) := by
  have e : cMul 2 j = true := by
    unfold cMul
    have : inI (-18446744073709551616) 18446744073709551616 2 = true := by kernel_rfl
    rw [this]
  simp only [gMul, e]
theorem tT_at {x : XE} {as : RA.Env} {S : Store} {i : Int} (h : x as S = .ret (.p (.int i)) S) : tT x as S = .ret (.p (.int (2 * i))) S := by
  show e2 (gMul false) (eC (.int 2)) x as S = _
  rw [e2_ap, eC_ap, bind_ret, h, bind_ret, mul_2, of_some]
theorem tP_at {x : XE} {as : RA.Env} {S : Store} {i k : Int} (h : x as S = .ret (.p (.int i)) S) : tP x k as S = .ret (.p (.int (i + k))) S := by
  show e2 (gAdd false) x (eC (.int k)) as S = _
  rw [e2_ap, h, bind_ret, eC_ap, bind_ret]
  rfl
theorem add_ii (i j : Int) (S : Store) : gAdd false (.p (.int i)) (.p (.int j)) S = some (.p (.int (i + j)), S) := rfl
theorem b2_at (n j : Nat) (X : List Rw) (h : X.length + 2 ≤ 16000000) (v4 v5 v6 v7 v8 v9 : Option AV) (S : Store) : b2 (envR n (some (lp X)) (some (.p (.int j))) v4 v5 v6 v7 v8 v9) S = .ret (.nx (envR n (some (lp (X ++ [cm (2 * j) (j + 1), dp (2 * j + 1) (j + 1)]))) (some (.p (.int j))) v4 v5 v6 v7 v8 v9)) S := by
  unfold b2
  rw [sSet_ap, add_rows (X := X) (Y := [cm (2 * j) (j + 1), dp (2 * j + 1) (j + 1)]) rfl (lst2 (xCom_at (tT_at rfl) rfl rfl (tP_at rfl)) (xDrp_at (tP_at (tT_at rfl)) rfl rfl (tP_at rfl))) h]
  rfl
theorem loop_at (n : Nat) (v4 v5 v6 v7 v8 v9 : Option AV) (S : Store) : ∀ (k j : Nat), 2 * (j + k) ≤ 10000000 → ∀ v3 : Option AV, ∃ v3', forL (gNm 3) b2 (rgA j k) (envR n (some (lp (prs 0 j))) v3 v4 v5 v6 v7 v8 v9) S = .ret (.nx (envR n (some (lp (prs 0 (j + k)))) v3' v4 v5 v6 v7 v8 v9)) S
  | 0, j, _, v3 => ⟨v3, rfl⟩
  | k + 1, j, h, v3 => by
    obtain ⟨v3', e⟩ := loop_at n v4 v5 v6 v7 v8 v9 S k (j + 1) (by omega) (some (.p (.int j)))
    refine ⟨v3', ?_⟩
    show forL (gNm 3) b2 (.p (.int j) :: rgA (j + 1) k) _ S = _
    rw [forL_cons]
    have e2 : (gNm 3 (.p (.int j)) (envR n (some (lp (prs 0 j))) v3 v4 v5 v6 v7 v8 v9) S).bind b2 = .ret (.nx (envR n (some (lp (prs 0 (j + 1)))) (some (.p (.int j))) v4 v5 v6 v7 v8 v9)) S := by
      rw [gNm_ap, bind_ret]
      have := b2_at n j (prs 0 j) (by rw [prs_len]; omega) v4 v5 v6 v7 v8 v9 S
      rw [prs_add j 0 1, Nat.zero_add]
      exact this
    rw [e2, bind_ret, turn_nx]
    rw [show j + (k + 1) = j + 1 + k from by omega]
    exact e
/-! the rows when the loop is over -/
def big (n : Nat) : List Rw := prs 0 n ++ [cm (2 * n) (n + 1), .done (2 * n + 1) 0]
def rest (n p : Nat) : List Rw := prs (p + 1) (n - p - 1) ++ [cm (2 * n) (n + 1), .done (2 * n + 1) 0]
theorem big_len (n : Nat) : (big n).length = 2 * n + 2 := by unfold big; rw [List.length_append, prs_len]; rfl
theorem big_split {n p : Nat} (h : p < n) : big n = prs 0 p ++ (cm (2 * p) (p + 1) :: dp (2 * p + 1) (p + 1) :: rest n p) := by
  unfold big rest
  obtain ⟨m, rfl⟩ : ∃ m, n = p + (m + 1) := ⟨n - p - 1, by omega⟩
  rw [prs_add p 0 (m + 1), Nat.zero_add, List.append_assoc]
  have : p + (m + 1) - p - 1 = m := by omega
  rw [this]
  rfl
theorem big_take {n p : Nat} (h : p < n) : (big n).take (2 * p + 1) = prs 0 p ++ [cm (2 * p) (p + 1)] := by
  rw [big_split h, List.take_append, prs_len, List.take_of_length_le (by rw [prs_len]; omega), show 2 * p + 1 - 2 * p = 1 from by omega]
  rfl
theorem big_drop {n p : Nat} (h : p < n) : (big n).drop (2 * p + 1 + 1) = rest n p := by
  rw [big_split h, List.drop_append, prs_len, List.drop_of_length_le (by rw [prs_len]; omega), show 2 * p + 1 + 1 - 2 * p = 2 from by omega]
  rfl
theorem big_get {n p : Nat} (h : p < n) : (big n)[2 * p + 1]? = some (dp (2 * p + 1) (p + 1)) := by
  rw [big_split h, List.getElem?_append_right (by rw [prs_len]; omega), prs_len, show 2 * p + 1 - 2 * p = 1 from by omega]
  rfl
theorem big_ok (n : Nat) : ∀ x ∈ big n, x.ok := by
  intro x hx
  unfold big at hx
  rcases List.mem_append.mp hx with h | h
  · exact prs_ok _ _ x h
  · simp at h
    rcases h with rfl | rfl <;> trivial
theorem rest_ok (n p : Nat) : ∀ x ∈ rest n p, x.ok := by
  intro x hx
  unfold rest at hx
  rcases List.mem_append.mp hx with h | h
  · exact prs_ok _ _ x h
  · simp at h
    rcases h with rfl | rfl <;> trivial
theorem rest_len {n p : Nat} (h : p < n) : (rest n p).length = 2 * (n - p - 1) + 2 := by unfold rest; rw [List.length_append, prs_len]; rfl
theorem kb0 (n : Nat) : kp (big n) [] [] = true := by unfold big; rw [kp_prs]; rfl
theorem kb1 (n : Nat) (m : Int) : kp (big n ++ [.com m 1 1 1 nd0]) [] [] = true := by unfold big; rw [List.append_assoc, kp_prs]; rfl
theorem kb2 (n : Nat) (m a : Int) : kp (big n ++ [dp m a]) [] [] = false := by unfold big; rw [List.append_assoc, kp_prs]; rfl
theorem kb3 (n : Nat) (m a : Int) : kp (big n ++ [cm m a]) [] [] = false := by unfold big; rw [List.append_assoc, kp_prs]; rfl
theorem kb4 (n : Nat) (m : Int) : kp (big n ++ [.drp m 1 1 1 []]) [] [] = false := by unfold big; rw [List.append_assoc, kp_prs]; rfl
theorem kb5 (n p : Nat) (m : Int) : kp (prs 0 p ++ [cm (2 * p) (p + 1)] ++ [dp m (p + 1 + 1)] ++ rest n p) [] [] = false := by
  rw [List.append_assoc, List.append_assoc, kp_prs]
  show kp (cm (2 * p) (p + 1) :: dp m (p + 1 + 1) :: rest n p) [] [] = false
  rw [kp_com rfl, kp_drp_no]
  show (match decide ((p : Int) + 1 = p + 1 + 1) with | true => true | false => false) = false
  rw [decide_eq_false (by omega)]
theorem kb6 (n p : Nat) (m : Int) (z : PyData) : kp (prs 0 p ++ [cm (2 * p) (p + 1)] ++ [.drp m 0 1 (p + 1) [z]] ++ rest n p) [] [] = false := by
  rw [List.append_assoc, List.append_assoc, kp_prs]
  show kp (cm (2 * p) (p + 1) :: .drp m 0 1 (p + 1) [z] :: rest n p) [] [] = false
  rw [kp_com rfl, kp_drp_no]
  show (match decide ((p : Int) + 1 = p + 1) with | true => false | false => false) = false
  cases decide ((p : Int) + 1 = p + 1) <;> rfl
theorem kb7 (n p : Nat) : kp (prs 0 p ++ [cm (2 * p) (p + 1)] ++ rest n p) [] [] = false := by
  rw [List.append_assoc, kp_prs]
  show kp (cm (2 * p) (p + 1) :: rest n p) [] [] = false
  rw [kp_com rfl]
  unfold rest
  cases n - p - 1 with
  | zero => exact kp_com_no rfl
  | succ k => exact kp_com_no rfl
end G

namespace G
open PySem PySem.Spec L2 RA
theorem seq_set {i : Nat} {f : XE} {g : XS} {as : RA.Env} {S : Store} {v : AV} (h : f as S = .ret v S) : sSeq (sSet i f) g as S = g (as.set i (some v)) S := by
  rw [sSeq_ap, sSet_ap, h, bind_ret, bind_ret]
/-- truths, as a list -/
abbrev bs (l : List Bool) : AV := .p (.list (l.map PyData.bool))
theorem like8 (S : Store) : m__law_like [bs [true, true, false, false, false, false, false, false], bs [true, true, false, false, false, false, false, false]] S = .ret (.p (.bool true)) S := by kernel_rfl
theorem add_bs {f g : XE} {as : RA.Env} {S : Store} {X Y : List Bool} (hf : f as S = .ret (bs X) S) (hg : g as S = .ret (bs Y) S) (h : X.length + Y.length ≤ 16000000) : e2 (gAdd false) f g as S = .ret (bs (X ++ Y)) S := by
  rw [e2_ap, hf, bind_ret, hg, bind_ret, add_ll _ _ (by rw [List.length_map, List.length_map]; exact h), of_some, ← List.map_append]
theorem bs2 {f g : XE} {as : RA.Env} {S : Store} {x y : Bool} (hf : f as S = .ret (.p (.bool x)) S) (hg : g as S = .ret (.p (.bool y)) S) : eLst false (aCons f (aCons g aNil)) as S = .ret (bs [x, y]) S := by
  simp [hf, hg, newL, mkLst, pures]
theorem bs3 {f g e : XE} {as : RA.Env} {S : Store} {x y z : Bool} (hf : f as S = .ret (.p (.bool x)) S) (hg : g as S = .ret (.p (.bool y)) S) (he : e as S = .ret (.p (.bool z)) S) : eLst false (aCons f (aCons g (aCons e aNil))) as S = .ret (bs [x, y, z]) S := by
  simp [hf, hg, he, newL, mkLst, pures]
theorem bigc_ok (n : Nat) {x : Rw} (h : x.ok) : ∀ y ∈ big n ++ [x], y.ok := by
  intro y hy
  rcases List.mem_append.mp hy with h1 | h1
  · exact big_ok n y h1
  · rw [List.mem_singleton.mp h1]; exact h
section
variable {n : Nat} (hn : n ≤ 100) (v3 v7 v8 v9 v10 : Option AV) (S : Store)
abbrev late (n : Nat) : Int := 2 * n + 2
abbrev bads (n : Nat) : List Rw := [dp (late n) (n + 1), cm (late n) (n + 2), .drp (late n) 1 1 1 []]
abbrev envB (n : Nat) (v3 v6 v7 v8 v9 v10 : Option AV) : RA.Env := [some .cup, some (lp (big n)), some (.p (.int n)), v3, some (.p (.int (late n))), some (lp (bads n)), v6, v7, v8, v9, v10]
include hn
theorem big_le (k : Nat) (hk : k ≤ 100) : (big n).length + k ≤ 16000000 := by rw [big_len]; omega
theorem kbig (v6 : Option AV) : kx (eVar 1) (envB n v3 v6 v7 v8 v9 v10) S = .ret (.p (.bool true)) S := by
  rw [kept_at (X := big n) rfl (big_ok n) (big_le hn 0 (by omega)), kb0]
theorem kbig1 (v6 : Option AV) {f : XE} {x : Rw} {b : Bool} (hf : f (envB n v3 v6 v7 v8 v9 v10) S = .ret (.p x.d) S) (hx : x.ok) (hb : kp (big n ++ [x]) [] [] = b) : kx (e2 aP (eVar 1) (l1 f)) (envB n v3 v6 v7 v8 v9 v10) S = .ret (.p (.bool b)) S := by
  rw [kept_at (X := big n ++ [x]) (add_rows rfl (lst1 hf) (big_le hn 1 (by omega))) (bigc_ok n hx) (by rw [List.length_append]; exact big_le hn 1 (by omega)), hb]
theorem x6_at : x6 (envB n v3 none v7 v8 v9 none) S = .ret (bs [true, true, false, false, false]) S := by
  have e1 : kx (e2 aP (eVar 1) (l1 (xCom (eVar 4) (iC 1) (iC 1) (iC 1)))) (envB n v3 none v7 v8 v9 none) S = .ret (.p (.bool true)) S := kbig1 hn v3 v7 v8 v9 none S none (x := .com (late n) 1 1 1 nd0) (xCom_at rfl rfl rfl rfl) trivial (kb1 n _)
  have k2 : ∀ (x : Rw), x ∈ bads n → kx (e2 aP (eVar 1) (l1 (eVar 10))) (envB n v3 none v7 v8 v9 (some (.p x.d))) S = .ret (.p (.bool false)) S := by
    intro x hx
    refine kbig1 hn v3 v7 v8 v9 _ S none (x := x) rfl ?_ ?_
    · simp at hx
      rcases hx with rfl | rfl | rfl
      · exact .inl rfl
      · trivial
      · exact .inl rfl
    · simp at hx
      rcases hx with rfl | rfl | rfl
      · exact kb2 n _ _
      · exact kb3 n _ _
      · exact kb4 n _
  have e2 : eComp false [10] (iAny (eVar 5)) (.nm 10) tYesX (kx (e2 aP (eVar 1) (l1 (eVar 10)))) (envB n v3 none v7 v8 v9 none) S = .ret (bs [false, false, false]) S := by
    have c : ∀ (zs : List Rw), (∀ x ∈ zs, x ∈ bads n) → compL (.nm 10) tYesX (kx (e2 aP (eVar 1) (l1 (eVar 10)))) (envB n v3 none v7 v8 v9 none) (zs.map fun x => AV.p x.d) S = .ret (zs.map fun _ => AV.p (.bool false)) S := by
      intro zs
      induction zs with
      | nil => intro _; rfl
      | cons z zs ih =>
        intro h
        rw [List.map_cons]
        unfold compL
        show (kx (e2 aP (eVar 1) (l1 (eVar 10))) (envB n v3 none v7 v8 v9 (some (.p z.d))) S).bind _ = _
        rw [k2 z (h z (List.mem_cons_self ..)), bind_ret, ih fun x hx => h x (List.mem_cons_of_mem _ hx)]
        rfl
    have c3 := c (bads n) (fun x h => h)
    rw [eComp_ap]
    have e3 : iAny (eVar 5) (envB n v3 none v7 v8 v9 none) S = .ret (.fz ((bads n).map fun x => AV.p x.d)) S := rfl
    rw [e3, bind_ret]
    show (compL (.nm 10) tYesX (kx (e2 aP (eVar 1) (l1 (eVar 10)))) (envB n v3 none v7 v8 v9 none) ((bads n).map fun x => AV.p x.d) S).calm.bind _ = _
    rw [c3]
    rfl
  exact add_bs (X := [true, true]) (Y := [false, false, false]) (bs2 (kbig hn v3 v7 v8 v9 none S none) e1) e2 (by simp)
end
end G

namespace G
open PySem PySem.Spec L2 RA
section
variable {as : RA.Env} {S : Store} {m a : Int} (h : i7 as S = .ret (.p (dp m a).d) S)
include h
theorem y8_at : y8 as S = .ret (.p (dp m (a + 1)).d) S := by
  have e1 : gCut false (.p (dp m a).d) none (some 2) S = some (.p (.tuple [.int m, .str wDrop]), S) := rfl
  have e2 : gIx (.p (dp m a).d) (.p (.int 2)) S = some (.p (.tuple [.int 0, .int 1, .int a, .tuple []]), S) := rfl
  have e3 : gIx (.p (.tuple [.int 0, .int 1, .int a, .tuple []])) (.p (.int 2)) S = some (.p (.int a), S) := rfl
  have e4 : gAdd false (.p (.tuple [.int m, .str wDrop])) (.p (.tuple [.tuple [.int 0, .int 1, .int (a + 1), .tuple []]])) S = some (.p (dp m (a + 1)).d, S) := rfl
  simp [y8, h, e1, e2, e3, e4, mkTup, pures, add_ii]
theorem y9_at : y9 as S = .ret (.p (Rw.drp m 0 1 a [.int 2]).d) S := by
  have e1 : gCut false (.p (dp m a).d) none (some 2) S = some (.p (.tuple [.int m, .str wDrop]), S) := rfl
  have e2 : gIx (.p (dp m a).d) (.p (.int 2)) S = some (.p (.tuple [.int 0, .int 1, .int a, .tuple []]), S) := rfl
  have e3 : gCut false (.p (.tuple [.int 0, .int 1, .int a, .tuple []])) none (some 3) S = some (.p (.tuple [.int 0, .int 1, .int a]), S) := rfl
  have e5 : gAdd false (.p (.tuple [.int 0, .int 1, .int a])) (.p (.tuple [.tuple [.int 2]])) S = some (.p (.tuple [.int 0, .int 1, .int a, .tuple [.int 2]]), S) := rfl
  have e4 : gAdd false (.p (.tuple [.int m, .str wDrop])) (.p (.tuple [.tuple [.int 0, .int 1, .int a, .tuple [.int 2]]])) S = some (.p (Rw.drp m 0 1 a [.int 2]).d, S) := rfl
  simp [y9, h, e1, e2, e3, e4, e5, mkTup, pures]
end
section
variable {n p : Nat} (hn : n ≤ 100) (hp : p < n) (v3 v8 v9 : Option AV) (S : Store)
abbrev envC (n p : Nat) (v3 v8 v9 : Option AV) : RA.Env := envB n v3 (some (bs [true, true, false, false, false])) (some (.p (.int ((2 * p + 1 : Nat) : Int)))) v8 v9 none
include hn hp
theorem c7_at : c7 (envC n p v3 v8 v9) S = .ret (lp (prs 0 p ++ [cm (2 * p) (p + 1)])) S := by
  rw [← big_take hp]
  exact cut_to rfl rfl (by rw [big_len]; omega)
theorem c8_at : c8 (envC n p v3 v8 v9) S = .ret (lp (rest n p)) S := by
  rw [← big_drop hp]
  have e : tP (eVar 7) 1 (envC n p v3 v8 v9) S = .ret (.p (.int ((2 * p + 1 + 1 : Nat) : Int))) S := by
    have := tP_at (k := 1) (x := eVar 7) (as := envC n p v3 v8 v9) (S := S) (i := ((2 * p + 1 : Nat) : Int)) rfl
    rw [this]
    rfl
  exact cut_from rfl e (by rw [big_len]; omega)
theorem i7_at : i7 (envC n p v3 v8 v9) S = .ret (.p (dp (2 * p + 1) (p + 1)).d) S := ix_row rfl rfl (big_get hp)
theorem mid_at {f : XE} {x : Rw} (hf : f (envC n p v3 v8 v9) S = .ret (.p x.d) S) : e2 aP (e2 aP c7 (l1 f)) c8 (envC n p v3 v8 v9) S = .ret (lp (prs 0 p ++ [cm (2 * p) (p + 1)] ++ [x] ++ rest n p)) S := by
  refine add_rows (add_rows (c7_at hn hp v3 v8 v9 S) (lst1 hf) ?_) (c8_at hn hp v3 v8 v9 S) ?_
  · simp [prs_len]; omega
  · simp [prs_len, rest_len hp]; omega
theorem mid_ok {x : Rw} (hx : x.ok) : ∀ y ∈ prs 0 p ++ [cm (2 * p) (p + 1)] ++ [x] ++ rest n p, y.ok := by
  intro y hy
  rcases List.mem_append.mp hy with hy | hy
  · rcases List.mem_append.mp hy with hy | hy
    · rcases List.mem_append.mp hy with hy | hy
      · exact prs_ok _ _ y hy
      · rw [List.mem_singleton.mp hy]; trivial
    · rw [List.mem_singleton.mp hy]; exact hx
  · exact rest_ok n p y hy
theorem mid2_ok : ∀ y ∈ prs 0 p ++ [cm (2 * p) (p + 1)] ++ rest n p, y.ok := by
  intro y hy
  rcases List.mem_append.mp hy with hy | hy
  · rcases List.mem_append.mp hy with hy | hy
    · exact prs_ok _ _ y hy
    · rw [List.mem_singleton.mp hy]; trivial
  · exact rest_ok n p y hy
theorem q7_at : q7 (envC n p v3 none none) S = .ret (.rt (.p (.bool true))) S := by
  have m8 : x8 (envC n p v3 none none) S = .ret (lp (prs 0 p ++ [cm (2 * p) (p + 1)] ++ [dp (2 * p + 1) (p + 1 + 1)] ++ rest n p)) S := mid_at hn hp v3 none none S (y8_at (i7_at hn hp v3 none none S))
  have l8 : (prs 0 p ++ [cm (2 * p) (p + 1)] ++ [dp (2 * p + 1) (p + 1 + 1)] ++ rest n p).length ≤ 16000000 := by simp [prs_len, rest_len hp]; omega
  have l9 : (prs 0 p ++ [cm (2 * p) (p + 1)] ++ [Rw.drp (2 * p + 1) 0 1 (p + 1) [.int 2]] ++ rest n p).length ≤ 16000000 := by simp [prs_len, rest_len hp]; omega
  have l10 : (prs 0 p ++ [cm (2 * p) (p + 1)] ++ rest n p).length ≤ 16000000 := by simp [prs_len, rest_len hp]; omega
  unfold q7
  rw [seq_set m8]
  show sSeq (sSet 9 x9) (sRet x10) (envC n p v3 (some (lp (prs 0 p ++ [cm (2 * p) (p + 1)] ++ [dp (2 * p + 1) (p + 1 + 1)] ++ rest n p))) none) S = _
  have m9 : x9 (envC n p v3 (some (lp (prs 0 p ++ [cm (2 * p) (p + 1)] ++ [dp (2 * p + 1) (p + 1 + 1)] ++ rest n p))) none) S = .ret (lp (prs 0 p ++ [cm (2 * p) (p + 1)] ++ [Rw.drp (2 * p + 1) 0 1 (p + 1) [.int 2]] ++ rest n p)) S := mid_at hn hp v3 (some (lp (prs 0 p ++ [cm (2 * p) (p + 1)] ++ [dp (2 * p + 1) (p + 1 + 1)] ++ rest n p))) none S (y9_at (i7_at hn hp v3 _ _ S))
  rw [seq_set m9]
  show sRet x10 (envC n p v3 (some (lp (prs 0 p ++ [cm (2 * p) (p + 1)] ++ [dp (2 * p + 1) (p + 1 + 1)] ++ rest n p))) (some (lp (prs 0 p ++ [cm (2 * p) (p + 1)] ++ [Rw.drp (2 * p + 1) 0 1 (p + 1) [.int 2]] ++ rest n p)))) S = _
  have k8 : kx (eVar 8) (envC n p v3 (some (lp (prs 0 p ++ [cm (2 * p) (p + 1)] ++ [dp (2 * p + 1) (p + 1 + 1)] ++ rest n p))) (some (lp (prs 0 p ++ [cm (2 * p) (p + 1)] ++ [Rw.drp (2 * p + 1) 0 1 (p + 1) [.int 2]] ++ rest n p)))) S = .ret (.p (.bool false)) S := by
    rw [kept_at (X := prs 0 p ++ [cm (2 * p) (p + 1)] ++ [dp (2 * p + 1) (p + 1 + 1)] ++ rest n p) rfl (mid_ok hn hp (x := dp (2 * p + 1) (p + 1 + 1)) (Or.inl rfl)) l8, kb5]
  have k9 : kx (eVar 9) (envC n p v3 (some (lp (prs 0 p ++ [cm (2 * p) (p + 1)] ++ [dp (2 * p + 1) (p + 1 + 1)] ++ rest n p))) (some (lp (prs 0 p ++ [cm (2 * p) (p + 1)] ++ [Rw.drp (2 * p + 1) 0 1 (p + 1) [.int 2]] ++ rest n p)))) S = .ret (.p (.bool false)) S := by
    rw [kept_at (X := prs 0 p ++ [cm (2 * p) (p + 1)] ++ [Rw.drp (2 * p + 1) 0 1 (p + 1) [.int 2]] ++ rest n p) rfl (mid_ok hn hp (x := Rw.drp (2 * p + 1) 0 1 (p + 1) [.int 2]) (Or.inr ⟨_, rfl⟩)) l9, kb6]
  have k10 : kx (e2 aP c7 c8) (envC n p v3 (some (lp (prs 0 p ++ [cm (2 * p) (p + 1)] ++ [dp (2 * p + 1) (p + 1 + 1)] ++ rest n p))) (some (lp (prs 0 p ++ [cm (2 * p) (p + 1)] ++ [Rw.drp (2 * p + 1) 0 1 (p + 1) [.int 2]] ++ rest n p)))) S = .ret (.p (.bool false)) S := by
    rw [kept_at (add_rows (c7_at hn hp _ _ _ S) (c8_at hn hp _ _ _ S) (by rw [← List.length_append]; exact l10)) (mid2_ok hn hp) l10, kb7]
  have e6 := add_bs (X := [true, true, false, false, false]) (Y := [false, false, false]) (f := eVar 6) rfl (bs3 k8 k9 k10) (by simp)
  unfold x10
  rw [sRet_ap, eCall_ap, aCons_ap, e6, bind_ret, aCons_ap]
  have e7 : ∀ as : RA.Env, e2 aP (eLst false (aCons (eC (.bool true)) (aCons (eC (.bool true)) aNil))) (e2 aM (eLst false (aCons (eC (.bool false)) aNil)) (iC 6)) as S = .ret (bs [true, true, false, false, false, false, false, false]) S := fun as => rfl
  rw [e7, bind_ret, aNil_ap, bind_ret, bind_ret, bind_ret]
  show (m__law_like [bs [true, true, false, false, false, false, false, false], bs [true, true, false, false, false, false, false, false]] S).bind _ = _
  rw [like8]
  rfl
end
theorem roll_at {n : Nat} (h : n < 1000000) (S : Store) (h0 : 0 < n) : mRoll [.cup, .p (.int n)] S = .roll n fun i => .ret (.p (.int (i : Nat))) S := by
  have : inI 0 1000000000000 (n : Int) = true := by
    unfold inI
    rw [decide_eq_true (by omega : (0 : Int) < n)]
    exact decide_eq_true (by omega : (n : Int) < 1000000000000)
  simp only [mRoll, this, Int.toNat_natCast]
/-- at every draw it ends so -/
structure Tells {α : Type} (m : Cm α) (v : α) (S : Store) : Prop where
  run : m.All (fun r S' => r = v ∧ S' = S) (fun _ _ => False)
theorem Tells.ret {α : Type} (v : α) (S : Store) : Tells (.ret v S) v S := ⟨⟨rfl, rfl⟩⟩
theorem Tells.roll {α : Type} {n : Nat} {f : Nat → Cm α} {v : α} {S : Store} (h : ∀ i, i < n → Tells (f i) v S) : Tells (.roll n f) v S := ⟨fun i hi => (h i hi).run⟩
theorem Tells.bind {α β : Type} {m : Cm α} {k : α → Store → Cm β} {v : α} {u : β} {S S' : Store} (h : Tells m v S) (h2 : Tells (k v S) u S') : Tells (m.bind k) u S' :=
  ⟨Cm.All.of_bind (Cm.All.mono (fun _ _ e => by obtain ⟨rfl, rfl⟩ := e; exact h2.run) (fun _ _ e => e) h.run)⟩
theorem q3_all {n : Nat} (hn : n ≤ 100) (h0 : 0 < n) (v3 : Option AV) (S : Store) : Tells (q3 (envR n (some (lp (prs 0 n))) v3 none none none none none none) S) (.rt (.p (.bool true))) S := by
  have e3 : x3 (envR n (some (lp (prs 0 n))) v3 none none none none none none) S = .ret (lp (big n)) S := add_rows rfl (lst2 (xCom_at (tT_at rfl) rfl rfl (tP_at rfl)) (xDon_at (tP_at (tT_at rfl)) rfl)) (by rw [prs_len]; show 2 * n + 2 ≤ 16000000; omega)
  unfold q3
  rw [seq_set e3]
  rw [seq_set (v := .p (.int (2 * n + 2))) (tP_at (tT_at rfl))]
  have e5 : x5 [some .cup, some (lp (big n)), some (.p (.int n)), v3, some (.p (.int (late n))), none, none, none, none, none, none] S = .ret (lp (bads n)) S := lst3 (xDrp_at rfl rfl rfl (tP_at rfl)) (xCom_at rfl rfl rfl (tP_at rfl)) (xDrp_at rfl rfl rfl rfl)
  show Tells (sSeq (sSet 5 x5) _ [some .cup, some (lp (big n)), some (.p (.int n)), v3, some (.p (.int (late n))), none, none, none, none, none, none] S) _ _
  rw [seq_set e5]
  show Tells (sSeq (sSet 6 x6) _ (envB n v3 none none none none none) S) _ _
  rw [seq_set (x6_at hn v3 none none none S)]
  show Tells (sSeq (sSet 7 x7) q7 (envB n v3 (some (bs [true, true, false, false, false])) none none none none) S) _ _
  have e7 : x7 (envB n v3 (some (bs [true, true, false, false, false])) none none none none) S = .roll n fun i => .ret (.p (.int (2 * (i : Nat) + 1))) S := by
    have r : eCall m__law_roll (aCons (eVar 0) (aCons (eVar 2) aNil)) (envB n v3 (some (bs [true, true, false, false, false])) none none none none) S = .roll n fun i => .ret (.p (.int (i : Nat))) S := roll_at (by omega) S h0
    have t : tT (eCall m__law_roll (aCons (eVar 0) (aCons (eVar 2) aNil))) (envB n v3 (some (bs [true, true, false, false, false])) none none none none) S = .roll n fun i => .ret (.p (.int (2 * (i : Nat)))) S := by
      show ((eC (.int 2) (envB n v3 (some (bs [true, true, false, false, false])) none none none none) S).bind fun x S1 => (eCall m__law_roll (aCons (eVar 0) (aCons (eVar 2) aNil)) (envB n v3 (some (bs [true, true, false, false, false])) none none none none) S1).bind fun y S2 => Cm.of (gMul false x y S2)) = _
      rw [eC_ap, bind_ret, r]
      show (Cm.roll n fun i => Cm.of (gMul false (.p (.int 2)) (.p (.int (i : Nat))) S)) = _
      simp only [mul_2, of_some]
    show ((tT (eCall m__law_roll (aCons (eVar 0) (aCons (eVar 2) aNil))) (envB n v3 (some (bs [true, true, false, false, false])) none none none none) S).bind fun x S1 => _) = _
    rw [t]
    rfl
  rw [sSeq_ap, sSet_ap, e7]
  refine Tells.roll fun i hi => ?_
  show Tells (q7 [some .cup, some (lp (big n)), some (.p (.int n)), v3, some (.p (.int (late n))), some (lp (bads n)), some (bs [true, true, false, false, false]), some (.p (.int (2 * (i : Nat) + 1))), none, none, none] S) _ _
  have : (2 * ((i : Nat) : Int) + 1) = ((2 * i + 1 : Nat) : Int) := by omega
  rw [this]
  have q := q7_at hn hi v3 S
  rw [q]
  exact Tells.ret _ _
theorem seq_roll {n : Nat} {f g : XS} {as : RA.Env} {S : Store} {A : Nat → RA.Env} (h : f as S = .roll n fun i => .ret (.nx (A i)) S) : sSeq f g as S = .roll n fun i => g (A i) S := by
  rw [sSeq_ap, h]
  rfl
theorem r60 (S : Store) : eCall m__law_roll (aCons (eVar 0) (aCons (iC 60) aNil)) [some .cup, none, none, none, none, none, none, none, none, none, none] S = .roll 60 fun i => .ret (.p (.int (i : Nat))) S := by
  have r0 := roll_at (n := 60) (by omega) S (by omega)
  simp only [eCall_ap, aCons_ap, eVar_ap, eC_ap, aNil_ap, bind_ret, List.getElem?_cons_zero]
  exact r0
theorem e2_roll {f g : XE} {as : RA.Env} {S : Store} {n : Nat} {o : Op2} {x : AV} {y z : Nat → AV} (hf : f as S = .ret x S) (hg : g as S = .roll n fun i => .ret (y i) S) (h : ∀ i, o x (y i) S = some (z i, S)) : e2 o f g as S = .roll n fun i => .ret (z i) S := by
  rw [e2_ap, hf, bind_ret, hg]
  show (Cm.roll n fun i => Cm.of (o x (y i) S)) = _
  simp only [h, of_some]
theorem aCons_roll {f : XE} {as : RA.Env} {S : Store} {n : Nat} {y : Nat → AV} (hf : f as S = .roll n fun i => .ret (y i) S) : aCons f aNil as S = .roll n fun i => .ret [y i] S := by
  rw [aCons_ap, hf]
  rfl
theorem aCons_ret {f : XE} {g : XA} {as : RA.Env} {S : Store} {n : Nat} {x : AV} {y : Nat → List AV} (hf : f as S = .ret x S) (hg : g as S = .roll n fun i => .ret (y i) S) : aCons f g as S = .roll n fun i => .ret (x :: y i) S := by
  rw [aCons_ap, hf, bind_ret, hg]
  rfl
theorem asg_roll {f : XE} {h : XG} {as : RA.Env} {S : Store} {n : Nat} {y : Nat → AV} {A : Nat → RA.Env} (hf : f as S = .roll n fun i => .ret (y i) S) (hh : ∀ i, h (y i) as S = .ret (A i) S) : sAsg f h as S = .roll n fun i => .ret (.nx (A i)) S := by
  rw [sAsg_ap, hf]
  show (Cm.roll n fun i => (h (y i) as S).bind fun as' S2 => Cm.ret (Fl.nx as') S2) = _
  simp only [hh, bind_ret]
theorem tup_roll {g : XA} {as : RA.Env} {S : Store} {n : Nat} {y : Nat → List AV} {z : Nat → AV} (hg : g as S = .roll n fun i => .ret (y i) S) (h : ∀ i, okLen (y i).length = true) (hz : ∀ i, mkTup (y i) = z i) : eTup g as S = .roll n fun i => .ret (z i) S := by
  rw [eTup_ap, hg]
  show (Cm.roll n fun i => match okLen (y i).length with
    | true => Cm.ret (mkTup (y i)) S
    | false => Cm.stuck) = _
  simp only [h, hz]
theorem s1_at (S : Store) : s1 [some .cup, none, none, none, none, none, none, none, none, none, none] S = .roll 60 fun i => .ret (.nx [some .cup, some (lp []), some (.p (.int (20 + (i : Nat)))), none, none, none, none, none, none, none, none]) S := by
  have t : e2 aP (iC 20) (eCall m__law_roll (aCons (eVar 0) (aCons (iC 60) aNil))) [some .cup, none, none, none, none, none, none, none, none, none, none] S = .roll 60 fun i => .ret (.p (.int (20 + (i : Nat)))) S := e2_roll rfl (r60 S) fun i => rfl
  exact asg_roll (tup_roll (z := fun i => .p (.tuple [.list [], .int (20 + (i : Nat))])) (aCons_ret rfl (aCons_roll t)) (fun i => rfl) (fun i => rfl)) fun i => rfl
theorem okRg_at {n : Nat} (h : n ≤ 100) : okRg (n : Int) = true := by
  unfold okRg inI
  rw [decide_eq_true (show (-4611686018427387904 : Int) < n by omega)]
  exact decide_eq_true (show (n : Int) < 4611686018427387904 by omega)
theorem iRg1_of {f : XE} {as : RA.Env} {S : Store} {i : Int} (hf : f as S = .ret (.p (.int i)) S) (h : okRg i = true) : iRg1 (aCons f aNil) as S = .ret (.fz (rgA 0 i.toNat)) S := by
  simp only [iRg1_ap, aCons_ap, hf, bind_ret, aNil_ap, h]
theorem rg_at {n : Nat} (h : n ≤ 100) {f : XE} {as : RA.Env} {S : Store} (hf : f as S = .ret (.p (.int n)) S) : iRg1 (aCons f aNil) as S = .ret (.fz (rgA 0 n)) S := (iRg1_of hf (okRg_at h)).trans (by rw [Int.toNat_natCast])
theorem seq_for {n : Nat} (h : n ≤ 100) {f : XE} {g : XG} {b k : XS} {as as' : RA.Env} {S : Store} (hf : f as S = .ret (.p (.int n)) S) (hl : forL g b (rgA 0 n) as S = .ret (.nx as') S) : sSeq (sFor (iRg1 (aCons f aNil)) g b) k as S = k as' S := by
  rw [sSeq_ap, sFor_ap, rg_at h hf, bind_ret]
  show (forL g b (rgA 0 n) as S).bind _ = _
  rw [hl, bind_ret]
theorem long_all (S : Store) : Tells (m__law_long_right [.cup] S) (.p (.bool true)) S := by
  show Tells ((d__law_long_right [some .cup, none, none, none, none, none, none, none, none, none, none] S).bind endK) _ _
  refine Tells.bind (v := Fl.rt (.p (.bool true))) (S := S) ?_ (Tells.ret (AV.p (.bool true)) S)
  rw [lr_def, seq_roll (s1_at S)]
  refine Tells.roll fun i hi => ?_
  have e : (20 + ((i : Nat) : Int)) = ((20 + i : Nat) : Int) := by omega
  rw [e]
  generalize hm : 20 + i = n
  have hn : n ≤ 100 := by omega
  obtain ⟨v3, e3⟩ := loop_at n none none none none none none S n 0 (by omega) none
  rw [Nat.zero_add] at e3
  rw [show ((0 : Nat) : Int) = 0 from rfl] at e3
  rw [seq_for hn (as := envR n (some (lp [])) none none none none none none none) rfl e3]
  exact q3_all hn (by omega) v3 S
end G

namespace G
open PySem PySem.Spec L2 RA
/-- at every draw it ends so, and nothing is raised -/
structure AllS {α : Type} (m : Cm α) (P : α → Store → Prop) : Prop where
  run : m.All P (fun _ _ => False)
theorem AllS.ret {α : Type} {P : α → Store → Prop} {v : α} {S : Store} (h : P v S) : AllS (.ret v S) P := ⟨h⟩
theorem AllS.roll {α : Type} {P : α → Store → Prop} {n : Nat} {f : Nat → Cm α} (h : ∀ i, i < n → AllS (f i) P) : AllS (.roll n f) P := ⟨fun i hi => (h i hi).run⟩
theorem AllS.mono {α : Type} {P Q : α → Store → Prop} {m : Cm α} (h : AllS m P) (hp : ∀ v S, P v S → Q v S) : AllS m Q := ⟨Cm.All.mono hp (fun _ _ e => e) h.run⟩
theorem AllS.bind {α β : Type} {m : Cm α} {k : α → Store → Cm β} {P : α → Store → Prop} {Q : β → Store → Prop} (h : AllS m P) (h2 : ∀ v S, P v S → AllS (k v S) Q) : AllS (m.bind k) Q :=
  ⟨Cm.All.of_bind (Cm.All.mono (fun v S e => (h2 v S e).run) (fun _ _ e => e) h.run)⟩
theorem Tells.all {α : Type} {m : Cm α} {v : α} {S : Store} (h : Tells m v S) : AllS m fun r S' => r = v ∧ S' = S := ⟨h.run⟩
theorem AllS.seq {f g : XS} {as : RA.Env} {S : Store} {P : RA.Env → Store → Prop} {Q : Fl → Store → Prop} (h : AllS (f as S) fun r S' => ∃ as', r = .nx as' ∧ P as' S') (h2 : ∀ as' S', P as' S' → AllS (g as' S') Q) : AllS (sSeq f g as S) Q := by
  rw [sSeq_ap]
  refine h.bind fun r S' ⟨as', e, hp⟩ => ?_
  subst e
  exact h2 as' S' hp
/-! the pieces -/
abbrev xR (i : Int) : XE := eCall m__law_roll (aCons (eVar 1) (aCons (iC i) aNil))
abbrev xK : XE := eTup (aCons (eVar 6) (aCons (eVar 7) aNil))
def p67 : XS := sPar 6 7 (aCons (xR 2) (aCons (xR 2) aNil))
def s8 : XS := sSet 8 (e2 (gEq false) (xR 8) (iC 0))
def x10d : XE := eIf (tAndX (toT (eVar 8)) (toT (e2 (gEq false) (xR 2) (iC 0)))) (eTup (aCons (xR 3) aNil)) (eTup aNil)
def aD : XS := sExpr (eBM "list" gApp (eVar 3) (aCons (eTup (aCons (eVar 5) (aCons (eC (.str wDrop)) (aCons (eTup (aCons (eVar 6) (aCons (eVar 7) (aCons (e2 (gAdd false) (eVar 9) (eIf (tAndX (toT (eVar 8)) (toT (e2 (gEq false) (eVar 10) (eTup aNil)))) (iC 1) (iC 0))) (aCons (eVar 10) aNil))))) aNil)))) aNil))
def sA : XS := sSeq (sSet 9 (eBM "dict" gDPop (eVar 4) (aCons xK aNil))) (sSeq (sSet 10 x10d) aD)
def pB : XS := sAsg (e2 (gAdd false) (iC 1) (xR 4)) (gPutX (eVar 4) xK)
def aB : XS := sExpr (eBM "list" gApp (eVar 3) (aCons (eTup (aCons (eVar 5) (aCons (eC (.str wCom)) (aCons (eTup (aCons (eVar 6) (aCons (eVar 7) (aCons (e2 gIx (eVar 4) xK) (aCons (eTup (aCons (eTup (aCons (eVar 7) (aCons (iC 0) aNil))) aNil)) aNil))))) aNil)))) aNil))
def sC : XS := sExpr (eBM "list" gApp (eVar 3) (aCons (eTup (aCons (eVar 5) (aCons (eC (.str wDone)) (aCons (eVar 6) aNil)))) aNil))
def bC : XS := sIf (tOrX (toT (e2 (gIn true) xK (eVar 4))) (toT (eVar 8))) (sSeq pB aB) sC
def cD : XS := sIf (tAndX (toT (e2 (gIn false) xK (eVar 4))) (toT (e2 gGt (xR 3) (iC 0)))) sA bC
def bD : XS := sSeq p67 (sSeq s8 cD)
def cO : XS := sIf (tNotX (toT (eCall m__law_like (aCons (eCall m_is_kept (aCons (eN gTuple (aCons (eVar 3) aNil)) aNil)) (aCons (eCall m__law_kept (aCons (eVar 3) aNil)) aNil))))) (sRet (eC (.bool false))) sNext
def bO : XS := sSeq (sPar 3 4 (aCons (eLst true aNil) (aCons eDt aNil))) (sSeq (sFor (iRg1 (aCons (xR 11) aNil)) (gNm 5) bD) cO)
def sL : XS := sIf (tNotX (toT (eCall m__law_long_right (aCons (eVar 1) aNil)))) (sRet (eC (.bool false))) sNext
def sE : XS := sRet (e2 (gIsB false) (eCall m_is_kept (aCons (eTup aNil) aNil)) (eC (.bool true)))
theorem law_def : d_law = sSeq sL (sSeq (sFor (iRg1 (aCons (iC 6) aNil)) (gNm 2) bO) sE) := rfl
/-! what a turn of draws keeps -/
abbrev En (t : Option AV) (h1 h2 : Nat) (a5 a6 a7 a8 a9 a10 : Option AV) : RA.Env := [none, some .cup, t, some (.h h1), some (.h h2), a5, a6, a7, a8, a9, a10]
structure J (S : Store) (h1 h2 : Nat) (rs : List Rw) (kvs : KV) : Prop where
  a : S[h1]? = some (.lst (rs.map fun x => AV.p x.d))
  b : S[h2]? = some (.dt kvs)
  ne : h1 ≠ h2
  i : Ints kvs
  g : ∀ x ∈ rs, x.gd
/-- with bounds -/
def Jk (h1 h2 k : Nat) (S : Store) : Prop := ∃ rs kvs, J S h1 h2 rs kvs ∧ rs.length ≤ k ∧ kvs.length ≤ k
theorem getl {S : Store} {h : Nat} {m : MO} (e : S[h]? = some m) : h < S.length := by
  rcases Nat.lt_or_ge h S.length with h1 | h1
  · exact h1
  · rw [List.getElem?_eq_none h1] at e; cases e
theorem J.app {S : Store} {h1 h2 : Nat} {rs : List Rw} {kvs : KV} (j : J S h1 h2 rs kvs) {x : Rw} (hx : x.gd) : J (S.set h1 (.lst ((rs.map fun x => AV.p x.d) ++ [.p x.d]))) h1 h2 (rs ++ [x]) kvs where
  a := by rw [List.getElem?_set_self (getl j.a), List.map_append]; rfl
  b := by rw [List.getElem?_set_ne j.ne]; exact j.b
  ne := j.ne
  i := j.i
  g := by
    intro y hy
    rcases List.mem_append.mp hy with h | h
    · exact j.g y h
    · rw [List.mem_singleton.mp h]; exact hx
theorem J.set {S : Store} {h1 h2 : Nat} {rs : List Rw} {kvs kvs' : KV} (j : J S h1 h2 rs kvs) (hx : Ints kvs') : J (S.set h2 (.dt kvs')) h1 h2 rs kvs' where
  a := by rw [List.getElem?_set_ne (Ne.symm j.ne)]; exact j.a
  b := by rw [List.getElem?_set_self (getl j.b)]
  ne := j.ne
  i := hx
  g := j.g
theorem roll_i {n : Nat} {i : Int} (hi : i = (n : Int)) (h : n < 1000000) (h0 : 0 < n) (r : RA.Env) (S : Store) : xR i (none :: some .cup :: r) S = .roll n fun i => .ret (.p (.int (i : Nat))) S := by
  subst hi
  have r0 := roll_at h S h0
  simp only [eCall_ap, aCons_ap, eVar_ap, eC_ap, aNil_ap, bind_ret, List.getElem?_cons_zero, List.getElem?_cons_succ]
  exact r0
theorem xR_all {n : Nat} {i : Int} (hi : i = (n : Int)) (h : n < 1000000) (h0 : 0 < n) (r : RA.Env) (S : Store) : AllS (xR i (none :: some .cup :: r) S) fun v S' => (∃ k : Nat, k < n ∧ v = .p (.int k)) ∧ S' = S := by
  rw [roll_i hi h h0]
  exact AllS.roll fun k hk => AllS.ret ⟨⟨k, hk, rfl⟩, rfl⟩
end G

namespace G
open PySem PySem.Spec L2 RA
theorem xr2 (r : RA.Env) (S : Store) : xR 2 (none :: some .cup :: r) S = .roll 2 fun i => .ret (.p (.int (i : Nat))) S := roll_i (n := 2) rfl (by omega) (by omega) r S
theorem xr3 (r : RA.Env) (S : Store) : xR 3 (none :: some .cup :: r) S = .roll 3 fun i => .ret (.p (.int (i : Nat))) S := roll_i (n := 3) rfl (by omega) (by omega) r S
theorem xr4 (r : RA.Env) (S : Store) : xR 4 (none :: some .cup :: r) S = .roll 4 fun i => .ret (.p (.int (i : Nat))) S := roll_i (n := 4) rfl (by omega) (by omega) r S
theorem xr8 (r : RA.Env) (S : Store) : xR 8 (none :: some .cup :: r) S = .roll 8 fun i => .ret (.p (.int (i : Nat))) S := roll_i (n := 8) rfl (by omega) (by omega) r S
theorem xr11 (r : RA.Env) (S : Store) : xR 11 (none :: some .cup :: r) S = .roll 11 fun i => .ret (.p (.int (i : Nat))) S := roll_i (n := 11) rfl (by omega) (by omega) r S
theorem iC_ap (i : Int) (as : RA.Env) (S : Store) : iC i as S = .ret (.p (.int i)) S := rfl
theorem eq0_all {n : Nat} {i : Int} (hi : i = (n : Int)) (h : n < 1000000) (h0 : 0 < n) (r : RA.Env) (S : Store) : AllS (toT (e2 (gEq false) (xR i) (iC 0)) (none :: some .cup :: r) S) fun _ S' => S' = S := by
  rw [toT_ap, e2_ap, roll_i hi h h0]
  refine AllS.roll fun k hk => ?_
  show AllS (.ret (decide ((k : Int) = 0)) S) _
  exact AllS.ret rfl
theorem gt0_all {n : Nat} {i : Int} (hi : i = (n : Int)) (h : n < 1000000) (h0 : 0 < n) (r : RA.Env) (S : Store) : AllS (toT (e2 gGt (xR i) (iC 0)) (none :: some .cup :: r) S) fun _ S' => S' = S := by
  rw [toT_ap, e2_ap, roll_i hi h h0]
  refine AllS.roll fun k hk => ?_
  show AllS (.ret (decide ((k : Int) > 0)) S) _
  exact AllS.ret rfl
section
variable {t : Option AV} {h1 h2 : Nat} {S : Store} (a5 a6 a7 a8 a9 a10 : Option AV)
theorem p67_all : AllS (p67 (En t h1 h2 a5 a6 a7 a8 a9 a10) S) fun r S' => ∃ as', r = .nx as' ∧ S' = S ∧ ∃ i j : Int, as' = En t h1 h2 a5 (some (.p (.int i))) (some (.p (.int j))) a8 a9 a10 := by
  unfold p67
  rw [sPar_ap, aCons_ap, xr2]
  refine AllS.roll fun i hi => ?_
  show AllS (((aCons (xR 2) aNil (En t h1 h2 a5 a6 a7 a8 a9 a10) S).bind _).bind _) _
  rw [aCons_ap, xr2]
  refine AllS.roll fun j hj => ?_
  exact AllS.ret ⟨_, rfl, rfl, i, j, rfl⟩
theorem s8_all : AllS (s8 (En t h1 h2 a5 a6 a7 a8 a9 a10) S) fun r S' => ∃ as', r = .nx as' ∧ S' = S ∧ ∃ b : Bool, as' = En t h1 h2 a5 a6 a7 (some (.p (.bool b))) a9 a10 := by
  unfold s8
  rw [sSet_ap, e2_ap, xr8]
  refine AllS.roll fun i hi => ?_
  exact AllS.ret ⟨_, rfl, rfl, _, rfl⟩
theorem x10d_all (ob : Bool) : AllS (x10d (En t h1 h2 a5 a6 a7 (some (.p (.bool ob))) a9 a10) S) fun v S' => S' = S ∧ ∃ nd : List PyData, v = .p (.tuple nd) ∧ (nd = [] ∨ ∃ n, nd = [.int n]) := by
  unfold x10d
  rw [eIf_ap]
  refine AllS.bind (P := fun _ S' => S' = S) ?_ fun b S' e => ?_
  · rw [tAndX_ap]
    cases ob with
    | false => exact AllS.ret rfl
    | true => exact eq0_all (n := 2) (i := 2) rfl (by omega) (by omega) _ S
  · subst e
    cases b with
    | false => exact AllS.ret ⟨rfl, [], rfl, .inl rfl⟩
    | true =>
      show AllS (eTup (aCons (xR 3) aNil) (En t h1 h2 a5 a6 a7 (some (.p (.bool ob))) a9 a10) S') _
      rw [eTup_ap, aCons_ap, xr3]
      refine AllS.roll fun k hk => ?_
      exact AllS.ret ⟨rfl, [.int k], rfl, .inr ⟨_, rfl⟩⟩
end
section
variable {t : Option AV} {h1 h2 : Nat} {S : Store} {rs : List Rw} {kvs : KV} (jj : J S h1 h2 rs kvs) {k : Nat} (hr : rs.length ≤ k) (hkv : kvs.length ≤ k) (hk : k ≤ 100) {m i j : Int}
/-- as a turn ends -/
abbrev Nd (t : Option AV) (h1 h2 k : Nat) (r : Fl) (S' : Store) : Prop := ∃ as', r = .nx as' ∧ (∃ a5 a6 a7 a8 a9 a10, as' = En t h1 h2 a5 a6 a7 a8 a9 a10) ∧ Jk h1 h2 (k + 1) S'
include jj
theorem app_at (hr : rs.length ≤ k) (hkv : kvs.length ≤ k + 1) (hk : k ≤ 100) {f : XE} {as : RA.Env} {x : Rw} (he : eVar 3 as S = .ret (.h h1) S) (hf : f as S = .ret (.p x.d) S) (hx : x.gd) : ∃ S', sExpr (eBM "list" gApp (eVar 3) (aCons f aNil)) as S = .ret (.nx as) S' ∧ Jk h1 h2 (k + 1) S' := by
  refine ⟨S.set h1 (.lst ((rs.map fun x => AV.p x.d) ++ [.p x.d])), ?_, rs ++ [x], kvs, jj.app hx, by rw [List.length_append]; exact Nat.succ_le_succ hr, hkv⟩
  have ol : okLen (rs.length + 1) = true := okL_of (by omega)
  rw [sExpr_ap, eBM_ap, he, bind_ret]
  simp [tyA, jj.a, hf, gApp, chg, ol]
include hr hkv hk
theorem sC_all (a7 a8 a9 a10 : Option AV) : AllS (sC (En t h1 h2 (some (.p (.int m))) (some (.p (.int i))) a7 a8 a9 a10) S) (Nd t h1 h2 k) := by
  obtain ⟨S', e, q⟩ := app_at jj hr (Nat.le_succ_of_le hkv) hk (f := eTup (aCons (eVar 5) (aCons (eC (.str wDone)) (aCons (eVar 6) aNil)))) (as := En t h1 h2 (some (.p (.int m))) (some (.p (.int i))) a7 a8 a9 a10) (x := .done m i) rfl rfl trivial
  show AllS (sExpr _ _ S) _
  rw [e]
  exact AllS.ret ⟨_, rfl, ⟨_, _, _, _, _, _, rfl⟩, q⟩
theorem sB_all (a8 a9 a10 : Option AV) : AllS ((sSeq pB aB) (En t h1 h2 (some (.p (.int m))) (some (.p (.int i))) (some (.p (.int j))) a8 a9 a10) S) (Nd t h1 h2 k) := by
  have ol : okLen (kvs.length + 1) = true := okL_of (by omega)
  have pl := put_len kvs
  refine AllS.seq (P := fun as' S' => as' = En t h1 h2 (some (.p (.int m))) (some (.p (.int i))) (some (.p (.int j))) a8 a9 a10 ∧ ∃ a : Int, S' = S.set h2 (.dt (putA keysB kvs [.inl i, .inl j] (.p (.int a))))) ?_ fun as' S' h => ?_
  · unfold pB
    rw [sAsg_ap, e2_ap, iC_ap, bind_ret, xr4]
    refine AllS.roll fun c hc => ?_
    show AllS ((gPutX (eVar 4) xK (.p (.int (1 + (c : Int)))) (En t h1 h2 (some (.p (.int m))) (some (.p (.int i))) (some (.p (.int j))) a8 a9 a10) S).bind _) _
    have e : gPut (.h h2) (.p (.tuple [.int i, .int j])) (.p (.int (1 + (c : Int)))) S = some (S.set h2 (.dt (putA keysB kvs [.inl i, .inl j] (.p (.int (1 + (c : Int))))))) := by
      simp [gPut, chg, jj.b, putM, keyT, keysD, ol]
    simp only [gPutX_ap, eVar_ap, List.getElem?_cons_zero, List.getElem?_cons_succ, bind_ret, eTup_ap, aCons_ap, aNil_ap, mkTup, pures, List.length_cons, List.length_nil, Nat.zero_add, Nat.reduceAdd, okL2, e]
    exact AllS.ret ⟨_, rfl, rfl, _, rfl⟩
  · obtain ⟨rfl, a, rfl⟩ := h
    have j2 := jj.set (jj.i.put [.inl i, .inl j] a)
    have e : gIx (.h h2) (.p (.tuple [.int i, .int j])) (S.set h2 (.dt (putA keysB kvs [.inl i, .inl j] (.p (.int a))))) = some (.p (.int a), S.set h2 (.dt (putA keysB kvs [.inl i, .inl j] (.p (.int a))))) := by
      simp [gIx, dGet, j2.b, keyT, keysD, look_put_same keysB_eq]
    have hf : eTup (aCons (eVar 5) (aCons (eC (.str wCom)) (aCons (eTup (aCons (eVar 6) (aCons (eVar 7) (aCons (e2 gIx (eVar 4) xK) (aCons (eTup (aCons (eTup (aCons (eVar 7) (aCons (iC 0) aNil))) aNil)) aNil))))) aNil))) (En t h1 h2 (some (.p (.int m))) (some (.p (.int i))) (some (.p (.int j))) a8 a9 a10) (S.set h2 (.dt (putA keysB kvs [.inl i, .inl j] (.p (.int a))))) = .ret (.p (Rw.com m i j a [.tuple [.int j, .int 0]]).d) (S.set h2 (.dt (putA keysB kvs [.inl i, .inl j] (.p (.int a))))) := by
      simp [e, mkTup, pures, Rw.d]
    obtain ⟨S', e2, q⟩ := app_at j2 hr (by have := pl [.inl i, .inl j] (.p (.int a)); omega) hk (x := .com m i j a [.tuple [.int j, .int 0]]) rfl hf ⟨_, _, rfl⟩
    unfold aB
    rw [e2]
    exact AllS.ret ⟨_, rfl, ⟨_, _, _, _, _, _, rfl⟩, q⟩
theorem bC_all (ob : Bool) (a9 a10 : Option AV) : AllS (bC (En t h1 h2 (some (.p (.int m))) (some (.p (.int i))) (some (.p (.int j))) (some (.p (.bool ob))) a9 a10) S) (Nd t h1 h2 k) := by
  have hB := sB_all jj hr hkv hk (t := t) (m := m) (i := i) (j := j) (some (.p (.bool ob))) a9 a10
  have hC := sC_all jj hr hkv hk (t := t) (m := m) (i := i) (some (.p (.int j))) (some (.p (.bool ob))) a9 a10
  unfold bC
  rw [sIf_ap]
  refine AllS.bind (P := fun _ S' => S' = S) ?_ fun b S' e => ?_
  · cases q : lookA keysB [.inl i, .inl j] kvs with
    | none =>
      have e : (tOrX (toT (e2 (gIn true) xK (eVar 4))) (toT (eVar 8))) (En t h1 h2 (some (.p (.int m))) (some (.p (.int i))) (some (.p (.int j))) (some (.p (.bool ob))) a9 a10) S = .ret true S := by
        simp [gIn, inA, dGet, jj.b, keyT, keysD, mkTup, pures, q]
      rw [e]
      exact AllS.ret rfl
    | some v =>
      have e : (tOrX (toT (e2 (gIn true) xK (eVar 4))) (toT (eVar 8))) (En t h1 h2 (some (.p (.int m))) (some (.p (.int i))) (some (.p (.int j))) (some (.p (.bool ob))) a9 a10) S = .ret ob S := by
        simp [gIn, inA, dGet, jj.b, keyT, keysD, mkTup, pures, q]
      rw [e]
      exact AllS.ret rfl
  · subst e
    cases b with
    | true => exact hB
    | false => exact hC
theorem sA_all (b : Int) (q : lookA keysB [.inl i, .inl j] kvs = some (.p (.int b))) (ob : Bool) (a9 a10 : Option AV) : AllS (sA (En t h1 h2 (some (.p (.int m))) (some (.p (.int i))) (some (.p (.int j))) (some (.p (.bool ob))) a9 a10) S) (Nd t h1 h2 k) := by
  have e : gDPop (.h h2) [.p (.tuple [.int i, .int j])] S = some (.p (.int b), S.set h2 (.dt (dropA keysB kvs [.inl i, .inl j]))) := by
    simp [gDPop, jj.b, keyT, keysD, q]
  have e8 : eBM "dict" gDPop (eVar 4) (aCons xK aNil) (En t h1 h2 (some (.p (.int m))) (some (.p (.int i))) (some (.p (.int j))) (some (.p (.bool ob))) a9 a10) S = .ret (.p (.int b)) (S.set h2 (.dt (dropA keysB kvs [.inl i, .inl j]))) := by
    simp [tyA, jj.b, mkTup, pures, e]
  have j2 := jj.set (jj.i.drop [.inl i, .inl j])
  have dl := drop_len kvs [.inl i, .inl j]
  unfold sA
  rw [sSeq_ap, sSet_ap, e8, bind_ret, bind_ret]
  show AllS (sSeq (sSet 10 x10d) aD (En t h1 h2 (some (.p (.int m))) (some (.p (.int i))) (some (.p (.int j))) (some (.p (.bool ob))) (some (.p (.int b))) a10) (S.set h2 (.dt (dropA keysB kvs [.inl i, .inl j])))) _
  revert j2
  generalize S.set h2 (.dt (dropA keysB kvs [.inl i, .inl j])) = S1
  intro j2
  refine AllS.seq (P := fun as' S' => S' = S1 ∧ ∃ nd, as' = En t h1 h2 (some (.p (.int m))) (some (.p (.int i))) (some (.p (.int j))) (some (.p (.bool ob))) (some (.p (.int b))) (some (.p (.tuple nd))) ∧ (nd = [] ∨ ∃ n, nd = [.int n])) ?_ fun as' S' h => ?_
  · rw [sSet_ap]
    refine (x10d_all _ _ _ _ _ ob).bind fun v S' h => ?_
    obtain ⟨rfl, nd, rfl, h⟩ := h
    exact AllS.ret ⟨_, rfl, rfl, nd, rfl, h⟩
  · obtain ⟨rfl, nd, rfl, hn⟩ := h
    have hf : ∃ c : Int, eTup (aCons (eVar 5) (aCons (eC (.str wDrop)) (aCons (eTup (aCons (eVar 6) (aCons (eVar 7) (aCons (e2 (gAdd false) (eVar 9) (eIf (tAndX (toT (eVar 8)) (toT (e2 (gEq false) (eVar 10) (eTup aNil)))) (iC 1) (iC 0))) (aCons (eVar 10) aNil))))) aNil))) (En t h1 h2 (some (.p (.int m))) (some (.p (.int i))) (some (.p (.int j))) (some (.p (.bool ob))) (some (.p (.int b))) (some (.p (.tuple nd)))) S' = .ret (.p (Rw.drp m i j c nd).d) S' := by
      rcases hn with rfl | ⟨n, rfl⟩
      · cases ob
        · exact ⟨b + 0, by simp [mkTup, pures, Rw.d, add_ii]⟩
        · exact ⟨b + 1, by simp [mkTup, pures, Rw.d, add_ii, gEq, pureOf, eq_ne]⟩
      · cases ob
        · exact ⟨b + 0, by simp [mkTup, pures, Rw.d, add_ii]⟩
        · exact ⟨b + 0, by simp [mkTup, pures, Rw.d, add_ii, gEq, pureOf, eq_n1]⟩
    obtain ⟨c, hf⟩ := hf
    obtain ⟨S2, e9, q⟩ := app_at j2 hr (by omega) hk (x := .drp m i j c nd) rfl hf hn
    unfold aD
    rw [e9]
    exact AllS.ret ⟨_, rfl, ⟨_, _, _, _, _, _, rfl⟩, q⟩
theorem cD_all (ob : Bool) (a9 a10 : Option AV) : AllS (cD (En t h1 h2 (some (.p (.int m))) (some (.p (.int i))) (some (.p (.int j))) (some (.p (.bool ob))) a9 a10) S) (Nd t h1 h2 k) := by
  have hC := bC_all jj hr hkv hk (t := t) (m := m) (i := i) (j := j) ob a9 a10
  unfold cD
  rw [sIf_ap]
  cases q : lookA keysB [.inl i, .inl j] kvs with
  | none =>
    have e : (tAndX (toT (e2 (gIn false) xK (eVar 4))) (toT (e2 gGt (xR 3) (iC 0)))) (En t h1 h2 (some (.p (.int m))) (some (.p (.int i))) (some (.p (.int j))) (some (.p (.bool ob))) a9 a10) S = .ret false S := by
      simp [gIn, inA, dGet, jj.b, keyT, keysD, mkTup, pures, q]
    rw [e, bind_ret]
    exact hC
  | some v =>
    obtain ⟨b, rfl⟩ := jj.i.look q
    have hA := sA_all jj hr hkv hk (t := t) (m := m) b q ob a9 a10
    have e : (toT (e2 (gIn false) xK (eVar 4))) (En t h1 h2 (some (.p (.int m))) (some (.p (.int i))) (some (.p (.int j))) (some (.p (.bool ob))) a9 a10) S = .ret true S := by
      simp [gIn, inA, dGet, jj.b, keyT, keysD, mkTup, pures, q]
    rw [tAndX_ap, e, bind_ret]
    refine (gt0_all (n := 3) (i := 3) rfl (by omega) (by omega) _ S).bind fun c S' h => ?_
    subst h
    cases c with
    | true => exact hA
    | false => exact hC
theorem bD_all (a6 a7 a8 a9 a10 : Option AV) : AllS (bD (En t h1 h2 (some (.p (.int m))) a6 a7 a8 a9 a10) S) (Nd t h1 h2 k) := by
  unfold bD
  refine AllS.seq (p67_all _ _ _ _ _ _) fun as' S' h => ?_
  obtain ⟨rfl, i, j, rfl⟩ := h
  refine AllS.seq (s8_all _ _ _ _ _ _) fun as' S' h => ?_
  obtain ⟨rfl, b, rfl⟩ := h
  exact cD_all jj hr hkv hk b a9 a10
end
end G

namespace G
open PySem PySem.Spec L2 RA
theorem like_b (a : Bool) (S : Store) : m__law_like [.p (.bool a), .p (.bool a)] S = .ret (.p (.bool true)) S := by cases a <;> kernel_rfl
def rgF (j : Int) (S : Store) : Cm ItV := match okRg j with
  | true => .ret (.fz (rgA 0 j.toNat)) S
  | false => .stuck
theorem rgF_of {j : Int} (h : okRg j = true) (S : Store) : rgF j S = .ret (.fz (rgA 0 j.toNat)) S := by
  unfold rgF
  rw [h]
theorem rgF_at {i : Nat} (h : i ≤ 100) (S : Store) : rgF (i : Int) S = .ret (.fz (rgA 0 i)) S := (rgF_of (okRg_at h) S).trans (by rw [Int.toNat_natCast])
theorem roll_bind {α β : Type} {n : Nat} {f : Nat → Cm α} {k : α → Store → Cm β} : (Cm.roll n f).bind k = .roll n fun i => (f i).bind k := rfl
theorem AllS.rollb {α β : Type} {P : β → Store → Prop} {n : Nat} {f : Nat → Cm α} {k : α → Store → Cm β} (h : ∀ i, i < n → AllS ((f i).bind k) P) : AllS ((Cm.roll n f).bind k) P := AllS.roll h
theorem ok6 : okRg 6 = true := by kernel_rfl
theorem iRg1_rolls {n : Nat} {g : Nat → Int} {f : XE} {as : RA.Env} {S : Store} (h : f as S = .roll n fun i => .ret (.p (.int (g i))) S) : iRg1 (aCons f aNil) as S = .roll n fun i => rgF (g i) S := by
  simp only [iRg1_ap, aCons_ap, h, roll_bind, bind_ret, aNil_ap]
  exact congrArg (Cm.roll n) (funext fun i => by unfold rgF; cases okRg (g i) <;> rfl)
section
variable (t : Option AV) (h1 h2 : Nat)
theorem in_all : ∀ (n k : Nat) (lo : Int) (S : Store) (a5 a6 a7 a8 a9 a10 : Option AV), Jk h1 h2 k S → k + n ≤ 100 → AllS (forL (gNm 5) bD (rgA lo n) (En t h1 h2 a5 a6 a7 a8 a9 a10) S) fun r S' => ∃ as', r = .nx as' ∧ (∃ a5 a6 a7 a8 a9 a10, as' = En t h1 h2 a5 a6 a7 a8 a9 a10) ∧ Jk h1 h2 (k + n) S'
  | 0, k, lo, S, a5, a6, a7, a8, a9, a10, hj, hk => AllS.ret ⟨_, rfl, ⟨_, _, _, _, _, _, rfl⟩, hj⟩
  | n + 1, k, lo, S, a5, a6, a7, a8, a9, a10, hj, hk => by
    obtain ⟨rs, kvs, jj, hr, hkv⟩ := hj
    show AllS (forL (gNm 5) bD (.p (.int lo) :: rgA (lo + 1) n) _ S) _
    rw [forL_cons]
    have e : (gNm 5 (.p (.int lo)) (En t h1 h2 a5 a6 a7 a8 a9 a10) S).bind bD = bD (En t h1 h2 (some (.p (.int lo))) a6 a7 a8 a9 a10) S := by rw [gNm_ap, bind_ret]; rfl
    rw [e]
    refine (bD_all jj hr hkv (by omega) a6 a7 a8 a9 a10).bind fun r S' h => ?_
    obtain ⟨as', rfl, ⟨b5, b6, b7, b8, b9, b10, rfl⟩, hj'⟩ := h
    rw [turn_nx]
    refine (in_all n (k + 1) (lo + 1) S' b5 b6 b7 b8 b9 b10 hj' (by omega)).mono fun r S2 h => ?_
    rw [show k + (n + 1) = k + 1 + n from by omega]
    exact h
theorem cO_at {S : Store} {k : Nat} (hj : Jk h1 h2 k S) (hk : k ≤ 100) (a5 a6 a7 a8 a9 a10 : Option AV) : cO (En t h1 h2 a5 a6 a7 a8 a9 a10) S = .ret (.nx (En t h1 h2 a5 a6 a7 a8 a9 a10)) S := by
  obtain ⟨rs, kvs, jj, hr, hkv⟩ := hj
  have e1 : gTuple [.h h1] S = some (.p (.tuple (rs.map Rw.d)), S) := by
    simp only [gTuple, seqOf, tupOf, seqL, jj.a, mkTup, pures_rs]
  have e2 := isk rs (fun x hx => (jj.g x hx).ok) (by omega) S
  have e3 := islk jj.a (by omega) jj.g
  rw [← kp_eq] at e3
  have e4 := like_b (kp rs [] []) S
  unfold cO
  simp only [sIf_ap, tNotX_ap, toT_ap, eCall_ap, aCons_ap, aNil_ap, eN_ap, eVar_ap, List.getElem?_cons_zero, List.getElem?_cons_succ, bind_ret, e1, of_some, e2, e3, e4, Bool.not_true, sNext_ap]
end
abbrev Eo (a2 a3 a4 a5 a6 a7 a8 a9 a10 : Option AV) : RA.Env := [none, some .cup, a2, a3, a4, a5, a6, a7, a8, a9, a10]
def Sh (r : Fl) (_ : Store) : Prop := ∃ as', r = .nx as' ∧ ∃ a2 a3 a4 a5 a6 a7 a8 a9 a10, as' = Eo a2 a3 a4 a5 a6 a7 a8 a9 a10
theorem j0 (S : Store) : Jk S.length (S.length + 1) 0 (S ++ [.lst []] ++ [.dt []]) := by
  refine ⟨[], [], ⟨?_, ?_, by omega, (fun p hp => by cases hp), (fun x hx => by cases hx)⟩, Nat.le_refl _, Nat.le_refl _⟩
  · simp
  · rw [List.getElem?_append_right (by simp)]
    simp
theorem bO_all (a2 a3 a4 a5 a6 a7 a8 a9 a10 : Option AV) (S : Store) : AllS (bO (Eo a2 a3 a4 a5 a6 a7 a8 a9 a10) S) Sh := by
  have e1 : sPar 3 4 (aCons (eLst true aNil) (aCons eDt aNil)) (Eo a2 a3 a4 a5 a6 a7 a8 a9 a10) S = .ret (.nx (En a2 S.length (S.length + 1) a5 a6 a7 a8 a9 a10)) (S ++ [.lst []] ++ [.dt []]) := by
    simp [newL]
  have hj := j0 S
  unfold bO
  rw [sSeq_ap, e1, bind_ret]
  show AllS (sSeq _ cO (En a2 S.length (S.length + 1) a5 a6 a7 a8 a9 a10) (S ++ [.lst []] ++ [.dt []])) _
  revert hj
  generalize S.length = h1
  generalize h1 + 1 = h2
  generalize S ++ [.lst []] ++ [.dt []] = S1
  intro hj
  refine AllS.seq (P := fun as' S' => (∃ a5 a6 a7 a8 a9 a10, as' = En a2 h1 h2 a5 a6 a7 a8 a9 a10) ∧ ∃ k, k ≤ 100 ∧ Jk h1 h2 k S') ?_ fun as' S' h => ?_
  · rw [sFor_ap, iRg1_rolls (xr11 _ _)]
    refine AllS.rollb fun n hn => ?_
    rw [rgF_at (by omega), bind_ret]
    refine (in_all a2 h1 h2 n 0 0 S1 a5 a6 a7 a8 a9 a10 hj (by omega)).mono fun r S2 h => ?_
    obtain ⟨as', rfl, q, j⟩ := h
    exact ⟨_, rfl, q, _, by omega, j⟩
  · obtain ⟨⟨b5, b6, b7, b8, b9, b10, rfl⟩, k, hk, j⟩ := h
    rw [cO_at a2 h1 h2 j hk]
    exact AllS.ret ⟨_, rfl, _, _, _, _, _, _, _, _, _, rfl⟩
theorem out_all : ∀ (xs : List AV) (a2 a3 a4 a5 a6 a7 a8 a9 a10 : Option AV) (S : Store), AllS (forL (gNm 2) bO xs (Eo a2 a3 a4 a5 a6 a7 a8 a9 a10) S) Sh
  | [], a2, a3, a4, a5, a6, a7, a8, a9, a10, S => AllS.ret ⟨_, rfl, _, _, _, _, _, _, _, _, _, rfl⟩
  | z :: zs, a2, a3, a4, a5, a6, a7, a8, a9, a10, S => by
    rw [forL_cons]
    have e : (gNm 2 z (Eo a2 a3 a4 a5 a6 a7 a8 a9 a10) S).bind bO = bO (Eo (some z) a3 a4 a5 a6 a7 a8 a9 a10) S := by rw [gNm_ap, bind_ret]; rfl
    rw [e]
    refine (bO_all (some z) a3 a4 a5 a6 a7 a8 a9 a10 S).bind fun r S' h => ?_
    obtain ⟨as', rfl, b2, b3, b4, b5, b6, b7, b8, b9, b10, rfl⟩ := h
    rw [turn_nx]
    exact out_all zs b2 b3 b4 b5 b6 b7 b8 b9 b10 S'
theorem sE_at (a2 a3 a4 a5 a6 a7 a8 a9 a10 : Option AV) (S : Store) : sE (Eo a2 a3 a4 a5 a6 a7 a8 a9 a10) S = .ret (.rt (.p (.bool true))) S := by
  have e := isk [] (fun x hx => by cases hx) (by decide) S
  have e' : m_is_kept [.p (.tuple [])] S = .ret (.p (.bool true)) S := e
  unfold sE
  rw [sRet_ap, e2_ap, eCall_ap]
  have e0 : aCons (eTup aNil) aNil (Eo a2 a3 a4 a5 a6 a7 a8 a9 a10) S = .ret [.p (.tuple [])] S := rfl
  rw [e0, bind_ret, e', bind_ret]
  rfl
theorem law_all (S : Store) : AllS (d_law (none :: some .cup :: List.replicate 9 none) S) fun r _ => r = .rt (.p (.bool true)) := by
  rw [law_def]
  show AllS (sSeq sL _ (Eo none none none none none none none none none) S) _
  refine AllS.seq (P := fun as' S' => as' = Eo none none none none none none none none none) ?_ fun as' S' h => ?_
  · unfold sL
    rw [sIf_ap, tNotX_ap, toT_ap]
    have e : eCall m__law_long_right (aCons (eVar 1) aNil) (Eo none none none none none none none none none) S = m__law_long_right [.cup] S := rfl
    rw [e]
    refine AllS.bind (P := fun r S' => r = false ∧ S' = S) ?_ fun r S' h => ?_
    · refine AllS.bind (P := fun r S' => r = true ∧ S' = S) ?_ fun r S' h => ?_
      · refine (long_all S).all.bind fun r S' h => ?_
        obtain ⟨rfl, rfl⟩ := h
        exact AllS.ret ⟨rfl, rfl⟩
      · obtain ⟨rfl, rfl⟩ := h
        exact AllS.ret ⟨rfl, rfl⟩
    · obtain ⟨rfl, rfl⟩ := h
      exact AllS.ret ⟨_, rfl, rfl⟩
  · subst h
    refine AllS.seq (P := fun as' S' => ∃ a2 a3 a4 a5 a6 a7 a8 a9 a10, as' = Eo a2 a3 a4 a5 a6 a7 a8 a9 a10) ?_ fun as' S' h => ?_
    · have e : iRg1 (aCons (iC 6) aNil) (Eo none none none none none none none none none) S' = .ret (.fz (rgA 0 (6 : Int).toNat)) S' := iRg1_of (i := 6) rfl ok6
      rw [sFor_ap, e, bind_ret]
      exact out_all _ _ _ _ _ _ _ _ _ _ S'
    · obtain ⟨a2, a3, a4, a5, a6, a7, a8, a9, a10, rfl⟩ := h
      rw [sE_at]
      exact AllS.ret rfl
theorem hd_ofAll {l : Nat} {d : XS} (h : AllS (d (none :: some .cup :: List.replicate l none) []) fun r _ => r = .rt (.p (.bool true))) : LawHd l d := ⟨h.run⟩
theorem law_hd : LawHd 9 d_law := hd_ofAll (law_all [])
end G

namespace G
open PySem PySem.Spec L2 RA
abbrev LW : PySem.W.OpenLaw := PySem.Challenge.rw_reducehouse_k53_kept_histories
abbrev R : PySem.W.OpenRow := PySem.W.OpenLaw.row LW
abbrev hk : PySem.W.Hook := hookR 4 fa fn [] ex
def ob (s : PySem.W.SharedT) : AlR := obsRG 4 fa fn [] ex (HandSHeadRun.getT s)
theorem ob_eq (s : PySem.W.SharedT) : ob s = hk.obs s.abs := obsRG_eq (HandSHeadRun.getT_eq s)
def loose : List Str := [⟨#[105, 115, 95, 107, 101, 112, 116]⟩, ⟨#[95, 108, 97, 119, 95, 99, 117, 112]⟩, ⟨#[95, 108, 97, 119, 95, 114, 111, 108, 108]⟩, ⟨#[95, 108, 97, 119, 95, 107, 101, 112, 116]⟩, ⟨#[95, 108, 97, 119, 95, 109, 97, 114, 107]⟩, ⟨#[95, 108, 97, 119, 95, 108, 105, 107, 101]⟩, ⟨#[95, 108, 97, 119, 95, 108, 111, 110, 103, 95, 114, 105, 103, 104, 116]⟩]
theorem run (w : World) : HandSHeadRun.RunEq R (PySem.W.view R.prog [9]) hk ob 20000 loose w := by
  intro os
  kernel_rfl
theorem hd : LawHd 9 d_law := law_hd
end G
open PySem PySem.W PySem.Calls PyProof.Rows
theorem PySem.Challenge.cw_reducehouse_k53_kept_histories_holds : PySem.Challenge.rw_reducehouse_k53_kept_histories.Holds := by
  w_on; o_law
  refine HandSHeadRun.head_any (r := G.R) (q := view G.R.prog [9]) (H := G.hk) (ob := G.ob) (M := 20000) (loose := G.loose) (d := HandSHeadRun.topDef G.R.prog 9) (kwd := []) G.ob_eq
    (by kernel_rfl) (fun s => by kernel_rfl) G.run (by kernel_rfl) (by kernel_rfl) (by kernel_rfl) (by rfl) (by first | assumption | decide +kernel) (by decide +kernel) ⟨rfl, rfl, rfl, rfl, rfl, by decide +kernel⟩ ?hw ?hc
  case hw => w_witness2
  case hc =>
    refine RA.walkA (l := G.LW) (k := 7) rfl (by kernel_rfl) ⟨rfl, by decide, by decide⟩ ?F
    intro w mg fa h Y G0 hmg0
    obtain ⟨K, KX, c⟩ := Y
    have V := RA.SaysR.vw c KX G0
    have hmg : mg ("law" : PySem.Str) = some (.ref fa) := by
      have e : (HandSHeadRun.topDef G.R.prog 9).name = ("law" : PySem.Str) := by kernel_rfl
      rw [← e]
      exact hmg0
    have hkk : RA.kkOf mg = false := RA.Vw.nokk V 0
    obtain ⟨f0, fd, e0, F0, hb⟩ := G.a_law (P := (G.LW).prog) (w := w) V hkk G.hd
    have e1 : f0 = fa := Value.ref.inj (Option.some.inj (e0.symm.trans hmg))
    subst e1
    exact ⟨K, fd, KX, hb, fun base _ _ => F0 base⟩

