import PyProof.Rows.All
import Wide.All
import OpenK.AllK
import Wide.FinOn
import HandS.ForMost
import HandS.Exc
import HandS.TryOnly
import HandS.ExcOwn
import HandS.WordsExc
import HandS.IsInst
import HandS.Conv
import HandS.Walk
import HandS.Wide
import HandS.TupAny
import HandS.TupMul
import HandS.Deep
import HandS.Text
import HandS.Zip
import KE.GoesNew
import KE.GoesEnum
import KE.GoesMore
import HandS.Style
import KE.SortData
import HandS.SortInts
import HandS.TupSets
import HandS.SetBool
import PySem.Challenge.RW_farbeats_k49_lies_by_hand
set_option Elab.async false
set_option linter.all false
set_option maxRecDepth 100000
set_option maxHeartbeats 4000000
/-! Data, stores, programs over data; how they stand in the abstract heap. -/
namespace FB
open PySem PySem.Spec PyProof.Rows L2

/-! ### data -/
inductive D where
  | non | bl (b : Bool) | int (i : Int) | str (x : Str) | tup (xs : List D) | lst (xs : List D) | dic (kvs : List (D × D)) | obj (n : Nat) | scr (ns : List Int)
/-- an object that changes -/
inductive MO where
  | lst (xs : List D) | ins (C : Str) (fs : List (Str × D))
abbrev Store := List MO
inductive Res (α : Type) where
  | ok (a : α) (S : Store) | exc (c : Str) (p : D) (S : Store) | bad
def M (α : Type) : Type := Store → Res α
def M.pure {α : Type} (a : α) : M α := fun S => .ok a S
def M.bind {α β : Type} (m : M α) (f : α → M β) : M β := fun S => match m S with
  | .ok a S' => f a S'
  | .exc c p S' => .exc c p S'
  | .bad => .bad
instance : Monad M where
  pure := M.pure
  bind := M.bind
def fail {α : Type} : M α := fun _ => .bad
def throwM {α : Type} (c : Str) (p : D) : M α := fun S => .exc c p S
def Res.wp {α : Type} (r : Res α) (Q : α → Store → Prop) (E : Str → D → Store → Prop) : Prop := match r with
  | .ok a S => Q a S
  | .exc c p S => E c p S
  | .bad => False
section
variable {α β : Type} {S : Store} {Q : α → Store → Prop} {Qb : β → Store → Prop} {E : Str → D → Store → Prop}
theorem M.ext {m n : M α} (h : ∀ S, m S = n S) : m = n := funext h
@[simp] theorem pure_ap (a : α) : (pure a : M α) S = .ok a S := (rfl)
@[simp] theorem fail_ap : (fail : M α) S = .bad := (rfl)
@[simp] theorem throw_ap (c : Str) (p : D) : (throwM c p : M α) S = .exc c p S := (rfl)
theorem bind_ap (m : M α) (f : α → M β) : (m >>= f) S = match m S with | .ok a S' => f a S' | .exc c p S' => .exc c p S' | .bad => .bad := rfl
@[simp] theorem pure_bindM (a : α) (f : α → M β) : (pure a >>= f : M β) = f a := (rfl)
@[simp] theorem fail_bindM (f : α → M β) : (fail >>= f : M β) = fail := (rfl)
@[simp] theorem throw_bindM (c : Str) (p : D) (f : α → M β) : (throwM c p >>= f : M β) = throwM c p := (rfl)
@[simp] theorem bind_pureM (m : M α) : (m >>= pure : M α) = m := M.ext fun S => by rw [bind_ap]; cases m S <;> rfl
@[simp] theorem bind_assocM {γ : Type} (m : M α) (f : α → M β) (g : β → M γ) : (m >>= f) >>= g = m >>= fun a => f a >>= g := M.ext fun S => by
  rw [bind_ap, bind_ap, bind_ap]
  cases m S <;> rfl
theorem wp_bind {m : M α} {f : α → M β} : ((m >>= f) S).wp Qb E ↔ (m S).wp (fun a S' => (f a S').wp Qb E) E := by
  rw [bind_ap]
  cases m S <;> exact Iff.rfl
theorem Res.wp.mono {r : Res α} {Q' : α → Store → Prop} {E' : Str → D → Store → Prop} (h : r.wp Q E) (hq : ∀ a S, Q a S → Q' a S) (he : ∀ c p S, E c p S → E' c p S) : r.wp Q' E' := by
  cases r with
  | ok a S => exact hq _ _ h
  | exc c p S => exact he _ _ _ h
  | bad => exact h
theorem wp_okE {r : Res α} (h : r.wp Q fun _ _ _ => False) : ∃ a S', r = .ok a S' ∧ Q a S' := by
  cases r with
  | ok a S => exact ⟨a, S, rfl, h⟩
  | exc c p S => exact h.elim
  | bad => exact h.elim
end

/-! ### how data stand -/
def kD : Key → D
  | .inl i => .int i
  | .inr x => .str x
mutual
inductive Rep (K : PySem.W.Frag) (th : List Addr) (G : Hp) : V → D → Prop
  | non : Rep K th G .non .non
  | bl (b : Bool) : Rep K th G (.bl b) (.bl b)
  | int (i : Int) : Rep K th G (.int i) (.int i)
  | str (x : Str) : Rep K th G (.str x) (.str x)
  | tup {a : Addr} {xs : List V} {ds : List D} : SqT K G a xs → RepL K th G xs ds → Rep K th G (.ref a) (.tup ds)
  | lst {a : Addr} {xs : List V} {ds : List D} : G a = some (.lst xs) → RepL K th G xs ds → Rep K th G (.ref a) (.lst ds)
  | dicT {a : Addr} {kk : List (List Key × V)} {kvs : List (D × D)} : Rd G a (.dT kk) → RepT K th G kk kvs → Rep K th G (.ref a) (.dic kvs)
  | dicK {a : Addr} {kk : List (Key × V)} {kvs : List (D × D)} : Rd G a (.dK kk) → RepK K th G kk kvs → Rep K th G (.ref a) (.dic kvs)
  | obj {n : Nat} {a : Addr} : th[n]? = some a → Rep K th G (.ref a) (.obj n)
  | scr {a : Addr} {ns : List Int} : SqL K G a (ns.map V.int) → Rep K th G (.ref a) (.scr ns)
inductive RepL (K : PySem.W.Frag) (th : List Addr) (G : Hp) : List V → List D → Prop
  | nil : RepL K th G [] []
  | cons {v : V} {d : D} {vs : List V} {ds : List D} : Rep K th G v d → RepL K th G vs ds → RepL K th G (v :: vs) (d :: ds)
inductive RepT (K : PySem.W.Frag) (th : List Addr) (G : Hp) : List (List Key × V) → List (D × D) → Prop
  | nil : RepT K th G [] []
  | cons {k : List Key} {v : V} {d : D} {vs : List (List Key × V)} {ds : List (D × D)} : Rep K th G v d → RepT K th G vs ds → RepT K th G ((k, v) :: vs) ((.tup (k.map kD), d) :: ds)
inductive RepK (K : PySem.W.Frag) (th : List Addr) (G : Hp) : List (Key × V) → List (D × D) → Prop
  | nil : RepK K th G [] []
  | cons {k : Key} {v : V} {d : D} {vs : List (Key × V)} {ds : List (D × D)} : Rep K th G v d → RepK K th G vs ds → RepK K th G ((k, v) :: vs) ((kD k, d) :: ds)
end
section
variable {K : PySem.W.Frag} {th th' : List Addr} {G G' : Hp}
theorem sqL_mono {a : Addr} {xs : List V} (hG : ∀ a u, Rd G a u → Rd G' a u) (h : SqL K G a xs) : SqL K G' a xs := by
  rcases h with h | h
  · exact .inl (hG _ _ h)
  · exact .inr h
theorem sqT_mono {a : Addr} {xs : List V} (hG : ∀ a u, Rd G a u → Rd G' a u) (h : SqT K G a xs) : SqT K G' a xs := by
  rcases h with h | h
  · exact .inl (hG _ _ h)
  · exact .inr h
mutual
theorem Rep.mono (ht : ∀ (n : Nat) (a : Addr), th[n]? = some a → th'[n]? = some a) (hL : ∀ a xs, G a = some (.lst xs) → G' a = some (.lst xs)) (hG : ∀ a u, Rd G a u → Rd G' a u) : ∀ {v d}, Rep K th G v d → Rep K th' G' v d
  | _, _, .non => .non
  | _, _, .bl b => .bl b
  | _, _, .int i => .int i
  | _, _, .str x => .str x
  | _, _, .tup h1 h2 => .tup (sqT_mono hG h1) (RepL.mono ht hL hG h2)
  | _, _, .lst h1 h2 => .lst (hL _ _ h1) (RepL.mono ht hL hG h2)
  | _, _, .dicT h1 h2 => .dicT (hG _ _ h1) (RepT.mono ht hL hG h2)
  | _, _, .dicK h1 h2 => .dicK (hG _ _ h1) (RepK.mono ht hL hG h2)
  | _, _, .obj h => .obj (ht _ _ h)
  | _, _, .scr h => .scr (sqL_mono hG h)
theorem RepL.mono (ht : ∀ (n : Nat) (a : Addr), th[n]? = some a → th'[n]? = some a) (hL : ∀ a xs, G a = some (.lst xs) → G' a = some (.lst xs)) (hG : ∀ a u, Rd G a u → Rd G' a u) : ∀ {v d}, RepL K th G v d → RepL K th' G' v d
  | _, _, .nil => .nil
  | _, _, .cons h1 h2 => .cons (Rep.mono ht hL hG h1) (RepL.mono ht hL hG h2)
theorem RepT.mono (ht : ∀ (n : Nat) (a : Addr), th[n]? = some a → th'[n]? = some a) (hL : ∀ a xs, G a = some (.lst xs) → G' a = some (.lst xs)) (hG : ∀ a u, Rd G a u → Rd G' a u) : ∀ {v d}, RepT K th G v d → RepT K th' G' v d
  | _, _, .nil => .nil
  | _, _, .cons h1 h2 => .cons (Rep.mono ht hL hG h1) (RepT.mono ht hL hG h2)
theorem RepK.mono (ht : ∀ (n : Nat) (a : Addr), th[n]? = some a → th'[n]? = some a) (hL : ∀ a xs, G a = some (.lst xs) → G' a = some (.lst xs)) (hG : ∀ a u, Rd G a u → Rd G' a u) : ∀ {v d}, RepK K th G v d → RepK K th' G' v d
  | _, _, .nil => .nil
  | _, _, .cons h1 h2 => .cons (Rep.mono ht hL hG h1) (RepK.mono ht hL hG h2)
end
theorem RepL.length : ∀ {vs ds}, RepL K th G vs ds → vs.length = ds.length
  | _, _, .nil => rfl
  | _, _, .cons _ t => congrArg (· + 1) (RepL.length t)
theorem RepL.get : ∀ {vs ds} {i : Nat} {d : D}, RepL K th G vs ds → ds[i]? = some d → ∃ v, vs[i]? = some v ∧ Rep K th G v d
  | _, _, _, _, .nil, e => by simp at e
  | _, _, 0, _, .cons r _, e => by simp at e; subst e; exact ⟨_, rfl, r⟩
  | _, _, i + 1, d, .cons _ t, e => by
    obtain ⟨v, h1, h2⟩ := RepL.get (i := i) (d := d) t (by simpa using e)
    exact ⟨v, by simpa using h1, h2⟩
theorem RepL.getV : ∀ {vs ds} {i : Nat} {v : V}, RepL K th G vs ds → vs[i]? = some v → ∃ d, ds[i]? = some d ∧ Rep K th G v d
  | _, _, _, _, .nil, e => by simp at e
  | _, _, 0, _, .cons r _, e => by simp at e; subst e; exact ⟨_, rfl, r⟩
  | _, _, i + 1, d, .cons _ t, e => by
    obtain ⟨v, h1, h2⟩ := RepL.getV (i := i) (v := d) t (by simpa using e)
    exact ⟨v, by simpa using h1, h2⟩
theorem RepL.append : ∀ {vs ds vs' ds'}, RepL K th G vs ds → RepL K th G vs' ds' → RepL K th G (vs ++ vs') (ds ++ ds')
  | _, _, _, _, .nil, s => s
  | _, _, _, _, .cons r t, s => .cons r (RepL.append t s)
theorem RepL.take : ∀ {vs ds} (n : Nat), RepL K th G vs ds → RepL K th G (vs.take n) (ds.take n)
  | _, _, 0, _ => .nil
  | _, _, _ + 1, .nil => .nil
  | _, _, n + 1, .cons r t => .cons r (RepL.take n t)
theorem RepL.drop : ∀ {vs ds} (n : Nat), RepL K th G vs ds → RepL K th G (vs.drop n) (ds.drop n)
  | _, _, 0, r => r
  | _, _, _ + 1, .nil => .nil
  | _, _, n + 1, .cons _ t => RepL.drop n t
theorem RepL.reverse : ∀ {vs ds}, RepL K th G vs ds → RepL K th G vs.reverse ds.reverse
  | _, _, .nil => .nil
  | _, _, .cons r t => by rw [List.reverse_cons, List.reverse_cons]; exact RepL.append (RepL.reverse t) (.cons r .nil)
theorem RepL.set {v : V} {d : D} (r : Rep K th G v d) : ∀ {vs ds} (i : Nat), RepL K th G vs ds → RepL K th G (vs.set i v) (ds.set i d)
  | _, _, _, .nil => .nil
  | _, _, 0, .cons _ t => .cons r t
  | _, _, i + 1, .cons q t => .cons q (RepL.set r i t)
theorem RepL.one {v : V} {d : D} (r : Rep K th G v d) : RepL K th G [v] [d] := .cons r .nil
theorem RepL.ints : ∀ {vs} {ns : List Int}, RepL K th G vs (ns.map D.int) → vs = ns.map V.int
  | _, [], h => by cases h; rfl
  | _, n :: ns, h => by
    cases h with
    | cons r t => cases r; rw [RepL.ints t]; rfl
theorem RepL.bools : ∀ {vs} {ns : List Bool}, RepL K th G vs (ns.map D.bl) → vs = ns.map V.bl
  | _, [], h => by cases h; rfl
  | _, n :: ns, h => by
    cases h with
    | cons r t => cases r; rw [RepL.bools t]; rfl
theorem RepL.strs : ∀ {vs} {ns : List Str}, RepL K th G vs (ns.map D.str) → vs = ns.map V.str
  | _, [], h => by cases h; rfl
  | _, n :: ns, h => by
    cases h with
    | cons r t => cases r; rw [RepL.strs t]; rfl
end

/-! ### the store, the data and the heap -/
/-- a list or dict at a, its items data -/
def RepAt (K : PySem.W.Frag) (th : List Addr) (G H : Hp) (a : Addr) : D → Prop
  | .lst ds => ∃ xs, H a = some (.lst xs) ∧ RepL K th G xs ds
  | .dic kvs => (∃ kk, H a = some (.dT kk) ∧ RepT K th G kk kvs) ∨ ∃ kk, H a = some (.dK kk) ∧ RepK K th G kk kvs
  | _ => False
def ObjAt (K : PySem.W.Frag) (mg : Str → Option Value) (th : List Addr) (G H : Hp) (a : Addr) : MO → Prop
  | .lst ds => ∃ xs, H a = some (.lst xs) ∧ RepL K th G xs ds
  | .ins C fs => ∃ Ca dx vs, mg C = some (.ref Ca) ∧ H a = some (.ins Ca dx vs) ∧ Paired (fun (p : Str × V) (q : Str × D) => p.1 = q.1 ∧ Rep K th G p.2 q.2) vs fs
structure Wd (K : PySem.W.Frag) (mg : Str → Option Value) (S : Store) (th : List Addr) (G H : Hp) : Prop where
  sub : ∀ a o, G a = some o → H a = some o
  len : th.length = S.length
  nog : ∀ a, a ∈ th → G a = none
  nd : th.Nodup
  obj : ∀ (n : Nat) mo a, S[n]? = some mo → th[n]? = some a → ObjAt K mg th G H a mo
structure Ext (th : List Addr) (G H : Hp) (th' : List Addr) (G' H' : Hp) : Prop where
  tt : ∃ more : List Addr, th' = th ++ more ∧ ∀ a, a ∈ more → H a = none
  g : ∀ a o, G a = some o → G' a = some o
  new : ∀ a, G' a ≠ none → G a ≠ none ∨ H a = none
  keep : ∀ a o, H a = some o → a ∉ th → H' a = some o
  dom : ∀ a, H a ≠ none → H' a ≠ none
section
variable {K : PySem.W.Frag} {mg : Str → Option Value} {S S' : Store} {th th1 th2 : List Addr} {G G1 G2 H H0 H1 H2 : Hp}
theorem Ext.refl : Ext th G H th G H := ⟨⟨[], by simp, fun _ h => nomatch h⟩, fun _ _ h => h, fun _ h => .inl h, fun _ _ h _ => h, fun _ h => h⟩
theorem Ext.get (e : Ext th G H th1 G1 H1) {n : Nat} {a : Addr} (h : th[n]? = some a) : th1[n]? = some a := by
  obtain ⟨m, rfl, _⟩ := e.tt
  rw [List.getElem?_append_left (List.getElem?_eq_some_iff.mp h).1]
  exact h
theorem Ext.rd (e : Ext th G H th1 G1 H1) (a : Addr) (u : HO) (h : Rd G a u) : Rd G1 a u := by
  rcases h with h | ⟨o, h⟩
  · exact .inl (e.g _ _ h)
  · exact .inr ⟨o, e.g _ _ h⟩
theorem Ext.nth (e : Ext th G H th1 G1 H1) {a : Addr} (h : H a ≠ none) (n : a ∉ th) : a ∉ th1 := by
  obtain ⟨m, rfl, hm⟩ := e.tt
  intro ha
  rcases List.mem_append.mp ha with z | z
  · exact n z
  · exact h (hm a z)
theorem Ext.back (e : Ext th G H th1 G1 H1) {a : Addr} (h : H1 a = none) : H a = none := by
  cases q : H a with
  | none => rfl
  | some o => exact absurd h (e.dom a (by rw [q]; simp))
theorem Ext.trans (a : Ext th G H th1 G1 H1) (b : Ext th1 G1 H1 th2 G2 H2) : Ext th G H th2 G2 H2 := by
  refine ⟨?_, fun x o h => b.g x o (a.g x o h), fun x h => ?_, fun x o h n => b.keep x o (a.keep x o h n) (a.nth (by rw [h]; simp) n), fun x h => b.dom x (a.dom x h)⟩
  · obtain ⟨m, rfl, hm⟩ := a.tt
    obtain ⟨m2, rfl, hm2⟩ := b.tt
    refine ⟨m ++ m2, by rw [List.append_assoc], fun x hx => ?_⟩
    rcases List.mem_append.mp hx with z | z
    · exact hm x z
    · exact a.back (hm2 x z)
  · rcases b.new x h with z | z
    · exact a.new x z
    · exact .inr (a.back z)
theorem Ext.rep (e : Ext th G H th1 G1 H1) {v : V} {d : D} (h : Rep K th G v d) : Rep K th1 G1 v d := h.mono (fun _ _ => e.get) (fun _ _ => e.g _ _) e.rd
theorem Ext.repL (e : Ext th G H th1 G1 H1) {v : List V} {d : List D} (h : RepL K th G v d) : RepL K th1 G1 v d := h.mono (fun _ _ => e.get) (fun _ _ => e.g _ _) e.rd
theorem Ext.repT (e : Ext th G H th1 G1 H1) {v} {d} (h : RepT K th G v d) : RepT K th1 G1 v d := h.mono (fun _ _ => e.get) (fun _ _ => e.g _ _) e.rd
theorem Ext.repK (e : Ext th G H th1 G1 H1) {v} {d} (h : RepK K th G v d) : RepK K th1 G1 v d := h.mono (fun _ _ => e.get) (fun _ _ => e.g _ _) e.rd
theorem Ext.repAt (e : Ext th G H th1 G1 H1) {a : Addr} {d : D} (n : a ∉ th) (h : RepAt K th G H a d) : RepAt K th1 G1 H1 a d := by
  cases d with
  | lst ds => obtain ⟨xs, h1, h2⟩ := h; exact ⟨xs, e.keep _ _ h1 n, e.repL h2⟩
  | dic kvs =>
    rcases h with ⟨kk, h1, h2⟩ | ⟨kk, h1, h2⟩
    · exact .inl ⟨kk, e.keep _ _ h1 n, e.repT h2⟩
    · exact .inr ⟨kk, e.keep _ _ h1 n, e.repK h2⟩
  | non => exact h.elim
  | bl _ => exact h.elim
  | int _ => exact h.elim
  | str _ => exact h.elim
  | tup _ => exact h.elim
  | obj _ => exact h.elim
  | scr _ => exact h.elim
theorem RepAt.ne {a : Addr} {d : D} (h : RepAt K th G H a d) : H a ≠ none := by
  cases d with
  | lst ds => obtain ⟨xs, h1, h2⟩ := h; rw [h1]; simp
  | dic kvs =>
    rcases h with ⟨kk, h1, h2⟩ | ⟨kk, h1, h2⟩ <;> (rw [h1]; simp)
  | non => exact h.elim
  | bl _ => exact h.elim
  | int _ => exact h.elim
  | str _ => exact h.elim
  | tup _ => exact h.elim
  | obj _ => exact h.elim
  | scr _ => exact h.elim
theorem lst_upd {a : Addr} {o : HO} (n : G a = none) : ∀ b xs, G b = some (.lst xs) → upd G a o b = some (.lst xs) := fun b u h => by rw [upd_ne (ne_of_none h n)]; exact h
theorem rd_upd {a : Addr} {o : HO} (n : G a = none) : ∀ b u, Rd G b u → Rd (upd G a o) b u := fun b u h => by
  rcases h with h | ⟨x, h⟩
  · exact .inl (by rw [upd_ne (ne_of_none h n)]; exact h)
  · exact .inr ⟨x, by rw [upd_ne (ne_of_none h n)]; exact h⟩
theorem Wd.thDom (w : Wd K mg S th G H) {a : Addr} (h : a ∈ th) : H a ≠ none := by
  obtain ⟨n, hn, e⟩ := List.getElem_of_mem h
  have h1 : th[n]? = some a := by rw [List.getElem?_eq_getElem hn, e]
  have h2 : n < S.length := by rw [← w.len]; exact hn
  have q := w.obj n S[n] a (List.getElem?_eq_getElem h2) h1
  cases e2 : S[n] with
  | lst ds => rw [e2] at q; obtain ⟨xs, q1, _⟩ := q; rw [q1]; simp
  | ins C fs => rw [e2] at q; obtain ⟨_, _, _, _, q1, _⟩ := q; rw [q1]; simp
theorem ObjAt.ext (e : Ext th G H th1 G1 H1) {a : Addr} {mo : MO} (n : H1 a = H a) (h : ObjAt K mg th G H a mo) : ObjAt K mg th1 G1 H1 a mo := by
  cases mo with
  | lst ds => obtain ⟨xs, h1, h2⟩ := h; exact ⟨xs, n.trans h1, e.repL h2⟩
  | ins C fs => obtain ⟨Ca, dx, vs, h0, h1, h2⟩ := h; exact ⟨Ca, dx, vs, h0, n.trans h1, Paired.mapP h2 fun p q z => ⟨z.1, e.rep z.2⟩⟩
/-- a new object that is data -/
theorem Wd.laidG (w : Wd K mg S th G H) {a : Addr} {o : HO} (n : H a = none) : Wd K mg S th (upd G a o) (upd H a o) ∧ Ext th G H th (upd G a o) (upd H a o) := by
  have gn : G a = none := by
    cases q : G a with
    | none => rfl
    | some u => rw [w.sub _ _ q] at n; cases n
  have na : a ∉ th := fun h => w.thDom h n
  have E : Ext th G H th (upd G a o) (upd H a o) := ⟨⟨[], by simp, fun _ h => nomatch h⟩, fun b u h => by rw [upd_ne (ne_of_none h gn)]; exact h, fun b h => by
    by_cases hb : b = a
    · exact .inr (by rw [hb]; exact n)
    · rw [upd_ne hb] at h; exact .inl h, fun b u h _ => by rw [upd_ne (ne_of_none h n)]; exact h, fun b h => by
    by_cases hb : b = a
    · rw [hb, upd_same]; simp
    · rw [upd_ne hb]; exact h⟩
  refine ⟨⟨fun b u h => ?_, w.len, fun b hb => ?_, w.nd, fun k mo b h1 h2 => ?_⟩, E⟩
  · by_cases hb : b = a
    · rw [hb, upd_same] at h; rw [hb, upd_same]; exact h
    · rw [upd_ne hb] at h; rw [upd_ne hb]; exact w.sub b u h
  · rw [upd_ne (show b ≠ a from fun e => na (by rw [← e]; exact hb))]; exact w.nog b hb
  · refine ObjAt.ext E ?_ (w.obj k mo b h1 h2)
    rw [upd_ne (show b ≠ a from fun e => na (by rw [← e]; exact List.mem_of_getElem? h2))]
/-- a new object that isn't data yet -/
theorem Wd.laidH (w : Wd K mg S th G H) {a : Addr} {o : HO} (n : H a = none) : Wd K mg S th G (upd H a o) ∧ Ext th G H th G (upd H a o) := by
  have gn : G a = none := by
    cases q : G a with
    | none => rfl
    | some u => rw [w.sub _ _ q] at n; cases n
  have na : a ∉ th := fun h => w.thDom h n
  have E : Ext th G H th G (upd H a o) := ⟨⟨[], by simp, fun _ h => nomatch h⟩, fun b u h => h, fun b h => .inl h, fun b u h _ => by rw [upd_ne (ne_of_none h n)]; exact h, fun b h => by
    by_cases hb : b = a
    · rw [hb, upd_same]; simp
    · rw [upd_ne hb]; exact h⟩
  refine ⟨⟨fun b u h => ?_, w.len, w.nog, w.nd, fun k mo b h1 h2 => ?_⟩, E⟩
  · rw [upd_ne (ne_of_none h gn)]; exact w.sub b u h
  · refine ObjAt.ext E ?_ (w.obj k mo b h1 h2)
    rw [upd_ne (show b ≠ a from fun e => na (by rw [← e]; exact List.mem_of_getElem? h2))]
/-- what stands already becomes data -/
theorem Wd.freeze (w : Wd K mg S th G H) {a : Addr} {o : HO} (h : H a = some o) (na : a ∉ th) (gn : G a = none) : Wd K mg S th (upd G a o) H ∧ (∀ b u, Rd G b u → Rd (upd G a o) b u) := by
  have hr := rd_upd (o := o) gn
  have hl := lst_upd (o := o) gn
  refine ⟨⟨fun b u q => ?_, w.len, fun b hb => ?_, w.nd, fun k mo b h1 h2 => ?_⟩, hr⟩
  · by_cases hb : b = a
    · rw [hb, upd_same] at q; cases q; rw [hb]; exact h
    · rw [upd_ne hb] at q; exact w.sub b u q
  · rw [upd_ne (show b ≠ a from fun e => na (by rw [← e]; exact hb))]; exact w.nog b hb
  · have q := w.obj k mo b h1 h2
    cases mo with
    | lst ds => obtain ⟨xs, q1, q2⟩ := q; exact ⟨xs, q1, q2.mono (fun _ _ z => z) hl hr⟩
    | ins C fs => obtain ⟨Ca, dx, vs, q0, q1, q2⟩ := q; exact ⟨Ca, dx, vs, q0, q1, Paired.mapP q2 fun p q z => ⟨z.1, z.2.mono (fun _ _ z => z) hl hr⟩⟩
theorem RepAt.rep (gn : G a = none) {d : D} (h : RepAt K th G H a d) : ∃ o, H a = some o ∧ Rep K th (upd G a o) (.ref a) d := by
  cases d with
  | lst ds =>
    obtain ⟨xs, h1, h2⟩ := h
    exact ⟨_, h1, .lst upd_same (h2.mono (fun _ _ z => z) (lst_upd gn) (rd_upd gn))⟩
  | dic kvs =>
    rcases h with ⟨kk, h1, h2⟩ | ⟨kk, h1, h2⟩
    · exact ⟨_, h1, .dicT (.inl upd_same) (h2.mono (fun _ _ z => z) (lst_upd gn) (rd_upd gn))⟩
    · exact ⟨_, h1, .dicK (.inl upd_same) (h2.mono (fun _ _ z => z) (lst_upd gn) (rd_upd gn))⟩
  | non => exact h.elim
  | bl _ => exact h.elim
  | int _ => exact h.elim
  | str _ => exact h.elim
  | tup _ => exact h.elim
  | obj _ => exact h.elim
  | scr _ => exact h.elim
end
end FB

/-! Slots, the judgement, names, constants, displays, operators. -/
namespace FB
open PySem PySem.Spec PyProof.Rows L2

inductive Sl where
  | no | dat (d : D) | own (d : D)
abbrev Envr := List Sl
structure EnvOk (K : PySem.W.Frag) (th : List Addr) (G H H0 : Hp) (σ : L2.St) (ρ : Envr) : Prop where
  len : ρ.length = σ.length
  dat : ∀ (i : Nat) d, ρ[i]? = some (.dat d) → ∃ v, σ[i]? = some (some v) ∧ Rep K th G v d
  own : ∀ (i : Nat) d, ρ[i]? = some (.own d) → ∃ a, σ[i]? = some (some (.ref a)) ∧ H0 a = none ∧ G a = none ∧ a ∉ th ∧ RepAt K th G H a d
  sep : ∀ (i j : Nat) d e a, i ≠ j → ρ[i]? = some (.own d) → ρ[j]? = some (.own e) → σ[i]? = some (some (.ref a)) → σ[j]? ≠ some (some (.ref a))
section
variable {K : PySem.W.Frag} {th th1 : List Addr} {G G1 H H1 H0 : Hp} {σ : L2.St} {ρ : Envr}
theorem EnvOk.ext (h : EnvOk K th G H H0 σ ρ) (e : Ext th G H th1 G1 H1) : EnvOk K th1 G1 H1 H0 σ ρ := by
  refine ⟨h.len, fun i d q => ?_, fun i d q => ?_, h.sep⟩
  · obtain ⟨v, h1, h2⟩ := h.dat i d q
    exact ⟨v, h1, e.rep h2⟩
  · obtain ⟨a, h1, h2, h3, h4, h5⟩ := h.own i d q
    refine ⟨a, h1, h2, ?_, e.nth h5.ne h4, e.repAt h4 h5⟩
    cases q : G1 a with
    | none => rfl
    | some o =>
      rcases e.new a (by rw [q]; simp) with z | z
      · exact absurd h3 z
      · exact absurd z h5.ne
end

/-- an exception's class and its own dict -/
def ExcAt (K : PySem.W.Frag) (mg : Str → Option Value) (th : List Addr) (G H : Hp) (c : Str) (p : D) (cls : Value) (dx : Option Addr) : Prop :=
  mg c = some cls ∧ ((dx = none ∧ p = .non) ∨ ∃ d v, dx = some d ∧ G d = none ∧ d ∉ th ∧ H d = some (.xd [(("line" : Str), v)]) ∧ Rep K th G v p)

/-- kinds of results -/
abbrev RK := PySem.W.Frag → Hp → List Addr → Hp → Hp → V → D → Prop
def rE : RK := fun K _ th G _ v d => Rep K th G v d
def rF : RK := fun K H0 th G H v d => ∃ a, v = .ref a ∧ H0 a = none ∧ G a = none ∧ a ∉ th ∧ RepAt K th G H a d
def rS : RK := fun K _ th G H v d => Rep K th G v d ∨ ∃ a, v = .ref a ∧ a ∉ th ∧ RepAt K th G H a d

/-- the wish behind a run -/
def Post (X : Cx) (R : RK) (H : Hp) (th : List Addr) (G : Hp) (Q : VK) : D → Store → Prop := fun d S' => ∀ v th' G' H', Wd X.K X.mg S' th' G' H' → Ext th G H th' G' H' → R X.K H th' G' H' v d → Q v H'
def PostX (X : Cx) (W : Value → Option Addr → Hp → Prop) (H : Hp) (th : List Addr) (G : Hp) : Str → D → Store → Prop := fun c p S' => ∀ cls dx th' G' H', Wd X.K X.mg S' th' G' H' → Ext th G H th' G' H' → ExcAt X.K X.mg th' G' H' c p cls dx → W cls dx H'
def tD (X : Cx) (W : WX) (R : RK) (m : Envr → M D) : TE := fun σ H Q => ∃ S th G H0 ρ, Wd X.K X.mg S th G H ∧ EnvOk X.K th G H H0 σ ρ ∧ (m ρ S).wp (Post X R H th G Q) (PostX X (fun c d h => W c d σ h) H th G)
def DX (X : Cx) (W : WX) (R : RK) (e : Expr) (m : Envr → M D) : Prop := PE X e (tD X W R m)
/-- tests -/
def PostB (X : Cx) (H : Hp) (th : List Addr) (G : Hp) (Q : Bool → Hp → Prop) : Bool → Store → Prop := fun b S' => ∀ th' G' H', Wd X.K X.mg S' th' G' H' → Ext th G H th' G' H' → Q b H'
def tDT (X : Cx) (W : WX) (m : Envr → M Bool) : TT := fun σ H Q => ∃ S th G H0 ρ, Wd X.K X.mg S th G H ∧ EnvOk X.K th G H H0 σ ρ ∧ (m ρ S).wp (PostB X H th G Q) (PostX X (fun c d h => W c d σ h) H th G)
def DT (X : Cx) (W : WX) (e : Expr) (m : Envr → M Bool) : Prop := PT X e (tDT X W m)
def DW (X : Cx) (W : WX) (e : Expr) (m : Envr → M Bool) : Prop := PW X e (tDT X W m)
/-- argument lists, all data -/
def PostL (X : Cx) (H : Hp) (th : List Addr) (G : Hp) (Q : List V → Hp → Prop) : List D → Store → Prop := fun ds S' => ∀ vs th' G' H', Wd X.K X.mg S' th' G' H' → Ext th G H th' G' H' → RepL X.K th' G' vs ds → Q vs H'
def tDA (X : Cx) (W : WX) (m : Envr → M (List D)) : TA := fun σ H Q => ∃ S th G H0 ρ, Wd X.K X.mg S th G H ∧ EnvOk X.K th G H H0 σ ρ ∧ (m ρ S).wp (PostL X H th G Q) (PostX X (fun c d h => W c d σ h) H th G)
def DA (X : Cx) (W : WX) (es : List Expr) (m : Envr → M (List D)) : Prop := PA X es (tDA X W m)

section
variable {X : Cx} {W : WX} {R : RK} {e a b : Expr} {es : List Expr} {m ma mb : Envr → M D} {S : Store} {th th1 th2 : List Addr} {G G1 G2 H H1 H2 H0 : Hp} {σ : L2.St} {ρ : Envr} {pos : Pos}
theorem PE.weak {t u : TE} (h : PE X e t) (k : ∀ σ H Q, u σ H Q → t σ H Q) : PE X e u := ⟨fun pins s σ H Q I q => h.run pins s σ H Q I (k σ H Q q)⟩
theorem PT.weak {t u : TT} (h : PT X e t) (k : ∀ σ H Q, u σ H Q → t σ H Q) : PT X e u := ⟨fun pins s σ H Q I q => h.run pins s σ H Q I (k σ H Q q)⟩
theorem PW.weak {t u : TT} (h : PW X e t) (k : ∀ σ H Q, u σ H Q → t σ H Q) : PW X e u := ⟨fun wh pins s σ H Q I q => h.run wh pins s σ H Q I (k σ H Q q)⟩
theorem PA.weak {t u : TA} (h : PA X es t) (k : ∀ σ H Q, u σ H Q → t σ H Q) : PA X es u := ⟨fun pos pins s σ H Q I q => h.run pos pins s σ H Q I (k σ H Q q)⟩
theorem PS.weak {st : Stmt} {t u : TS} (h : PS X st t) (k : ∀ D σ H, u D σ H → t D σ H) : PS X st u := ⟨fun pins s σ H D I q => h.run pins s σ H D I (k D σ H q)⟩
theorem PSs.weak {st : List Stmt} {t u : TS} (h : PSs X st t) (k : ∀ D σ H, u D σ H → t D σ H) : PSs X st u := ⟨fun pins s σ H D I q => h.run pins s σ H D I (k D σ H q)⟩

/-- from a later heap back to the start -/
theorem PostX.back {c : Str} {p : D} {S' : Store} {Wx : Value → Option Addr → Hp → Prop} (h : PostX X Wx H th G c p S') (e : Ext th G H th1 G1 H1) : PostX X Wx H1 th1 G1 c p S' := fun cls dx th' G' H' w x q => h cls dx th' G' H' w (e.trans x) q
/-- a run, then the rest -/
theorem tD.run {α : Type} {k : D → M α} {Qb : α → Store → Prop} {Q : VK} (w : Wd X.K X.mg S th G H) (eo : EnvOk X.K th G H H0 σ ρ)
    (h : ((m ρ >>= k) S).wp Qb (PostX X (fun c d h => W c d σ h) H th G))
    (hk : ∀ d S1 v th1 G1 H1, Wd X.K X.mg S1 th1 G1 H1 → Ext th G H th1 G1 H1 → R X.K H th1 G1 H1 v d → EnvOk X.K th1 G1 H1 H0 σ ρ → (k d S1).wp Qb (PostX X (fun c d h => W c d σ h) H th G) → Q v H1) : tD X W R m σ H Q := by
  refine ⟨S, th, G, H0, ρ, w, eo, ?_⟩
  rw [wp_bind] at h
  exact h.mono (fun d S1 q v th1 G1 H1 w1 e1 r => hk d S1 v th1 G1 H1 w1 e1 r (eo.ext e1) q) fun _ _ _ z => z

/-! ### from kind to kind -/
theorem DX.toS (h : DX X W rE e m) : DX X W rS e m := PE.weak h fun σ H Q ⟨S, th, G, H0, ρ, w, eo, q⟩ =>
  ⟨S, th, G, H0, ρ, w, eo, q.mono (fun d S1 q v th1 G1 H1 w1 e1 r => q v th1 G1 H1 w1 e1 (.inl r)) fun _ _ _ z => z⟩
theorem DX.FtoS (h : DX X W rF e m) : DX X W rS e m := PE.weak h fun σ H Q ⟨S, th, G, H0, ρ, w, eo, q⟩ =>
  ⟨S, th, G, H0, ρ, w, eo, q.mono (fun d S1 q v th1 G1 H1 w1 e1 ⟨a, h1, _, _, h4, h5⟩ => q v th1 G1 H1 w1 e1 (.inr ⟨a, h1, h4, h5⟩)) fun _ _ _ z => z⟩
/-- a fresh thing becomes data -/
theorem freeze_ext (e : Ext th G H th1 G1 H1) {a : Addr} {o : HO} (n : H a = none) (h : H1 a = some o) (gn : G1 a = none) : Ext th G H th1 (upd G1 a o) H1 := by
  refine ⟨e.tt, fun b u q => ?_, fun b q => ?_, e.keep, e.dom⟩
  · rw [upd_ne (ne_of_none (e.g b u q) gn)]; exact e.g b u q
  · by_cases hb : b = a
    · exact .inr (by rw [hb]; exact n)
    · rw [upd_ne hb] at q; exact e.new b q
theorem DX.FtoE (h : DX X W rF e m) : DX X W rE e m := PE.weak h fun σ H Q ⟨S, th, G, H0, ρ, w, eo, q⟩ =>
  ⟨S, th, G, H0, ρ, w, eo, q.mono (fun d S1 q v th1 G1 H1 w1 e1 ⟨a, h1, h2, h3, h4, h5⟩ => by
    subst h1
    obtain ⟨o, ho, hr⟩ := h5.rep h3
    obtain ⟨w2, _⟩ := w1.freeze ho h4 h3
    exact q _ th1 _ H1 w2 (freeze_ext e1 h2 ho h3) hr) fun _ _ _ z => z⟩

/-! ### names and constants -/
def eV (i : Nat) : Envr → M D := fun ρ => match ρ[i]? with
  | some (.dat d) => pure d
  | _ => fail
def eO (i : Nat) : Envr → M D := fun ρ => match ρ[i]? with
  | some (.own d) => pure d
  | _ => fail
def eC (d : D) : Envr → M D := fun _ => pure d
theorem d_var (i : Nat) {x : Str} (hN : X.N[i]? = some x := by rfl) (hv : Vis X.env.scope x := by first | exact Or.inl rfl | exact Or.inr (Or.inl rfl) | exact Or.inr (Or.inr rfl)) (hd : (x == ("__debug__" : Str)) = false := by decide)
    (hcd : (x == ("__classdict__" : Str)) = false := by decide) : DX X W rE (.Name x pos) (eV i) := PE.weak (pe_var hN hv hd hcd) fun σ H Q ⟨S, th, G, H0, ρ, w, eo, q⟩ => by
  cases hr : ρ[i]? with
  | none => simp only [eV, hr] at q; exact q.elim
  | some sl => cases sl with
    | no => simp only [eV, hr] at q; exact q.elim
    | own d => simp only [eV, hr] at q; exact q.elim
    | dat d =>
      simp only [eV, hr] at q
      obtain ⟨v, h1, h2⟩ := eo.dat i d hr
      exact ⟨v, h1, q v th G H w Ext.refl h2⟩
theorem d_own (i : Nat) {x : Str} (hN : X.N[i]? = some x := by rfl) (hv : Vis X.env.scope x := by first | exact Or.inl rfl | exact Or.inr (Or.inl rfl) | exact Or.inr (Or.inr rfl)) (hd : (x == ("__debug__" : Str)) = false := by decide)
    (hcd : (x == ("__classdict__" : Str)) = false := by decide) : DX X W rS (.Name x pos) (eO i) := PE.weak (pe_var hN hv hd hcd) fun σ H Q ⟨S, th, G, H0, ρ, w, eo, q⟩ => by
  cases hr : ρ[i]? with
  | none => simp only [eO, hr] at q; exact q.elim
  | some sl => cases sl with
    | no => simp only [eO, hr] at q; exact q.elim
    | dat d => simp only [eO, hr] at q; exact q.elim
    | own d =>
      simp only [eO, hr] at q
      obtain ⟨a, h1, h2, h3, h4, h5⟩ := eo.own i d hr
      exact ⟨_, h1, q _ th G H w Ext.refl (.inr ⟨a, rfl, h4, h5⟩)⟩
theorem d_const {v : V} {d : D} (h : PE X e (tC v)) (hr : ∀ K th G, Rep K th G v d) : DX X W rE e (eC d) := PE.weak h fun σ H Q ⟨S, th, G, H0, ρ, w, eo, q⟩ => q v th G H w Ext.refl (hr _ _ _)
theorem d_int {i : Int} {j} : DX X W rE (.Constant (.int i) j pos) (eC (.int i)) := d_const pe_int fun _ _ _ => .int i
theorem d_bl {i : Bool} {j} : DX X W rE (.Constant (.bool i) j pos) (eC (.bl i)) := d_const pe_bl fun _ _ _ => .bl i
theorem d_str {x : Str} {j} : DX X W rE (.Constant (.str x) j pos) (eC (.str x)) := d_const pe_str fun _ _ _ => .str x
theorem d_non {j} : DX X W rE (.Constant .none j pos) (eC .non) := d_const pe_non fun _ _ _ => .non
theorem d_glob {x : Str} {v : V} {u : Value} {d : D} (hg : Gl X x) (hm : X.mg x = some u) (r : RelV v u) (hr : ∀ th G, Rep X.K th G v d) (hd : (x == ("__debug__" : Str)) = false := by decide) : DX X W rE (.Name x pos) (eC d) :=
  PE.weak (pe_glob hg hm r hd) fun σ H Q ⟨S, th, G, H0, ρ, w, eo, q⟩ => q v th G H w Ext.refl (hr _ _)

/-! ### argument lists -/
def aNil : Envr → M (List D) := fun _ => pure []
def aCons (m : Envr → M D) (ms : Envr → M (List D)) : Envr → M (List D) := fun ρ => do
  let d ← m ρ
  let ds ← ms ρ
  pure (d :: ds)
theorem da_nil : DA X W [] aNil := PA.weak pa_nil fun σ H Q ⟨S, th, G, H0, ρ, w, eo, q⟩ => q [] th G H w Ext.refl .nil
theorem da_cons {ms : Envr → M (List D)} (h : DX X W rE e m) (hs : DA X W es ms) (hst : starEach (e :: es) X.env = (false, eval e X.env) :: starEach es X.env := by rfl) : DA X W (e :: es) (aCons m ms) :=
  PA.weak (pa_cons h hs hst) fun σ H Q ⟨S, th, G, H0, ρ, w, eo, q⟩ => by
    refine tD.run w eo q fun d S1 v th1 G1 H1 w1 e1 r1 eo1 q1 => ?_
    refine ⟨S1, th1, G1, H0, ρ, w1, eo1, ?_⟩
    rw [wp_bind] at q1
    exact q1.mono (fun ds S2 q2 vs th2 G2 H2 w2 e2 r2 => q2 _ th2 G2 H2 w2 (e1.trans e2) (.cons (e2.rep r1) r2)) fun _ _ _ z => z.back e1
theorem d_tup {x1} {ms : Envr → M (List D)} (h : DA X W es ms) : DX X W rE (.Tuple es x1 pos) (fun ρ => do
    let ds ← ms ρ
    if ds.length ≤ sizeLine then pure (.tup ds) else fail) := PE.weak (pe_tup h) fun σ H Q ⟨S, th, G, H0, ρ, w, eo, q⟩ => by
  refine ⟨S, th, G, H0, ρ, w, eo, ?_⟩
  rw [wp_bind] at q
  refine q.mono (fun ds S1 q1 vs th1 G1 H1 w1 e1 r1 => ?_) fun _ _ _ z => z
  split at q1
  · rename_i hz
    refine ⟨by rw [r1.length]; exact hz, fun p hp => ?_⟩
    obtain ⟨w2, e2⟩ := w1.laidG (o := .tup vs) hp
    exact q1 _ th1 _ _ w2 (e1.trans e2) (.tup (.inl (.inl upd_same)) (e2.repL r1))
  · exact q1.elim
theorem d_lst {ms : Envr → M (List D)} (h : DA X W es ms) : DX X W rF (.List es pos) (fun ρ => do
    let ds ← ms ρ
    if ds.length ≤ sizeLine then pure (.lst ds) else fail) := PE.weak (pe_lst h) fun σ H Q ⟨S, th, G, H0, ρ, w, eo, q⟩ => by
  refine ⟨S, th, G, H0, ρ, w, eo, ?_⟩
  rw [wp_bind] at q
  refine q.mono (fun ds S1 q1 vs th1 G1 H1 w1 e1 r1 => ?_) fun _ _ _ z => z
  split at q1
  · rename_i hz
    refine ⟨by rw [r1.length]; exact hz, fun p hp => ?_⟩
    obtain ⟨w2, e2⟩ := w1.laidH (o := .lst vs) hp
    refine q1 _ th1 _ _ w2 (e1.trans e2) ⟨p, rfl, e1.back hp, ?_, fun z => w1.thDom z hp, vs, upd_same, e2.repL r1⟩
    cases g : G1 p with
    | none => rfl
    | some o => rw [w1.sub _ _ g] at hp; cases hp
  · exact q1.elim

/-! ### operators by values -/
def getO {α : Type} (o : Store → Option α) : M α := fun S => match o S with
  | some a => .ok a S
  | none => .bad
@[simp] theorem getO_some {α : Type} (a : α) : (getO fun _ => some a : M α) = pure a := (rfl)
@[simp] theorem getO_none {α : Type} : (getO fun _ => none : M α) = fail := (rfl)
theorem getO_wp {α : Type} {o : Store → Option α} {Qq : α → Store → Prop} {E : Str → D → Store → Prop} (h : (getO o S).wp Qq E) : ∃ a, o S = some a ∧ Qq a S := by
  unfold getO at h
  cases e : o S with
  | none => rw [e] at h; exact h.elim
  | some a => rw [e] at h; exact ⟨a, rfl, h⟩
/-- what an operation gives -/
def OpD (X : Cx) (R : RK) (f : Value → Value → Sem Value) (g : Store → D → D → Option D) : Prop :=
  OpR X f fun x y H Q => ∃ S th G H0 d e z, Wd X.K X.mg S th G H ∧ rS X.K H0 th G H x d ∧ rS X.K H0 th G H y e ∧ g S d e = some z ∧ Post X R H th G Q z S
theorem rS.ext {v : V} {d : D} (h : rS X.K H0 th G H v d) (e : Ext th G H th1 G1 H1) (H3 : Hp) : rS X.K H3 th1 G1 H1 v d := by
  rcases h with h | ⟨a, h1, h2, h3⟩
  · exact .inl (e.rep h)
  · exact .inr ⟨a, h1, e.nth h3.ne h2, e.repAt h2 h3⟩
theorem rF.ext0 {v : V} {d : D} (h : rF X.K H1 th2 G2 H2 v d) (e : Ext th G H th1 G1 H1) : rF X.K H th2 G2 H2 v d := by
  obtain ⟨a, h1, h2, h3⟩ := h
  exact ⟨a, h1, e.back h2, h3⟩
/-- a kind that may begin earlier -/
structure RK.Back (R : RK) : Prop where
  go : ∀ {K : PySem.W.Frag} {th th1 th2 : List Addr} {G G1 G2 H H1 H2 : Hp} {v : V} {d : D}, Ext th G H th1 G1 H1 → R K H1 th2 G2 H2 v d → R K H th2 G2 H2 v d
theorem rE.bk : RK.Back rE := ⟨fun _ h => h⟩
theorem rS.bk : RK.Back rS := ⟨fun _ h => h⟩
theorem rF.bk : RK.Back rF := ⟨fun e h => by
  obtain ⟨a, h1, h2, h3⟩ := h
  exact ⟨a, h1, e.back h2, h3⟩⟩
/-- two operands, then an operation -/
theorem tOp_of (hR : RK.Back R) {r : R2} {g : Store → D → D → Option D} {Q : VK} (hr : ∀ x y H Q, (∃ S th G H0 d e z, Wd X.K X.mg S th G H ∧ rS X.K H0 th G H x d ∧ rS X.K H0 th G H y e ∧ g S d e = some z ∧ Post X R H th G Q z S) → r x y H Q)
    (q : tD X W R (fun ρ => do let x ← ma ρ; let y ← mb ρ; getO fun S => g S x y) σ H Q) : tOp r (tD X W rS ma) (tD X W rS mb) σ H Q := by
  obtain ⟨S, th, G, H0, ρ, w, eo, q⟩ := q
  refine tD.run w eo q fun d S1 v th1 G1 H1 w1 e1 r1 eo1 q1 => ?_
  refine ⟨S1, th1, G1, H0, ρ, w1, eo1, ?_⟩
  rw [wp_bind] at q1
  refine q1.mono (fun e S2 q2 y th2 G2 H2 w2 e2 r2 => hr _ _ _ _ ?_) fun _ _ _ z => z.back e1
  obtain ⟨z, hz, q3⟩ := getO_wp q2
  exact ⟨S2, th2, G2, H, d, e, z, w2, r1.ext e2 H, r2, hz, fun v th3 G3 H3 w3 e3 r3 => q3 v th3 G3 H3 w3 ((e1.trans e2).trans e3) (hR.go (e1.trans e2) r3)⟩
theorem d_bin (hR : RK.Back R) {op : Operator} {g : Store → D → D → Option D} (ho : OpD X R (binaryOp op) g) (ha : DX X W rS a ma) (hb : DX X W rS b mb) : DX X W R (.BinOp a op b pos) (fun ρ => do
    let x ← ma ρ
    let y ← mb ρ
    getO fun S => g S x y) := PE.weak (pe_op ho ha hb) fun σ H Q q => tOp_of hR (fun _ _ _ _ h => h) q
theorem d_cmp (hR : RK.Back R) {op : CmpOp} {g : Store → D → D → Option D} (ho : OpD X R (compareOp op) g) (ha : DX X W rS a ma) (hb : DX X W rS b mb) (hm : behindInMarks op b = false) : DX X W R (.Compare a [op] [b] pos) (fun ρ => do
    let x ← ma ρ
    let y ← mb ρ
    getO fun S => g S x y) := PE.weak (pe_cmpR ho ha hb hm) fun σ H Q q => tOp_of hR (fun _ _ _ _ h => h) q
end
end FB

/-! Views; operators and comparisons over data. -/
namespace FB
open PySem PySem.Spec PyProof.Rows L2

/-- what an object that changes holds now -/
def vw (S : Store) : D → D
  | .obj n => match S[n]? with
    | some (.lst ds) => .lst ds
    | _ => .obj n
  | d => d
def RV (K : PySem.W.Frag) (th : List Addr) (G H : Hp) (v : V) : D → Prop
  | .non => v = .non
  | .bl b => v = .bl b
  | .int i => v = .int i
  | .str x => v = .str x
  | .tup ds => ∃ a xs, v = .ref a ∧ SqT K H a xs ∧ RepL K th G xs ds ∧ SqT K G a xs
  | .lst ds => ∃ a xs, v = .ref a ∧ H a = some (.lst xs) ∧ RepL K th G xs ds
  | .dic kvs => ∃ a, v = .ref a ∧ ((∃ kk, Rd H a (.dT kk) ∧ RepT K th G kk kvs) ∨ ∃ kk, Rd H a (.dK kk) ∧ RepK K th G kk kvs)
  | .obj n => ∃ a, v = .ref a ∧ th[n]? = some a
  | .scr ns => ∃ a, v = .ref a ∧ SqL K H a (ns.map V.int)
section
variable {X : Cx} {K : PySem.W.Frag} {mg : Str → Option Value} {S : Store} {th : List Addr} {G H H0 : Hp} {v : V} {d : D}
theorem Wd.rd (w : Wd K mg S th G H) {a : Addr} {u : HO} (h : Rd G a u) : Rd H a u := by
  rcases h with h | ⟨o, h⟩
  · exact .inl (w.sub _ _ h)
  · exact .inr ⟨o, w.sub _ _ h⟩
theorem vw_rep (w : Wd K mg S th G H) (h : rS K H0 th G H v d) : RV K th G H v (vw S d) := by
  rcases h with h | ⟨a, rfl, h2, h3⟩
  · cases h with
    | non => exact rfl
    | bl b => exact rfl
    | int i => exact rfl
    | str x => exact rfl
    | tup h1 h2 => exact ⟨_, _, rfl, sqT_mono (fun _ _ => w.rd) h1, h2, h1⟩
    | lst h1 h2 => exact ⟨_, _, rfl, w.sub _ _ h1, h2⟩
    | dicT h1 h2 => exact ⟨_, rfl, .inl ⟨_, w.rd h1, h2⟩⟩
    | dicK h1 h2 => exact ⟨_, rfl, .inr ⟨_, w.rd h1, h2⟩⟩
    | @obj n a h1 =>
      cases e : S[n]? with
      | none =>
        have ev : vw S (.obj n) = .obj n := by simp only [vw, e]
        rw [ev]
        exact ⟨a, rfl, h1⟩
      | some mo =>
        have q := w.obj n mo a e h1
        cases mo with
        | lst ds =>
          have ev : vw S (.obj n) = .lst ds := by simp only [vw, e]
          rw [ev]
          obtain ⟨xs, q1, q2⟩ := q
          exact ⟨a, xs, rfl, q1, q2⟩
        | ins C fs =>
          have ev : vw S (.obj n) = .obj n := by simp only [vw, e]
          rw [ev]
          exact ⟨a, rfl, h1⟩
    | scr h1 => exact ⟨_, rfl, sqL_mono (fun _ _ => w.rd) h1⟩
  · cases d with
    | lst ds => obtain ⟨xs, q1, q2⟩ := h3; exact ⟨a, xs, rfl, q1, q2⟩
    | dic kvs =>
      rcases h3 with ⟨kk, q1, q2⟩ | ⟨kk, q1, q2⟩
      · exact ⟨a, rfl, .inl ⟨kk, .inl q1, q2⟩⟩
      · exact ⟨a, rfl, .inr ⟨kk, .inl q1, q2⟩⟩
    | non => exact h3.elim
    | bl _ => exact h3.elim
    | int _ => exact h3.elim
    | str _ => exact h3.elim
    | tup _ => exact h3.elim
    | obj _ => exact h3.elim
    | scr _ => exact h3.elim
end

/-! ### data of the library's kind, and == -/
mutual
def D.py : D → PyData
  | .non => .none
  | .bl b => .bool b
  | .int i => .int i
  | .str x => .str x
  | .tup xs => .tuple (D.pys xs)
  | .lst xs => .list (D.pys xs)
  | .dic _ => .none
  | .obj _ => .none
  | .scr _ => .none
def D.pys : List D → List PyData
  | [] => []
  | d :: ds => d.py :: D.pys ds
end
/-- plain data, so deep at the utmost -/
def D.okn : Nat → D → Bool
  | _, .non => true
  | _, .bl _ => true
  | _, .int _ => true
  | _, .str x => PyData.strOk x
  | n + 1, .tup xs => xs.all (D.okn n)
  | n + 1, .lst xs => xs.all (D.okn n)
  | _, _ => false
mutual
def D.eqv : D → D → Bool
  | .non, .non => true
  | .bl a, .bl b => a == b
  | .bl a, .int j => (if a then 1 else 0) == j
  | .int i, .bl b => i == (if b then 1 else 0)
  | .int i, .int j => i == j
  | .str x, .str y => x == y
  | .lst xs, .lst ys => D.eqvs xs ys
  | .tup xs, .tup ys => D.eqvs xs ys
  | _, _ => false
def D.eqvs : List D → List D → Bool
  | [], [] => true
  | x :: xs, y :: ys => D.eqv x y && D.eqvs xs ys
  | _, _ => false
end
mutual
theorem py_okn : ∀ (n : Nat) (d : D), d.okn n = true → d.py.canLay0 = true ∧ d.py.depth ≤ n
  | n, .non, _ => by simp [D.py, PyData.canLay0, PyData.depth]
  | n, .bl _, _ => by simp [D.py, PyData.canLay0, PyData.depth]
  | n, .int _, _ => by simp [D.py, PyData.canLay0, PyData.depth]
  | n, .str x, h => by
    have h : PyData.strOk x = true := by cases n <;> exact h
    simp [D.py, PyData.canLay0, PyData.depth, h]
  | n + 1, .tup xs, h => by
    obtain ⟨h1, h2⟩ := pys_okn n xs h
    simp only [D.py, PyData.canLay0, PyData.depth]
    exact ⟨h1, by omega⟩
  | n + 1, .lst xs, h => by
    obtain ⟨h1, h2⟩ := pys_okn n xs h
    simp only [D.py, PyData.canLay0, PyData.depth]
    exact ⟨h1, by omega⟩
  | 0, .tup xs, h => by simp [D.okn] at h
  | 0, .lst xs, h => by simp [D.okn] at h
  | n, .dic _, h => by cases n <;> simp [D.okn] at h
  | n, .obj _, h => by cases n <;> simp [D.okn] at h
  | n, .scr _, h => by cases n <;> simp [D.okn] at h
theorem pys_okn : ∀ (n : Nat) (ds : List D), ds.all (D.okn n) = true → PyData.canLayAll0 (D.pys ds) = true ∧ PyData.depthAll (D.pys ds) ≤ n
  | n, [], _ => by simp [D.pys, PyData.canLayAll0, PyData.depthAll]
  | n, d :: ds, h => by
    rw [List.all_cons, Bool.and_eq_true] at h
    obtain ⟨h1, h2⟩ := py_okn n d h.1
    obtain ⟨h3, h4⟩ := pys_okn n ds h.2
    simp only [D.pys, PyData.canLayAll0, PyData.depthAll, h1, h3]
    exact ⟨rfl, Nat.max_le.mpr ⟨h2, h4⟩⟩
end
theorem py_shaped {d : D} (h : d.okn 60 = true) : SeqAt.shaped d.py = true := by
  obtain ⟨h1, h2⟩ := py_okn 60 d h
  unfold SeqAt.shaped
  rw [h1, decide_eq_true (Nat.le_trans h2 (by decide))]
  rfl
mutual
theorem py_eqv : ∀ (n : Nat) (d e : D), d.okn n = true → e.okn n = true → PyData.eqv d.py e.py = d.eqv e
  | n, .tup xs, .tup ys, h1, h2 => by
    cases n with
    | zero => simp [D.okn] at h1
    | succ n => simp only [D.py, PyData.eqv, D.eqv]; exact pys_eqv n xs ys h1 h2
  | n, .lst xs, .lst ys, h1, h2 => by
    cases n with
    | zero => simp [D.okn] at h1
    | succ n => simp only [D.py, PyData.eqv, D.eqv]; exact pys_eqv n xs ys h1 h2
  | n, .dic _, _, h, _ => by cases n <;> simp [D.okn] at h
  | n, .obj _, _, h, _ => by cases n <;> simp [D.okn] at h
  | n, .scr _, _, h, _ => by cases n <;> simp [D.okn] at h
  | n, .non, .dic _, _, h | n, .bl _, .dic _, _, h | n, .int _, .dic _, _, h | n, .str _, .dic _, _, h | n, .tup _, .dic _, _, h | n, .lst _, .dic _, _, h => by cases n <;> simp [D.okn] at h
  | n, .non, .obj _, _, h | n, .bl _, .obj _, _, h | n, .int _, .obj _, _, h | n, .str _, .obj _, _, h | n, .tup _, .obj _, _, h | n, .lst _, .obj _, _, h => by cases n <;> simp [D.okn] at h
  | n, .non, .scr _, _, h | n, .bl _, .scr _, _, h | n, .int _, .scr _, _, h | n, .str _, .scr _, _, h | n, .tup _, .scr _, _, h | n, .lst _, .scr _, _, h => by cases n <;> simp [D.okn] at h
  | _, .non, .non, _, _ | _, .non, .bl _, _, _ | _, .non, .int _, _, _ | _, .non, .str _, _, _ | _, .non, .tup _, _, _ | _, .non, .lst _, _, _ => by simp [D.py, PyData.eqv, D.eqv]
  | _, .bl _, .non, _, _ | _, .bl _, .bl _, _, _ | _, .bl _, .int _, _, _ | _, .bl _, .str _, _, _ | _, .bl _, .tup _, _, _ | _, .bl _, .lst _, _, _ => by simp [D.py, PyData.eqv, D.eqv]
  | _, .int _, .non, _, _ | _, .int _, .bl _, _, _ | _, .int _, .int _, _, _ | _, .int _, .str _, _, _ | _, .int _, .tup _, _, _ | _, .int _, .lst _, _, _ => by simp [D.py, PyData.eqv, D.eqv]
  | _, .str _, .non, _, _ | _, .str _, .bl _, _, _ | _, .str _, .int _, _, _ | _, .str _, .str _, _, _ | _, .str _, .tup _, _, _ | _, .str _, .lst _, _, _ => by simp [D.py, PyData.eqv, D.eqv]
  | _, .tup _, .non, _, _ | _, .tup _, .bl _, _, _ | _, .tup _, .int _, _, _ | _, .tup _, .str _, _, _ | _, .tup _, .lst _, _, _ => by simp [D.py, PyData.eqv, D.eqv]
  | _, .lst _, .non, _, _ | _, .lst _, .bl _, _, _ | _, .lst _, .int _, _, _ | _, .lst _, .str _, _, _ | _, .lst _, .tup _, _, _ => by simp [D.py, PyData.eqv, D.eqv]
theorem pys_eqv : ∀ (n : Nat) (ds es : List D), ds.all (D.okn n) = true → es.all (D.okn n) = true → PyData.eqvAll (D.pys ds) (D.pys es) = D.eqvs ds es
  | _, [], [], _, _ => by simp [D.pys, PyData.eqvAll, D.eqvs]
  | _, [], _ :: _, _, _ => by simp [D.pys, PyData.eqvAll, D.eqvs]
  | _, _ :: _, [], _, _ => by simp [D.pys, PyData.eqvAll, D.eqvs]
  | n, d :: ds, e :: es, h1, h2 => by
    rw [List.all_cons, Bool.and_eq_true] at h1 h2
    simp only [D.pys, PyData.eqvAll, D.eqvs, py_eqv n d e h1.1 h2.1, pys_eqv n ds es h1.2 h2.2]
end
mutual
theorem Rep.dp {K : PySem.W.Frag} {th : List Addr} {G H : Hp} (hs : ∀ a o, G a = some o → H a = some o) : ∀ {n : Nat} {v : V} {d : D}, Rep K th G v d → d.okn n = true → Dp K H v d.py
  | _, _, _, .non, _ => by simp only [D.py]; exact .non
  | _, _, _, .bl b, _ => by simp only [D.py]; exact .bl b
  | _, _, _, .int i, _ => by simp only [D.py]; exact .int i
  | _, _, _, .str x, _ => by simp only [D.py]; exact .str x
  | n, _, _, .tup h1 h2, h => by
    cases n with
    | zero => simp [D.okn] at h
    | succ n => simp only [D.py]; exact .tup (sqT_mono (fun a u q => by
        rcases q with q | ⟨o, q⟩
        · exact .inl (hs _ _ q)
        · exact .inr ⟨o, hs _ _ q⟩) h1) (RepL.dp hs h2 h)
  | n, _, _, .lst h1 h2, h => by
    cases n with
    | zero => simp [D.okn] at h
    | succ n => simp only [D.py]; exact .lst (SqL.of (hs _ _ h1)) (RepL.dp hs h2 h)
  | n, _, _, .dicT _ _, h => by cases n <;> simp [D.okn] at h
  | n, _, _, .dicK _ _, h => by cases n <;> simp [D.okn] at h
  | n, _, _, .obj _, h => by cases n <;> simp [D.okn] at h
  | n, _, _, .scr _, h => by cases n <;> simp [D.okn] at h
theorem RepL.dp {K : PySem.W.Frag} {th : List Addr} {G H : Hp} (hs : ∀ a o, G a = some o → H a = some o) : ∀ {n : Nat} {vs : List V} {ds : List D}, RepL K th G vs ds → ds.all (D.okn n) = true → DpAll K H vs (D.pys ds)
  | _, _, _, .nil, _ => by simp only [D.pys]; exact .nil
  | n, _, _, .cons h1 h2, h => by
    rw [List.all_cons, Bool.and_eq_true] at h
    simp only [D.pys]
    exact .cons (Rep.dp hs h1 h.1) (RepL.dp hs h2 h.2)
end
theorem RV.dp {K : PySem.W.Frag} {th : List Addr} {G H : Hp} (hs : ∀ a o, G a = some o → H a = some o) {n : Nat} {v : V} {d : D} (r : RV K th G H v d) (h : d.okn n = true) : Dp K H v d.py := by
  cases d with
  | non => cases r; simp only [D.py]; exact .non
  | bl b => cases r; simp only [D.py]; exact .bl b
  | int i => cases r; simp only [D.py]; exact .int i
  | str x => cases r; simp only [D.py]; exact .str x
  | tup ds =>
    obtain ⟨a, xs, rfl, h1, h2, _⟩ := r
    cases n with
    | zero => simp [D.okn] at h
    | succ n => simp only [D.py]; exact .tup h1 (RepL.dp hs h2 h)
  | lst ds =>
    obtain ⟨a, xs, rfl, h1, h2⟩ := r
    cases n with
    | zero => simp [D.okn] at h
    | succ n => simp only [D.py]; exact .lst (SqL.of h1) (RepL.dp hs h2 h)
  | dic _ => cases n <;> simp [D.okn] at h
  | obj _ => cases n <;> simp [D.okn] at h
  | scr _ => cases n <;> simp [D.okn] at h

/-! ### operations on viewed data -/
def ints? : List D → Option (List Int)
  | [] => some []
  | .int i :: r => (ints? r).map (i :: ·)
  | _ :: _ => none
theorem ints?_eq : ∀ {ds : List D} {ns : List Int}, ints? ds = some ns → ds = ns.map D.int
  | [], ns, h => by cases h; rfl
  | d :: ds, ns, h => by
    cases d <;> try (simp [ints?] at h; done)
    rename_i i
    simp only [ints?, Option.map_eq_some_iff] at h
    obtain ⟨ms, h1, rfl⟩ := h
    rw [ints?_eq h1]; rfl
@[simp] theorem ints?_map (ns : List Int) : ints? (ns.map D.int) = some ns := by
  induction ns with
  | nil => rfl
  | cons n ns ih => simp [ints?, ih]
def bools? : List D → Option (List Bool)
  | [] => some []
  | .bl i :: r => (bools? r).map (i :: ·)
  | _ :: _ => none
theorem bools?_eq : ∀ {ds : List D} {ns : List Bool}, bools? ds = some ns → ds = ns.map D.bl
  | [], ns, h => by cases h; rfl
  | d :: ds, ns, h => by
    cases d <;> try (simp [bools?] at h; done)
    rename_i i
    simp only [bools?, Option.map_eq_some_iff] at h
    obtain ⟨ms, h1, rfl⟩ := h
    rw [bools?_eq h1]; rfl
@[simp] theorem bools?_map (ns : List Bool) : bools? (ns.map D.bl) = some ns := by
  induction ns with
  | nil => rfl
  | cons n ns ih => simp [bools?, ih]
def strs? : List D → Option (List Str)
  | [] => some []
  | .str i :: r => (strs? r).map (i :: ·)
  | _ :: _ => none
theorem strs?_eq : ∀ {ds : List D} {ns : List Str}, strs? ds = some ns → ds = ns.map D.str
  | [], ns, h => by cases h; rfl
  | d :: ds, ns, h => by
    cases d <;> try (simp [strs?] at h; done)
    rename_i i
    simp only [strs?, Option.map_eq_some_iff] at h
    obtain ⟨ms, h1, rfl⟩ := h
    rw [strs?_eq h1]; rfl
@[simp] theorem strs?_map (ns : List Str) : strs? (ns.map D.str) = some ns := by
  induction ns with
  | nil => rfl
  | cons n ns ih => simp [strs?, ih]

def gAdd : D → D → Option D
  | .int i, .int j => some (.int (i + j))
  | .str x, .str y => if x.length + y.length ≤ sizeLine then some (.str (x ++ y)) else none
  | .tup xs, .tup ys => if xs.length + ys.length ≤ sizeLine then some (.tup (xs ++ ys)) else none
  | .lst xs, .lst ys => if xs.length + ys.length ≤ sizeLine then some (.lst (xs ++ ys)) else none
  | _, _ => none
def gAddL : D → D → Option D
  | .lst xs, .lst ys => if xs.length + ys.length ≤ sizeLine then some (.lst (xs ++ ys)) else none
  | _, _ => none
def gSub : D → D → Option D
  | .int i, .int j => some (.int (i - j))
  | _, _ => none
def gMul : D → D → Option D
  | .int i, .int j => if (-(2 ^ 64) < i ∧ i < 2 ^ 64) ∨ (-(2 ^ 64) < j ∧ j < 2 ^ 64) then some (.int (i * j)) else none
  | .tup xs, .int k => if xs ≠ [] ∧ 2 ≤ k ∧ k ≤ 1000 ∧ xs.length ≤ 1000 then some (.tup (List.replicate k.toNat xs).flatten) else none
  | .lst xs, .int k => if -(2 ^ 63) ≤ k ∧ k < 2 ^ 63 ∧ xs.length * k.toNat ≤ sizeLine then some (.lst (List.replicate k.toNat xs).flatten) else none
  | _, _ => none
def gMulL : D → D → Option D
  | .lst xs, .int k => if -(2 ^ 63) ≤ k ∧ k < 2 ^ 63 ∧ xs.length * k.toNat ≤ sizeLine then some (.lst (List.replicate k.toNat xs).flatten) else none
  | _, _ => none
def gDiv : D → D → Option D
  | .int i, .int j => if 0 < j ∧ j < 1073741824 then some (.int (i / j)) else none
  | _, _ => none
def gMod : D → D → Option D
  | .int i, .int j => if 0 < j then some (.int (i % j)) else none
  | _, _ => none
def gPow : D → D → Option D
  | .int i, .int j => if 0 ≤ j ∧ j ≤ 1000000 ∧ i.natAbs < 2 ^ 64 then some (.int (i ^ j.toNat)) else none
  | _, _ => none
def gLt : D → D → Option D
  | .int i, .int j => some (.bl (decide (i < j)))
  | .tup xs, .tup ys => match ints? xs, ints? ys with
    | some ns, some ms => some (.bl (HT.lexLt ns ms))
    | _, _ => none
  | _, _ => none
def gLe : D → D → Option D
  | .int i, .int j => some (.bl (decide (i ≤ j)))
  | _, _ => none
def gGt : D → D → Option D
  | .int i, .int j => some (.bl (decide (j < i)))
  | _, _ => none
def gGe : D → D → Option D
  | .int i, .int j => some (.bl (decide (j ≤ i)))
  | _, _ => none
def gEq (d e : D) : Option D := if d.okn 60 = true ∧ e.okn 60 = true then some (.bl (d.eqv e)) else none
def gNe (d e : D) : Option D := if d.okn 60 = true ∧ e.okn 60 = true then some (.bl (!d.eqv e)) else none
def D.isNon : D → Bool
  | .non => true
  | _ => false
def gIsN (d e : D) : Option D := match e with
  | .non => some (.bl d.isNon)
  | _ => none
def gNotN (d e : D) : Option D := match e with
  | .non => some (.bl (!d.isNon))
  | _ => none
def isIn (d : D) (ds : List D) : Bool := ds.any fun z => z.eqv d
def gIn : D → D → Option D
  | d, .lst ds => if d.okn 60 = true ∧ ds.all (D.okn 59) = true then some (.bl (isIn d ds)) else none
  | d, .tup ds => if d.okn 60 = true ∧ ds.all (D.okn 59) = true then some (.bl (isIn d ds)) else none
  | .str x, .str y => some (.bl (!(Builtin.Str.occurrences y x 0 y.length 1).isEmpty))
  | _, _ => none
def gNotIn : D → D → Option D
  | d, .lst ds => if d.okn 60 = true ∧ ds.all (D.okn 59) = true then some (.bl (!isIn d ds)) else none
  | d, .tup ds => if d.okn 60 = true ∧ ds.all (D.okn 59) = true then some (.bl (!isIn d ds)) else none
  | .str x, .str y => some (.bl (!(!(Builtin.Str.occurrences y x 0 y.length 1).isEmpty)))
  | _, _ => none
/-- with the objects' contents -/
abbrev onV (g : D → D → Option D) : Store → D → D → Option D := fun S d e => g (vw S d) (vw S e)
section
variable {X : Cx} {S : Store} {th : List Addr} {G H H0 : Hp} {v : V} {d : D}
/-- an operation, by its cases on viewed data -/
theorem opd_of {R : RK} {f : Value → Value → Sem Value} {g : D → D → Option D} {r : R2} (ho : OpR X f r)
    (h : ∀ (S : Store) (th : List Addr) (G H : Hp) (x y : V) (d e z : D) (Q : VK), Wd X.K X.mg S th G H → RV X.K th G H x d → RV X.K th G H y e → g d e = some z → Post X R H th G Q z S → r x y H Q) : OpD X R f (onV g) := by
  intro pins s σ H x y v u Q I rx ry hh
  obtain ⟨S, th, G, H0, d, e, z, w, r1, r2, hz, q⟩ := hh
  exact ho pins s σ H x y v u Q I rx ry (h S th G H x y _ _ z Q w (vw_rep w r1) (vw_rep w r2) hz q)
theorem Post.same {z : D} {Q : VK} (w : Wd X.K X.mg S th G H) (q : Post X rE H th G Q z S) (r : Rep X.K th G v z) : Q v H := q v th G H w Ext.refl r
theorem Post.tup {xs : List V} {ds : List D} {Q : VK} (w : Wd X.K X.mg S th G H) (q : Post X rE H th G Q (.tup ds) S) (r : RepL X.K th G xs ds) : ∀ p, H p = none → Q (.ref p) (upd H p (.tup xs)) := fun p hp => by
  obtain ⟨w2, e2⟩ := w.laidG (o := .tup xs) hp
  exact q _ th _ _ w2 e2 (.tup (.inl (.inl upd_same)) (e2.repL r))
theorem Post.lst {xs : List V} {ds : List D} {Q : VK} (w : Wd X.K X.mg S th G H) (q : Post X rE H th G Q (.lst ds) S) (r : RepL X.K th G xs ds) : ∀ p, H p = none → Q (.ref p) (upd H p (.lst xs)) := fun p hp => by
  obtain ⟨w2, e2⟩ := w.laidG (o := .lst xs) hp
  exact q _ th _ _ w2 e2 (.lst upd_same (e2.repL r))
theorem Wd.gfree (w : Wd X.K X.mg S th G H) {p : Addr} (hp : H p = none) : G p = none := by
  cases g : G p with
  | none => rfl
  | some o => rw [w.sub _ _ g] at hp; cases hp
theorem Post.lstF {xs : List V} {ds : List D} {Q : VK} (w : Wd X.K X.mg S th G H) (q : Post X rF H th G Q (.lst ds) S) (r : RepL X.K th G xs ds) : ∀ p, H p = none → Q (.ref p) (upd H p (.lst xs)) := fun p hp => by
  obtain ⟨w2, e2⟩ := w.laidH (o := .lst xs) hp
  exact q _ th _ _ w2 e2 ⟨p, rfl, hp, w.gfree hp, fun z => w.thDom z hp, xs, upd_same, e2.repL r⟩
theorem o_add : OpD X rE (binaryOp .Add) (onV gAdd) := opd_of (op_add.or (op_add_str.or (op_catA.or op_cat))) fun S th G H x y d e z Q w r1 r2 hz q => by
  cases d <;> cases e <;> try (cases hz; done)
  · cases hz; cases r1; cases r2; exact .inl ⟨_, _, rfl, rfl, q.same w (.int _)⟩
  · simp only [gAdd] at hz
    split at hz
    · rename_i hl
      cases hz; cases r1; cases r2; exact .inr (.inl ⟨_, _, rfl, rfl, hl, q.same w (.str _)⟩)
    · cases hz
  · simp only [gAdd] at hz
    split at hz
    · rename_i xs ys hl
      cases hz
      obtain ⟨a, us, rfl, h1, h2, g1⟩ := r1
      obtain ⟨b, ws, rfl, h3, h4, g2⟩ := r2
      refine .inr (.inr (.inl ⟨a, b, us, ws, rfl, rfl, h1, h3, by rw [h2.length, h4.length]; exact hl, fun e => ?_, fun _ e => ?_, fun _ _ => Post.tup w q (h2.append h4)⟩))
      · subst e; cases h2; exact q.same w (.tup g2 h4)
      · subst e; cases h4; refine q.same w (.tup g1 ?_); rw [List.append_nil]; exact h2
    · cases hz
  · simp only [gAdd] at hz
    split at hz
    · rename_i xs ys hl
      cases hz
      obtain ⟨a, us, rfl, h1, h2⟩ := r1
      obtain ⟨b, ws, rfl, h3, h4⟩ := r2
      exact .inr (.inr (.inr ⟨a, b, us, ws, rfl, rfl, h1, h3, by rw [h2.length, h4.length]; exact hl, Post.lst w q (h2.append h4)⟩))
    · cases hz
theorem o_addL : OpD X rF (binaryOp .Add) (onV gAddL) := opd_of op_cat fun S th G H x y d e z Q w r1 r2 hz q => by
  cases d <;> cases e <;> try (cases hz; done)
  simp only [gAddL] at hz
  split at hz
  · rename_i xs ys hl
    cases hz
    obtain ⟨a, us, rfl, h1, h2⟩ := r1
    obtain ⟨b, ws, rfl, h3, h4⟩ := r2
    exact ⟨a, b, us, ws, rfl, rfl, h1, h3, by rw [h2.length, h4.length]; exact hl, Post.lstF w q (h2.append h4)⟩
  · cases hz
theorem o_sub : OpD X rE (binaryOp .Sub) (onV gSub) := opd_of op_sub fun S th G H x y d e z Q w r1 r2 hz q => by
  cases d <;> cases e <;> try (cases hz; done)
  cases hz; cases r1; cases r2; exact ⟨_, _, rfl, rfl, q.same w (.int _)⟩
theorem RepL.rep {xs : List V} {ds : List D} {K : PySem.W.Frag} (h : RepL K th G xs ds) : ∀ k : Nat, RepL K th G (List.replicate k xs).flatten (List.replicate k ds).flatten
  | 0 => by simp only [List.replicate_zero, List.flatten_nil]; exact .nil
  | k + 1 => by rw [List.replicate_succ, List.replicate_succ, List.flatten_cons, List.flatten_cons]; exact h.append (RepL.rep h k)
theorem o_mul : OpD X rE (binaryOp .Mult) (onV gMul) := opd_of (op_mul.or (op_repT.or op_rep)) fun S th G H x y d e z Q w r1 r2 hz q => by
  cases d <;> cases e <;> try (cases hz; done)
  · simp only [gMul] at hz
    split at hz
    · rename_i hl
      cases hz; cases r1; cases r2; exact .inl ⟨_, _, rfl, rfl, hl, q.same w (.int _)⟩
    · cases hz
  · simp only [gMul] at hz
    split at hz
    · rename_i hl
      cases hz
      obtain ⟨a, us, rfl, h1, h2, g1⟩ := r1
      cases r2
      obtain ⟨l1, l2, l3, l4⟩ := hl
      exact .inr (.inl ⟨a, _, us, rfl, rfl, h1, fun e => l1 (by subst e; cases h2; rfl), l2, l3, by rw [h2.length]; exact l4, Post.tup w q (h2.rep _)⟩)
    · cases hz
  · simp only [gMul] at hz
    split at hz
    · rename_i hl
      cases hz
      obtain ⟨a, us, rfl, h1, h2⟩ := r1
      cases r2
      obtain ⟨l1, l2, l3⟩ := hl
      exact .inr (.inr ⟨a, _, us, rfl, rfl, h1, l1, l2, by rw [h2.length]; exact l3, Post.lst w q (h2.rep _)⟩)
    · cases hz
theorem o_mulL : OpD X rF (binaryOp .Mult) (onV gMulL) := opd_of op_rep fun S th G H x y d e z Q w r1 r2 hz q => by
  cases d <;> cases e <;> try (cases hz; done)
  simp only [gMulL] at hz
  split at hz
  · rename_i hl
    cases hz
    obtain ⟨a, us, rfl, h1, h2⟩ := r1
    cases r2
    obtain ⟨l1, l2, l3⟩ := hl
    exact ⟨a, _, us, rfl, rfl, h1, l1, l2, by rw [h2.length]; exact l3, Post.lstF w q (h2.rep _)⟩
  · cases hz
theorem o_div : OpD X rE (binaryOp .FloorDiv) (onV gDiv) := opd_of op_fdiv fun S th G H x y d e z Q w r1 r2 hz q => by
  cases d <;> cases e <;> try (cases hz; done)
  simp only [gDiv] at hz
  split at hz
  · rename_i hl
    cases hz; cases r1; cases r2; exact ⟨_, _, rfl, rfl, hl, q.same w (.int _)⟩
  · cases hz
theorem o_mod : OpD X rE (binaryOp .Mod) (onV gMod) := opd_of op_mod fun S th G H x y d e z Q w r1 r2 hz q => by
  cases d <;> cases e <;> try (cases hz; done)
  simp only [gMod] at hz
  split at hz
  · rename_i hl
    cases hz; cases r1; cases r2; exact ⟨_, _, rfl, rfl, hl, q.same w (.int _)⟩
  · cases hz
theorem o_pow : OpD X rE (binaryOp .Pow) (onV gPow) := opd_of op_pow fun S th G H x y d e z Q w r1 r2 hz q => by
  cases d <;> cases e <;> try (cases hz; done)
  simp only [gPow] at hz
  split at hz
  · rename_i hl
    cases hz; cases r1; cases r2; exact ⟨_, _, rfl, rfl, hl, q.same w (.int _)⟩
  · cases hz
theorem o_lt (hu : X.A.units < cLine) : OpD X rE (compareOp .Lt) (onV gLt) := opd_of (op_lt.or (op_ltT hu)) fun S th G H x y d e z Q w r1 r2 hz q => by
  cases d <;> cases e <;> try (cases hz; done)
  · cases hz; cases r1; cases r2; exact .inl ⟨_, _, rfl, rfl, q.same w (.bl _)⟩
  · rename_i xs ys
    simp only [gLt] at hz
    split at hz
    · rename_i ns ms e1 e2
      cases hz
      obtain ⟨a, us, rfl, h1, h2, g1⟩ := r1
      obtain ⟨b, ws, rfl, h3, h4, g2⟩ := r2
      rw [ints?_eq e1] at h2
      rw [ints?_eq e2] at h4
      rw [h2.ints] at h1
      rw [h4.ints] at h3
      exact .inr ⟨a, b, ns, ms, rfl, rfl, h1, h3, q.same w (.bl _)⟩
    · cases hz
theorem o_le : OpD X rE (compareOp .LtE) (onV gLe) := opd_of op_le fun S th G H x y d e z Q w r1 r2 hz q => by
  cases d <;> cases e <;> try (cases hz; done)
  cases hz; cases r1; cases r2; exact ⟨_, _, rfl, rfl, q.same w (.bl _)⟩
theorem o_gt : OpD X rE (compareOp .Gt) (onV gGt) := opd_of op_gt fun S th G H x y d e z Q w r1 r2 hz q => by
  cases d <;> cases e <;> try (cases hz; done)
  cases hz; cases r1; cases r2; exact ⟨_, _, rfl, rfl, q.same w (.bl _)⟩
theorem o_ge : OpD X rE (compareOp .GtE) (onV gGe) := opd_of op_ge fun S th G H x y d e z Q w r1 r2 hz q => by
  cases d <;> cases e <;> try (cases hz; done)
  cases hz; cases r1; cases r2; exact ⟨_, _, rfl, rfl, q.same w (.bl _)⟩
theorem o_eq (hu : X.A.units + 64 < cLine) : OpD X rE (compareOp .Eq) (onV gEq) := opd_of (op_eqD hu) fun S th G H x y d e z Q w r1 r2 hz q => by
  simp only [gEq] at hz
  split at hz
  · rename_i hl
    cases hz
    refine ⟨d.py, e.py, r1.dp w.sub hl.1, r2.dp w.sub hl.2, py_shaped hl.1, py_shaped hl.2, ?_⟩
    rw [py_eqv 60 d e hl.1 hl.2]
    exact q.same w (.bl _)
  · cases hz
theorem o_ne (hu : X.A.units + 64 < cLine) : OpD X rE (compareOp .NotEq) (onV gNe) := opd_of (op_neD hu) fun S th G H x y d e z Q w r1 r2 hz q => by
  simp only [gNe] at hz
  split at hz
  · rename_i hl
    cases hz
    refine ⟨d.py, e.py, r1.dp w.sub hl.1, r2.dp w.sub hl.2, py_shaped hl.1, py_shaped hl.2, ?_⟩
    rw [py_eqv 60 d e hl.1 hl.2]
    exact q.same w (.bl _)
  · cases hz
theorem RV.nonB {K : PySem.W.Frag} {x : V} {d : D} (r : RV K th G H x d) : decide (x = V.non) = d.isNon := by
  cases d with
  | non => cases r; rfl
  | bl _ => cases r; rfl
  | int _ => cases r; rfl
  | str _ => cases r; rfl
  | tup _ => obtain ⟨a, xs, rfl, _⟩ := r; rfl
  | lst _ => obtain ⟨a, xs, rfl, _⟩ := r; rfl
  | dic _ => obtain ⟨a, rfl, _⟩ := r; rfl
  | obj _ => obtain ⟨a, rfl, _⟩ := r; rfl
  | scr _ => obtain ⟨a, rfl, _⟩ := r; rfl
theorem o_isN : OpD X rE (compareOp .Is) (onV gIsN) := opd_of op_isN fun S th G H x y d e z Q w r1 r2 hz q => by
  cases e <;> try (cases hz; done)
  simp only [gIsN] at hz
  cases hz
  cases r2
  refine ⟨rfl, ?_⟩
  rw [r1.nonB]
  exact q.same w (.bl _)
theorem o_notN : OpD X rE (compareOp .IsNot) (onV gNotN) := opd_of op_notN fun S th G H x y d e z Q w r1 r2 hz q => by
  cases e <;> try (cases hz; done)
  simp only [gNotN] at hz
  cases hz
  cases r2
  refine ⟨rfl, ?_⟩
  rw [r1.nonB]
  exact q.same w (.bl _)
/-- x in a tuple of data -/
theorem op_inT (hu : X.A.units + 65 < cLine) : OpR X (compareOp .In) (fun x y H Q => ∃ d ds, Dp X.K H x d ∧ Dp X.K H y (.tuple ds) ∧ SeqAt.shaped d = true ∧ SeqAt.shaped (.list ds) = true ∧ Q (.bl (ds.any fun z => PyData.eqv z d)) H) := by
  intro pins s σ H x y v u Q I rx ry ⟨d, ds, hd, he, sd, se, q⟩
  obtain ⟨as, r1⟩ := Dp.reads I d x v hd rx
  obtain ⟨bs, r2⟩ := Dp.reads I (.tuple ds) y u he ry
  have hc : PyData.canLayAll0 ds = true := SeqAt.canLay_of_shaped se
  exact SeqAt.in_tuple_reads r2 r1 hc (SeqAt.canLay_of_shaped sd) (PyProof.Rows.room_in_shaped sd hu) ⟨.bl _, H, I, rfl, q⟩
theorem op_notInT (hu : X.A.units + 65 < cLine) : OpR X (compareOp .NotIn) (fun x y H Q => ∃ d ds, Dp X.K H x d ∧ Dp X.K H y (.tuple ds) ∧ SeqAt.shaped d = true ∧ SeqAt.shaped (.list ds) = true ∧ Q (.bl (!ds.any fun z => PyData.eqv z d)) H) := by
  intro pins s σ H x y v u Q I rx ry ⟨d, ds, hd, he, sd, se, q⟩
  obtain ⟨as, r1⟩ := Dp.reads I d x v hd rx
  obtain ⟨bs, r2⟩ := Dp.reads I (.tuple ds) y u he ry
  have hc : PyData.canLayAll0 ds = true := SeqAt.canLay_of_shaped se
  exact SeqAt.notIn_tuple_reads r2 r1 hc (SeqAt.canLay_of_shaped sd) (PyProof.Rows.room_in_shaped sd hu) ⟨.bl _, H, I, rfl, q⟩
theorem okn_up : ∀ (n : Nat) (d : D), d.okn n = true → d.okn (n + 1) = true
  | n, .non, _ => by cases n <;> rfl
  | n, .bl _, _ => by cases n <;> rfl
  | n, .int _, _ => by cases n <;> rfl
  | n, .str x, h => by cases n <;> exact h
  | 0, .tup xs, h => by simp [D.okn] at h
  | 0, .lst xs, h => by simp [D.okn] at h
  | n + 1, .tup xs, h => by
    show xs.all (D.okn (n + 1)) = true
    rw [List.all_eq_true]
    intro x hx
    have h : xs.all (D.okn n) = true := h
    exact okn_up n x (List.all_eq_true.mp h x hx)
  | n + 1, .lst xs, h => by
    show xs.all (D.okn (n + 1)) = true
    rw [List.all_eq_true]
    intro x hx
    have h : xs.all (D.okn n) = true := h
    exact okn_up n x (List.all_eq_true.mp h x hx)
  | n, .dic _, h => by cases n <;> simp [D.okn] at h
  | n, .obj _, h => by cases n <;> simp [D.okn] at h
  | n, .scr _, h => by cases n <;> simp [D.okn] at h
theorem any_py {d : D} (hd : d.okn 60 = true) : ∀ {ds : List D}, ds.all (D.okn 59) = true → ((D.pys ds).any fun z => PyData.eqv z d.py) = isIn d ds
  | [], _ => rfl
  | e :: es, h => by
    rw [List.all_cons, Bool.and_eq_true] at h
    show (PyData.eqv e.py d.py || _) = (e.eqv d || _)
    rw [py_eqv 60 e d (okn_up _ _ h.1) hd, any_py hd h.2]
    rfl
theorem in_lists {ds : List D} (h : ds.all (D.okn 59) = true) : SeqAt.shaped (.list (D.pys ds)) = true := by
  have h2 : (D.lst ds).okn 60 = true := h
  have := py_shaped h2
  simpa only [D.py] using this
theorem o_in (hu : X.A.units + 65 < cLine) : OpD X rE (compareOp .In) (onV gIn) := opd_of ((op_inD hu).or ((op_inT hu).or op_in_str)) fun S th G H x y d e z Q w r1 r2 hz q => by
  cases e <;> try (cases d <;> cases hz; done)
  · cases d <;> try (cases hz; done)
    cases hz; cases r1; cases r2; exact .inr (.inr ⟨_, _, rfl, rfl, q.same w (.bl _)⟩)
  · rename_i ds
    have hz : (if d.okn 60 = true ∧ ds.all (D.okn 59) = true then some (D.bl (isIn d ds)) else none) = some z := by cases d <;> exact hz
    split at hz
    · rename_i hl
      cases hz
      have hdp := r2.dp (n := 60) w.sub hl.2
      simp only [D.py] at hdp
      refine .inr (.inl ⟨d.py, D.pys ds, r1.dp w.sub hl.1, hdp, py_shaped hl.1, in_lists hl.2, ?_⟩)
      rw [any_py hl.1 hl.2]
      exact q.same w (.bl _)
    · cases hz
  · rename_i ds
    have hz : (if d.okn 60 = true ∧ ds.all (D.okn 59) = true then some (D.bl (isIn d ds)) else none) = some z := by cases d <;> exact hz
    split at hz
    · rename_i hl
      cases hz
      have hdp := r2.dp (n := 60) w.sub hl.2
      simp only [D.py] at hdp
      refine .inl ⟨d.py, D.pys ds, r1.dp w.sub hl.1, hdp, py_shaped hl.1, in_lists hl.2, ?_⟩
      rw [any_py hl.1 hl.2]
      exact q.same w (.bl _)
    · cases hz
theorem o_notIn (hu : X.A.units + 65 < cLine) : OpD X rE (compareOp .NotIn) (onV gNotIn) := opd_of ((op_notInD hu).or ((op_notInT hu).or op_notin_str)) fun S th G H x y d e z Q w r1 r2 hz q => by
  cases e <;> try (cases d <;> cases hz; done)
  · cases d <;> try (cases hz; done)
    cases hz; cases r1; cases r2; exact .inr (.inr ⟨_, _, rfl, rfl, q.same w (.bl _)⟩)
  · rename_i ds
    have hz : (if d.okn 60 = true ∧ ds.all (D.okn 59) = true then some (D.bl (!isIn d ds)) else none) = some z := by cases d <;> exact hz
    split at hz
    · rename_i hl
      cases hz
      have hdp := r2.dp (n := 60) w.sub hl.2
      simp only [D.py] at hdp
      refine .inr (.inl ⟨d.py, D.pys ds, r1.dp w.sub hl.1, hdp, py_shaped hl.1, in_lists hl.2, ?_⟩)
      rw [any_py hl.1 hl.2]
      exact q.same w (.bl _)
    · cases hz
  · rename_i ds
    have hz : (if d.okn 60 = true ∧ ds.all (D.okn 59) = true then some (D.bl (!isIn d ds)) else none) = some z := by cases d <;> exact hz
    split at hz
    · rename_i hl
      cases hz
      have hdp := r2.dp (n := 60) w.sub hl.2
      simp only [D.py] at hdp
      refine .inl ⟨d.py, D.pys ds, r1.dp w.sub hl.1, hdp, py_shaped hl.1, in_lists hl.2, ?_⟩
      rw [any_py hl.1 hl.2]
      exact q.same w (.bl _)
    · cases hz
end
end FB

/-! Unary, and, or, not, chains, tests, conditional expressions, subscripts, slices, built-in calls. -/
namespace FB
open PySem PySem.Spec PyProof.Rows L2
section
variable {X : Cx} {W : WX} {R : RK} {e a b c : Expr} {es rest : List Expr} {m ma mb mc : Envr → M D} {S : Store} {th : List Addr} {G H H0 : Hp} {σ : L2.St} {ρ : Envr} {pos : Pos}

def asB : D → M Bool
  | .bl b => pure b
  | _ => fail
theorem asB_wp {d : D} {Qb : Bool → Store → Prop} {E : Str → D → Store → Prop} (h : (asB d S).wp Qb E) : ∃ b, d = .bl b ∧ Qb b S := by
  cases d <;> try exact h.elim
  exact ⟨_, rfl, h⟩
/-! ### one operand -/
def UnD (X : Cx) (R : RK) (f : Value → Sem Value) (g : D → Option D) : Prop :=
  UnR X f fun x H Q => ∃ S th G d z, Wd X.K X.mg S th G H ∧ RV X.K th G H x d ∧ g d = some z ∧ Post X R H th G Q z S
theorem d_un (hR : RK.Back R) {op : UnaryOp} {g : D → Option D} (ho : UnD X R (unaryOp op) g) (ha : DX X W rS a m) : DX X W R (.UnaryOp op a pos) (fun ρ => do
    let x ← m ρ
    getO fun S => g (vw S x)) := PE.weak (pe_un ho ha) fun σ H Q ⟨S, th, G, H0, ρ, w, eo, q⟩ => by
  refine tD.run w eo q fun d S1 v th1 G1 H1 w1 e1 r1 eo1 q1 => ?_
  obtain ⟨z, hz, q3⟩ := getO_wp q1
  exact ⟨S1, th1, G1, _, z, w1, vw_rep w1 r1, hz, fun v th3 G3 H3 w3 e3 r3 => q3 v th3 G3 H3 w3 (e1.trans e3) (hR.go e1 r3)⟩
def gNeg : D → Option D
  | .int i => some (.int (-i))
  | _ => none
theorem o_neg : UnD X rE (unaryOp .USub) gNeg := fun pins s σ H x v Q I rx ⟨S, th, G, d, z, w, r, hz, q⟩ => un_neg pins s σ H x v Q I rx (by
  cases d <;> try (cases hz; done)
  cases hz; cases r
  exact ⟨_, rfl, q.same w (.int _)⟩)

/-! ### bools as values -/
theorem d_one {op} (h : DX X W rE a m) : DX X W rE (.BoolOp op [a] pos) m := pe_one h
theorem d_and (ha : DX X W rE a ma) (hb : DX X W rE (.BoolOp .And (b :: rest) pos) mb) : DX X W rE (.BoolOp .And (a :: b :: rest) pos) (fun ρ => do
    let x ← ma ρ
    let t ← asB x
    if t then mb ρ else pure (.bl false)) := PE.weak (pe_and ha hb) fun σ H Q ⟨S, th, G, H0, ρ, w, eo, q⟩ => by
  refine tD.run w eo q fun d S1 v th1 G1 H1 w1 e1 r1 eo1 q1 => ?_
  rw [wp_bind] at q1
  obtain ⟨t, rfl, q2⟩ := asB_wp q1
  cases r1
  refine ⟨t, rfl, ?_⟩
  cases t with
  | false => exact q2 _ th1 G1 H1 w1 e1 (.bl false)
  | true => exact ⟨S1, th1, G1, H0, ρ, w1, eo1, q2.mono (fun d S2 q3 v th2 G2 H2 w2 e2 r2 => q3 v th2 G2 H2 w2 (e1.trans e2) r2) fun _ _ _ z => z.back e1⟩
theorem d_or (ha : DX X W rE a ma) (hb : DX X W rE (.BoolOp .Or (b :: rest) pos) mb) : DX X W rE (.BoolOp .Or (a :: b :: rest) pos) (fun ρ => do
    let x ← ma ρ
    let t ← asB x
    if t then pure (.bl true) else mb ρ) := PE.weak (pe_or ha hb) fun σ H Q ⟨S, th, G, H0, ρ, w, eo, q⟩ => by
  refine tD.run w eo q fun d S1 v th1 G1 H1 w1 e1 r1 eo1 q1 => ?_
  rw [wp_bind] at q1
  obtain ⟨t, rfl, q2⟩ := asB_wp q1
  cases r1
  refine ⟨t, rfl, ?_⟩
  cases t with
  | true => exact q2 _ th1 G1 H1 w1 e1 (.bl true)
  | false => exact ⟨S1, th1, G1, H0, ρ, w1, eo1, q2.mono (fun d S2 q3 v th2 G2 H2 w2 e2 r2 => q3 v th2 G2 H2 w2 (e1.trans e2) r2) fun _ _ _ z => z.back e1⟩
theorem d_not (ha : DX X W rE a ma) : DX X W rE (.UnaryOp .Not a pos) (fun ρ => do
    let x ← ma ρ
    let t ← asB x
    pure (.bl (!t))) := PE.weak (pe_not ha) fun σ H Q ⟨S, th, G, H0, ρ, w, eo, q⟩ => by
  refine tD.run w eo q fun d S1 v th1 G1 H1 w1 e1 r1 eo1 q1 => ?_
  rw [wp_bind] at q1
  obtain ⟨t, rfl, q2⟩ := asB_wp q1
  cases r1
  exact ⟨t, rfl, q2 _ th1 G1 H1 w1 e1 (.bl _)⟩
/-- a op b op' c -/
theorem chain_of {g g' : Store → D → D → Option D} {r r' : R2} {Q : VK}
    (hr : ∀ x y H Q, (∃ S th G H0 d e z, Wd X.K X.mg S th G H ∧ rS X.K H0 th G H x d ∧ rS X.K H0 th G H y e ∧ g S d e = some z ∧ Post X rE H th G Q z S) → r x y H Q)
    (hr' : ∀ x y H Q, (∃ S th G H0 d e z, Wd X.K X.mg S th G H ∧ rS X.K H0 th G H x d ∧ rS X.K H0 th G H y e ∧ g' S d e = some z ∧ Post X rE H th G Q z S) → r' x y H Q)
    (q : tD X W rE (fun ρ => do let x ← ma ρ; let y ← mb ρ; let z ← getO fun S => g S x y; let t ← asB z; if t then (do let u ← mc ρ; getO fun S => g' S y u) else pure (.bl false)) σ H Q) :
    tChain r r' (tD X W rS ma) (tD X W rS mb) (tD X W rS mc) σ H Q := by
  obtain ⟨S, th, G, H0, ρ, w, eo, q⟩ := q
  refine tD.run w eo q fun d S1 x th1 G1 H1 w1 e1 r1 eo1 q1 => ?_
  refine ⟨S1, th1, G1, H0, ρ, w1, eo1, ?_⟩
  rw [wp_bind] at q1
  refine q1.mono (fun e S2 q2 y th2 G2 H2 w2 e2 r2 => hr _ _ _ _ ?_) fun _ _ _ z => z.back e1
  rw [wp_bind] at q2
  obtain ⟨z, hz, q3⟩ := getO_wp q2
  rw [wp_bind] at q3
  obtain ⟨t, rfl, q4⟩ := asB_wp q3
  refine ⟨S2, th2, G2, H, d, e, _, w2, r1.ext e2 H, r2, hz, fun v th3 G3 H3 w3 e3 r3 => ?_⟩
  cases r3
  refine ⟨t, rfl, ?_⟩
  cases t with
  | false =>
    rw [if_neg Bool.false_ne_true]
    exact q4 _ th3 G3 H3 w3 ((e1.trans e2).trans e3) (.bl false)
  | true =>
    rw [if_pos rfl]
    have q5 : ((mc ρ >>= fun u => getO fun S => g' S e u) S2).wp (Post X rE H th G Q) (PostX X (fun c d h => W c d σ h) H th G) := q4
    rw [wp_bind] at q5
    refine ⟨S2, th3, G3, H0, ρ, w3, (eo1.ext e2).ext e3, ?_⟩
    refine q5.mono (fun u S4 q6 yu th4 G4 H4 w4 e4 r4 => hr' _ _ _ _ ?_) fun _ _ _ z => z.back ((e1.trans e2).trans e3)
    obtain ⟨z2, hz2, q7⟩ := getO_wp q6
    exact ⟨S4, th4, G4, H, e, u, z2, w4, (r2.ext e3 H).ext e4 H, r4, hz2, fun v th5 G5 H5 w5 e5 r5 => q7 v th5 G5 H5 w5 (((e1.trans e2).trans e3).trans (e4.trans e5)) r5⟩
theorem d_chain {op op' : CmpOp} {g g' : Store → D → D → Option D} (ho : OpD X rE (compareOp op) g) (ho' : OpD X rE (compareOp op') g') (ha : DX X W rS a ma) (hb : DX X W rS b mb) (hc : DX X W rS c mc) (hm : lastMarks [op, op'] [b, c] = false := by with_unfolding_all rfl) :
    DX X W rE (.Compare a [op, op'] [b, c] pos) (fun ρ => do
      let x ← ma ρ
      let y ← mb ρ
      let z ← getO fun S => g S x y
      let t ← asB z
      if t then (do let u ← mc ρ; getO fun S => g' S y u) else pure (.bl false)) :=
  PE.weak (pe_chain ho ho' ha hb hc hm) fun σ H Q q => chain_of (fun _ _ _ _ h => h) (fun _ _ _ _ h => h) q

/-! ### tests -/
theorem tDT.run {α : Type} {m : Envr → M Bool} {k : Bool → M α} {Qb : α → Store → Prop} {Q : Bool → Hp → Prop} (w : Wd X.K X.mg S th G H) (eo : EnvOk X.K th G H H0 σ ρ)
    (h : ((m ρ >>= k) S).wp Qb (PostX X (fun c d h => W c d σ h) H th G))
    (hk : ∀ d S1 th1 G1 H1, Wd X.K X.mg S1 th1 G1 H1 → Ext th G H th1 G1 H1 → EnvOk X.K th1 G1 H1 H0 σ ρ → (k d S1).wp Qb (PostX X (fun c d h => W c d σ h) H th G) → Q d H1) : tDT X W m σ H Q := by
  refine ⟨S, th, G, H0, ρ, w, eo, ?_⟩
  rw [wp_bind] at h
  exact h.mono (fun d S1 q th1 G1 H1 w1 e1 => hk d S1 th1 G1 H1 w1 e1 (eo.ext e1) q) fun _ _ _ z => z
theorem tB_of {Q : Bool → Hp → Prop} (q : tDT X W (fun ρ => do let x ← m ρ; asB x) σ H Q) : tD X W rE m σ H fun x H1 => ∃ c, x = .bl c ∧ Q c H1 := by
  obtain ⟨S, th, G, H0, ρ, w, eo, q⟩ := q
  refine tD.run w eo q fun d S1 v th1 G1 H1 w1 e1 r1 eo1 q1 => ?_
  obtain ⟨t, rfl, q2⟩ := asB_wp q1
  cases r1
  exact ⟨t, rfl, q2 th1 G1 H1 w1 e1⟩
theorem dt_val (h : DX X W rE e m) (he : ∀ whole, isTrue e X.env whole = (do let v ← whole; standAt e.pos; holding [v] (truthy v)) := by intro _; rfl) : DT X W e (fun ρ => do let x ← m ρ; asB x) :=
  PT.weak (pt_val h he) fun σ H Q q => tB_of q
theorem dt_cmp {op : CmpOp} {g : Store → D → D → Option D} (ho : OpD X rE (compareOp op) g) (ha : DX X W rS a ma) (hb : DX X W rS b mb) (hm : behindInMarks op b = false) : DT X W (.Compare a [op] [b] pos) (fun ρ => do
    let x ← (do
      let x ← ma ρ
      let y ← mb ρ
      getO fun S => g S x y)
    asB x) := PT.weak (pt_cmpR ho ha hb hm) fun σ H Q q => by
  have q' := tB_of (m := fun ρ => do let x ← ma ρ; let y ← mb ρ; getO fun S => g S x y) q
  exact tOp_of rE.bk (fun _ _ _ _ h => h) q'
theorem dt_chain {op op' : CmpOp} {g g' : Store → D → D → Option D} (ho : OpD X rE (compareOp op) g) (ho' : OpD X rE (compareOp op') g') (ha : DX X W rS a ma) (hb : DX X W rS b mb) (hc : DX X W rS c mc) (hm : lastMarks [op, op'] [b, c] = false := by with_unfolding_all rfl) :
    DT X W (.Compare a [op, op'] [b, c] pos) (fun ρ => do
      let x ← (do
        let x ← ma ρ
        let y ← mb ρ
        let z ← getO fun S => g S x y
        let t ← asB z
        if t then (do let u ← mc ρ; getO fun S => g' S y u) else pure (.bl false))
      asB x) := PT.weak (pt_chain ho ho' ha hb hc hm) fun σ H Q q => by
  have q' := tB_of (m := fun ρ => do let x ← ma ρ; let y ← mb ρ; let z ← getO fun S => g S x y; let t ← asB z; if t then (do let u ← mc ρ; getO fun S => g' S y u) else pure (.bl false)) q
  exact chain_of (fun _ _ _ _ h => h) (fun _ _ _ _ h => h) q'
section
variable {tA tB' : Envr → M Bool}
theorem dt_not (h : DT X W a tA) : DT X W (.UnaryOp .Not a pos) (fun ρ => do let t ← tA ρ; pure (!t)) := PT.weak (pt_not h) fun σ H Q ⟨S, th, G, H0, ρ, w, eo, q⟩ =>
  tDT.run w eo q fun d S1 th1 G1 H1 w1 e1 eo1 q1 => q1 th1 G1 H1 w1 e1
theorem dw_and1 (h : DT X W a tA) : DW X W (.BoolOp .And [a] pos) tA := pw_and1 h
theorem dw_or1 (h : DT X W a tA) : DW X W (.BoolOp .Or [a] pos) tA := pw_or1 h
theorem dw_and (h : DT X W a tA) (hb : DW X W (.BoolOp .And (b :: rest) pos) tB') : DW X W (.BoolOp .And (a :: b :: rest) pos) (fun ρ => do let t ← tA ρ; if t then tB' ρ else pure false) :=
  PW.weak (pw_and h hb) fun σ H Q ⟨S, th, G, H0, ρ, w, eo, q⟩ => by
    refine tDT.run w eo q fun d S1 th1 G1 H1 w1 e1 eo1 q1 => ?_
    cases d with
    | false => exact q1 th1 G1 H1 w1 e1
    | true => exact ⟨S1, th1, G1, H0, ρ, w1, eo1, Res.wp.mono (show (tB' ρ S1).wp _ _ from q1) (fun d S2 q3 th2 G2 H2 w2 e2 => q3 th2 G2 H2 w2 (e1.trans e2)) fun _ _ _ z => z.back e1⟩
theorem dw_or (h : DT X W a tA) (hb : DW X W (.BoolOp .Or (b :: rest) pos) tB') : DW X W (.BoolOp .Or (a :: b :: rest) pos) (fun ρ => do let t ← tA ρ; if t then pure true else tB' ρ) :=
  PW.weak (pw_or h hb) fun σ H Q ⟨S, th, G, H0, ρ, w, eo, q⟩ => by
    refine tDT.run w eo q fun d S1 th1 G1 H1 w1 e1 eo1 q1 => ?_
    cases d with
    | true => exact q1 th1 G1 H1 w1 e1
    | false => exact ⟨S1, th1, G1, H0, ρ, w1, eo1, Res.wp.mono (show (tB' ρ S1).wp _ _ from q1) (fun d S2 q3 th2 G2 H2 w2 e2 => q3 th2 G2 H2 w2 (e1.trans e2)) fun _ _ _ z => z.back e1⟩
theorem dt_w (h : DW X W a tA) : DT X W a tA := PW.pt h
/-- a if t else b -/
theorem d_if (hR : RK.Back R) (hc : DT X W c tA) (ha : DX X W R a ma) (hb : DX X W R b mb) : DX X W R (.IfExp c a b pos) (fun ρ => do let t ← tA ρ; if t then ma ρ else mb ρ) :=
  PE.weak (pe_ifExp hc ha hb) fun σ H Q ⟨S, th, G, H0, ρ, w, eo, q⟩ => by
    refine tDT.run w eo q fun d S1 th1 G1 H1 w1 e1 eo1 q1 => ?_
    cases d with
    | true => rw [if_pos rfl]; exact ⟨S1, th1, G1, H0, ρ, w1, eo1, Res.wp.mono (show (ma ρ S1).wp _ _ from q1) (fun d S2 q3 v th2 G2 H2 w2 e2 r2 => q3 v th2 G2 H2 w2 (e1.trans e2) (hR.go e1 r2)) fun _ _ _ z => z.back e1⟩
    | false => rw [if_neg Bool.false_ne_true]; exact ⟨S1, th1, G1, H0, ρ, w1, eo1, Res.wp.mono (show (mb ρ S1).wp _ _ from q1) (fun d S2 q3 v th2 G2 H2 w2 e2 r2 => q3 v th2 G2 H2 w2 (e1.trans e2) (hR.go e1 r2)) fun _ _ _ z => z.back e1⟩
end

/-! ### subscripts -/
def gIx : D → D → Option D
  | .lst ds, .int i => atI ds i
  | .tup ds, .int i => atI ds i
  | .str x, .int i => if x.length ≤ sizeLine then (atI x.cps.toList i).map fun c => .str ⟨#[c]⟩ else none
  | .scr ns, .int i => (atI ns i).map .int
  | _, _ => none
theorem atI_rep {K : PySem.W.Frag} {xs : List V} {ds : List D} {i : Int} {d : D} (h : RepL K th G xs ds) (e : atI ds i = some d) : ∃ v, atI xs i = some v ∧ Rep K th G v d := by
  unfold atI at e ⊢
  rw [h.length]
  cases q : ixN ds.length i with
  | none => rw [q] at e; cases e
  | some j =>
    rw [q] at e
    exact h.get e
theorem atI_map {α β : Type} (f : α → β) (xs : List α) (i : Int) : atI (xs.map f) i = (atI xs i).map f := by
  unfold atI
  rw [List.length_map]
  cases ixN xs.length i with
  | none => rfl
  | some j => simp
theorem d_ix (ha : DX X W rS a ma) (hb : DX X W rS b mb) (hs : PlainIx b := by intro _ _; rfl) : DX X W rE (.Subscript a b pos) (fun ρ => do
    let x ← ma ρ
    let y ← mb ρ
    getO fun S => gIx (vw S x) (vw S y)) := PE.weak (pe_ix ix_seq ha hb hs) fun σ H Q q => tOp_of rE.bk (fun x y H Q ⟨S, th, G, H0, d, e, z, w, r1, r2, hz, q⟩ => by
  have r1 := vw_rep w r1
  have r2 := vw_rep w r2
  generalize vw S d = d at r1 hz
  generalize vw S e = e at r2 hz
  cases e <;> try (cases d <;> cases hz; done)
  rename_i i
  cases r2
  cases d <;> try (cases hz; done)
  · rename_i x
    cases r1
    simp only [gIx] at hz
    split at hz
    · rename_i hl
      rw [Option.map_eq_some_iff] at hz
      obtain ⟨c, h1, rfl⟩ := hz
      exact .inr (.inr ⟨_, _, _, rfl, rfl, hl, h1, q.same w (.str _)⟩)
    · cases hz
  · obtain ⟨a, xs, rfl, h1, h2, _⟩ := r1
    obtain ⟨v, h3, h4⟩ := atI_rep h2 hz
    exact .inr (.inl ⟨a, xs, _, v, rfl, rfl, h1, h3, q.same w h4⟩)
  · obtain ⟨a, xs, rfl, h1, h2⟩ := r1
    obtain ⟨v, h3, h4⟩ := atI_rep h2 hz
    exact .inl ⟨a, xs, _, v, rfl, rfl, SqL.of h1, h3, q.same w h4⟩
  · obtain ⟨a, rfl, h1⟩ := r1
    simp only [gIx, Option.map_eq_some_iff] at hz
    obtain ⟨c, h2, rfl⟩ := hz
    refine .inl ⟨a, _, _, .int c, rfl, rfl, h1, ?_, q.same w (.int _)⟩
    rw [atI_map, h2]
    rfl) q

/-! ### slices -/
def DO (X : Cx) (W : WX) (e : Option Expr) (m : Envr → M (Option Int)) : Prop := PO X e fun σ H Q => ∃ S th G H0 ρ, Wd X.K X.mg S th G H ∧ EnvOk X.K th G H H0 σ ρ ∧
  (m ρ S).wp (fun o S' => ∀ th' G' H', Wd X.K X.mg S' th' G' H' → Ext th G H th' G' H' → Q o H') (PostX X (fun c d h => W c d σ h) H th G)
def asI : D → M Int
  | .int i => pure i
  | _ => fail
theorem asI_wp {d : D} {Qb : Int → Store → Prop} {E : Str → D → Store → Prop} (h : (asI d S).wp Qb E) : ∃ b, d = .int b ∧ Qb b S := by
  cases d <;> try exact h.elim
  exact ⟨_, rfl, h⟩
theorem PO.weak {o : Option Expr} {t u : TO} (h : PO X o t) (k : ∀ σ H Q, u σ H Q → t σ H Q) : PO X o u := ⟨fun pins s σ H Q I q => h.run pins s σ H Q I (k σ H Q q)⟩
theorem do_none : DO X W none (fun _ => pure none) := PO.weak po_none fun σ H Q ⟨S, th, G, H0, ρ, w, eo, q⟩ => q th G H w Ext.refl
theorem do_some (h : DX X W rE e m) : DO X W (some e) (fun ρ => do let x ← m ρ; let i ← asI x; pure (some i)) := PO.weak (po_some h) fun σ H Q ⟨S, th, G, H0, ρ, w, eo, q⟩ => by
  refine tD.run w eo q fun d S1 v th1 G1 H1 w1 e1 r1 eo1 q1 => ?_
  rw [wp_bind] at q1
  obtain ⟨i, rfl, q2⟩ := asI_wp q1
  cases r1
  exact ⟨i, rfl, q2 th1 G1 H1 w1 e1⟩
def cutD (xs : List D) (lo hi : Option Int) : List D := (xs.drop (HT.sIx xs.length 0 lo)).take (HT.sIx xs.length xs.length hi - HT.sIx xs.length 0 lo)
theorem cutD_rep {K : PySem.W.Frag} {xs : List V} {ds : List D} (h : RepL K th G xs ds) (lo hi : Option Int) : RepL K th G (cutV xs lo hi) (cutD ds lo hi) := by
  unfold cutV cutD
  rw [h.length]
  exact (h.drop _).take _
def gSl (x : D) (lo hi : Option Int) : Option D := match x with
  | .lst ds => some (.lst (cutD ds lo hi))
  | .tup ds => some (.tup (cutD ds lo hi))
  | .str z => if z.length ≤ sizeLine then some (.str (cutS z lo hi)) else none
  | _ => none
def gSlL (x : D) (lo hi : Option Int) : Option D := match x with
  | .lst ds => some (.lst (cutD ds lo hi))
  | _ => none
theorem slice_of {ml mh : Envr → M (Option Int)} {g : D → Option Int → Option Int → Option D} {r : V → Option Int → Option Int → Hp → VK → Prop} {Q : VK} (hR : RK.Back R)
    (hr : ∀ S th G H x d lo hi z Q, Wd X.K X.mg S th G H → RV X.K th G H x d → g d lo hi = some z → Post X R H th G Q z S → r x lo hi H Q)
    {lo hi : Option Expr} {tl tu : TO}
    (hl : tl = fun σ H Q => ∃ S th G H0 ρ, Wd X.K X.mg S th G H ∧ EnvOk X.K th G H H0 σ ρ ∧ (ml ρ S).wp (fun o S' => ∀ th' G' H', Wd X.K X.mg S' th' G' H' → Ext th G H th' G' H' → Q o H') (PostX X (fun c d h => W c d σ h) H th G))
    (hu : tu = fun σ H Q => ∃ S th G H0 ρ, Wd X.K X.mg S th G H ∧ EnvOk X.K th G H H0 σ ρ ∧ (mh ρ S).wp (fun o S' => ∀ th' G' H', Wd X.K X.mg S' th' G' H' → Ext th G H th' G' H' → Q o H') (PostX X (fun c d h => W c d σ h) H th G))
    (q : tD X W R (fun ρ => do let x ← ma ρ; let l ← ml ρ; let u ← mh ρ; getO fun S => g (vw S x) l u) σ H Q) : tSl r (tD X W rS ma) tl tu σ H Q := by
  subst hl hu
  obtain ⟨S, th, G, H0, ρ, w, eo, q⟩ := q
  refine tD.run w eo q fun d S1 x th1 G1 H1 w1 e1 r1 eo1 q1 => ?_
  refine ⟨S1, th1, G1, H0, ρ, w1, eo1, ?_⟩
  rw [wp_bind] at q1
  refine q1.mono (fun l S2 q2 th2 G2 H2 w2 e2 => ?_) fun _ _ _ z => z.back e1
  rw [wp_bind] at q2
  refine ⟨S2, th2, G2, H0, ρ, w2, eo1.ext e2, q2.mono (fun u S3 q3 th3 G3 H3 w3 e3 => ?_) fun _ _ _ z => z.back (e1.trans e2)⟩
  obtain ⟨z, hz, q4⟩ := getO_wp q3
  exact hr S3 th3 G3 H3 x _ l u z Q w3 (vw_rep w3 ((r1.ext e2 H).ext e3 H)) hz fun v th5 G5 H5 w5 e5 r5 => q4 v th5 G5 H5 w5 (((e1.trans e2).trans e3).trans e5) (hR.go ((e1.trans e2).trans e3) r5)
theorem cut_whole {ds : List D} {lo hi : Option Int} (h : HT.sIx ds.length 0 lo = 0 ∧ HT.sIx ds.length ds.length hi = ds.length) : cutD ds lo hi = ds := by
  unfold cutD
  rw [h.1, h.2, List.drop_zero, Nat.sub_zero, List.take_length]
theorem d_slice {ml mh : Envr → M (Option Int)} {lo hi : Option Expr} {p2 : Pos} (ha : DX X W rS a ma) (hl : DO X W lo ml) (hu : DO X W hi mh) : DX X W rE (.Subscript a (.Slice lo hi none p2) pos) (fun ρ => do
    let x ← ma ρ
    let l ← ml ρ
    let u ← mh ρ
    getO fun S => gSl (vw S x) l u) := PE.weak (pe_slice (sl_list.or (sl_tupA.or sl_str)) ha hl hu) fun σ H Q q => slice_of (lo := lo) (hi := hi) rE.bk (fun S th G H x d lo hi z Q w r hz q => by
  cases d <;> try (cases hz; done)
  · cases r
    simp only [gSl] at hz
    split at hz
    · rename_i hl
      cases hz
      exact .inr (.inr ⟨_, rfl, hl, q.same w (.str _)⟩)
    · cases hz
  · cases hz
    obtain ⟨a, xs, rfl, h1, h2, g1⟩ := r
    refine .inr (.inl ⟨a, xs, rfl, h1, fun e => ?_, fun _ => Post.tup w q (cutD_rep h2 lo hi)⟩)
    rw [h2.length] at e
    rw [cut_whole e] at q
    exact q.same w (.tup g1 h2)
  · cases hz
    obtain ⟨a, xs, rfl, h1, h2⟩ := r
    exact .inl ⟨a, xs, rfl, SqL.of h1, Post.lst w q (cutD_rep h2 lo hi)⟩) rfl rfl q
/-- .. of a list, the new list one's own -/
theorem d_sliceL {ml mh : Envr → M (Option Int)} {lo hi : Option Expr} {p2 : Pos} (ha : DX X W rS a ma) (hl : DO X W lo ml) (hu : DO X W hi mh) : DX X W rF (.Subscript a (.Slice lo hi none p2) pos) (fun ρ => do
    let x ← ma ρ
    let l ← ml ρ
    let u ← mh ρ
    getO fun S => gSlL (vw S x) l u) := PE.weak (pe_slice sl_list ha hl hu) fun σ H Q q => slice_of (lo := lo) (hi := hi) rF.bk (fun S th G H x d lo hi z Q w r hz q => by
  cases d <;> try (cases hz; done)
  cases hz
  obtain ⟨a, xs, rfl, h1, h2⟩ := r
  exact ⟨a, xs, rfl, SqL.of h1, Post.lstF w q (cutD_rep h2 lo hi)⟩) rfl rfl q

/-! ### built-in functions and types of one or two arguments -/
def CallD1 (X : Cx) (R : RK) (f : Value) (g : D → Option D) : Prop :=
  CallR X f fun xs H Q => ∃ S th G x d z, xs = [x] ∧ Wd X.K X.mg S th G H ∧ RV X.K th G H x d ∧ g d = some z ∧ Post X R H th G Q z S
def CallD2 (X : Cx) (R : RK) (f : Value) (g : D → D → Option D) : Prop :=
  CallR X f fun xs H Q => ∃ S th G x y d e z, xs = [x, y] ∧ Wd X.K X.mg S th G H ∧ RV X.K th G H x d ∧ RV X.K th G H y e ∧ g d e = some z ∧ Post X R H th G Q z S
theorem call1_of {g : D → Option D} {r : List V → Hp → VK → Prop} {Q : VK} (hR : RK.Back R)
    (hr : ∀ xs H Q, (∃ S th G x d z, xs = [x] ∧ Wd X.K X.mg S th G H ∧ RV X.K th G H x d ∧ g d = some z ∧ Post X R H th G Q z S) → r xs H Q)
    (q : tD X W R (fun ρ => do let x ← m ρ; getO fun S => g (vw S x)) σ H Q) : tCB r (tCons (tD X W rS m) tNil) σ H Q := by
  obtain ⟨S, th, G, H0, ρ, w, eo, q⟩ := q
  refine tD.run w eo q fun d S1 x th1 G1 H1 w1 e1 r1 eo1 q1 => ?_
  obtain ⟨z, hz, q4⟩ := getO_wp q1
  exact hr _ _ _ ⟨S1, th1, G1, x, _, z, rfl, w1, vw_rep w1 r1, hz, fun v th5 G5 H5 w5 e5 r5 => q4 v th5 G5 H5 w5 (e1.trans e5) (hR.go e1 r5)⟩
theorem call2_of {g : D → D → Option D} {r : List V → Hp → VK → Prop} {Q : VK} (hR : RK.Back R)
    (hr : ∀ xs H Q, (∃ S th G x y d e z, xs = [x, y] ∧ Wd X.K X.mg S th G H ∧ RV X.K th G H x d ∧ RV X.K th G H y e ∧ g d e = some z ∧ Post X R H th G Q z S) → r xs H Q)
    (q : tD X W R (fun ρ => do let x ← ma ρ; let y ← mb ρ; getO fun S => g (vw S x) (vw S y)) σ H Q) : tCB r (tCons (tD X W rS ma) (tCons (tD X W rS mb) tNil)) σ H Q := by
  obtain ⟨S, th, G, H0, ρ, w, eo, q⟩ := q
  refine tD.run w eo q fun d S1 x th1 G1 H1 w1 e1 r1 eo1 q1 => ?_
  refine ⟨S1, th1, G1, H0, ρ, w1, eo1, ?_⟩
  rw [wp_bind] at q1
  refine q1.mono (fun e S2 q2 y th2 G2 H2 w2 e2 r2 => ?_) fun _ _ _ z => z.back e1
  obtain ⟨z, hz, q4⟩ := getO_wp q2
  exact hr _ _ _ ⟨S2, th2, G2, x, y, _, _, z, rfl, w2, vw_rep w2 (r1.ext e2 H), vw_rep w2 r2, hz, fun v th5 G5 H5 w5 e5 r5 => q4 v th5 G5 H5 w5 ((e1.trans e2).trans e5) (hR.go (e1.trans e2) r5)⟩
section
variable {x : Str} {id T : String} {p : Pos}
theorem d_callB1 {g : D → Option D} (hR : RK.Back R) (hc : CallD1 X R (.builtin id) g) (ha : DX X W rS a m) (hg : Gl X x) (hm : X.mg x = none) (hv : bootBuiltins x = some (.builtin id)) (hn : x ≠ "__name__" := by decide) (hdb : (x == ("__debug__" : Str)) = false := by decide)
    (h1 : starEach [a] X.env = (false, eval a X.env) :: starEach [] X.env := by rfl) (h2 : (backTo pos (starEach [] X.env)).any (·.1) = false := by rfl) :
    DX X W R (.Call (.Name x p) [a] [] pos) (fun ρ => do let x ← m ρ; getO fun S => g (vw S x)) :=
  PE.weak (pe_callB hc hg hm hv (pa_cons ha pa_nil h1) hn hdb h1 h2) fun σ H Q q => call1_of hR (fun _ _ _ h => h) q
theorem d_callT1 {g : D → Option D} (hR : RK.Back R) (hc : CallD1 X R (.type T) g) (ha : DX X W rS a m) (hg : Gl X x) (hm : X.mg x = none) (hv : bootBuiltins x = some (.type T)) (hn : x ≠ "__name__" := by decide) (hdb : (x == ("__debug__" : Str)) = false := by decide)
    (h1 : starEach [a] X.env = (false, eval a X.env) :: starEach [] X.env := by rfl) (h2 : (backTo pos (starEach [] X.env)).any (·.1) = false := by rfl) :
    DX X W R (.Call (.Name x p) [a] [] pos) (fun ρ => do let x ← m ρ; getO fun S => g (vw S x)) :=
  PE.weak (pe_callTy hc hg hm hv (pa_cons ha pa_nil h1) hn hdb h1 h2) fun σ H Q q => call1_of hR (fun _ _ _ h => h) q
theorem d_callB2 {g : D → D → Option D} (hR : RK.Back R) (hc : CallD2 X R (.builtin id) g) (ha : DX X W rS a ma) (hb : DX X W rS b mb) (hg : Gl X x) (hm : X.mg x = none) (hv : bootBuiltins x = some (.builtin id)) (hn : x ≠ "__name__" := by decide) (hdb : (x == ("__debug__" : Str)) = false := by decide)
    (h1 : starEach [a, b] X.env = (false, eval a X.env) :: starEach [b] X.env := by rfl) (h1b : starEach [b] X.env = (false, eval b X.env) :: starEach [] X.env := by rfl) (h2 : (backTo pos (starEach [b] X.env)).any (·.1) = false := by rfl) :
    DX X W R (.Call (.Name x p) [a, b] [] pos) (fun ρ => do let x ← ma ρ; let y ← mb ρ; getO fun S => g (vw S x) (vw S y)) :=
  PE.weak (pe_callB hc hg hm hv (pa_cons ha (pa_cons hb pa_nil h1b) h1) hn hdb h1 h2) fun σ H Q q => call2_of hR (fun _ _ _ h => h) q
end
def gLen : D → Option D
  | .lst ds => some (.int ds.length)
  | .tup ds => some (.int ds.length)
  | .str x => if x.length ≤ sizeLine then some (.int x.length) else none
  | .scr ns => some (.int ns.length)
  | _ => none
theorem c_len : CallD1 X rE (.builtin "len") gLen := fun pins s σ H xs us Q I r ⟨S, th, G, x, d, z, e, w, rv, hz, q⟩ => (call_len_seq.or call_len_str) pins s σ H xs us Q I r (by
  subst e
  cases d <;> try (cases hz; done)
  · cases rv
    simp only [gLen] at hz
    split at hz
    · rename_i hl
      cases hz
      exact .inr ⟨_, rfl, hl, q.same w (.int _)⟩
    · cases hz
  · cases hz
    obtain ⟨a, xs, rfl, h1, h2, g1⟩ := rv
    refine .inl ⟨a, xs, rfl, .inr h1, ?_⟩
    rw [h2.length]
    exact q.same w (.int _)
  · cases hz
    obtain ⟨a, xs, rfl, h1, h2⟩ := rv
    refine .inl ⟨a, xs, rfl, .inl (SqL.of h1), ?_⟩
    rw [h2.length]
    exact q.same w (.int _)
  · cases hz
    obtain ⟨a, rfl, h1⟩ := rv
    refine .inl ⟨a, _, rfl, .inl h1, ?_⟩
    rw [List.length_map]
    exact q.same w (.int _))
def gAbs : D → Option D
  | .int i => some (.int (if i < 0 then -i else i))
  | _ => none
theorem c_abs : CallD1 X rE (.builtin "abs") gAbs := fun pins s σ H xs us Q I r ⟨S, th, G, x, d, z, e, w, rv, hz, q⟩ => call_abs pins s σ H xs us Q I r (by
  subst e
  cases d <;> try (cases hz; done)
  cases hz; cases rv
  exact ⟨_, rfl, q.same w (.int _)⟩)
def gMax2 : D → D → Option D
  | .int i, .int j => some (.int (max i j))
  | _, _ => none
def gMin2 : D → D → Option D
  | .int i, .int j => some (.int (min i j))
  | _, _ => none
theorem c_max2 (hc : X.calm = true) : CallD2 X rE (.builtin "max") gMax2 := fun pins s σ H xs us Q I r ⟨S, th, G, x, y, d, e, z, ex, w, rv, rw', hz, q⟩ => call_max2 hc pins s σ H xs us Q I r (by
  subst ex
  cases d <;> cases e <;> try (cases hz; done)
  rename_i i j
  cases hz; cases rv; cases rw'
  refine ⟨i, j, rfl, ?_⟩
  have e : (if j > i then j else i) = max i j := by rw [Int.max_def]; split <;> split <;> omega
  rw [e]
  exact q.same w (.int _))
theorem c_min2 (hc : X.calm = true) : CallD2 X rE (.builtin "min") gMin2 := fun pins s σ H xs us Q I r ⟨S, th, G, x, y, d, e, z, ex, w, rv, rw', hz, q⟩ => call_min2 hc pins s σ H xs us Q I r (by
  subst ex
  cases d <;> cases e <;> try (cases hz; done)
  rename_i i j
  cases hz; cases rv; cases rw'
  refine ⟨i, j, rfl, ?_⟩
  have e : (if j < i then j else i) = min i j := by rw [Int.min_def]; split <;> split <;> omega
  rw [e]
  exact q.same w (.int _))
def gSum : D → Option D
  | .lst ds => (ints? ds).map fun ns => .int ns.sum
  | _ => none
theorem c_sum (hc : X.calm = true) : CallD1 X rE (.builtin "sum") gSum := fun pins s σ H xs us Q I r ⟨S, th, G, x, d, z, e, w, rv, hz, q⟩ => cr_sum hc pins s σ H xs us Q I r (by
  subst e
  cases d <;> try (cases hz; done)
  simp only [gSum, Option.map_eq_some_iff] at hz
  obtain ⟨ns, h1, rfl⟩ := hz
  obtain ⟨a, xs, rfl, h2, h3⟩ := rv
  rw [ints?_eq h1] at h3
  rw [h3.ints] at h2
  exact ⟨a, ns, rfl, SqL.of h2, q.same w (.int _)⟩)
def maxL : List Int → Int
  | [] => 0
  | n :: ns => ns.foldl max n
def minL : List Int → Int
  | [] => 0
  | n :: ns => ns.foldl min n
theorem foldl_max_mem : ∀ (ns : List Int) (n : Int), ns.foldl max n ∈ n :: ns ∧ ∀ y, y ∈ n :: ns → y ≤ ns.foldl max n
  | [], n => by simp
  | m :: ns, n => by
    obtain ⟨h1, h2⟩ := foldl_max_mem ns (max n m)
    refine ⟨?_, fun y hy => ?_⟩
    · rw [List.foldl_cons]
      rcases List.mem_cons.mp h1 with h | h
      · rw [h, Int.max_def]; split <;> simp
      · exact List.mem_cons_of_mem _ (List.mem_cons_of_mem _ h)
    · rw [List.foldl_cons]
      have h3 := h2 (max n m) List.mem_cons_self
      rcases List.mem_cons.mp hy with h | h
      · subst h; have := Int.le_max_left y m; omega
      · rcases List.mem_cons.mp h with h | h
        · subst h; have := Int.le_max_right n y; omega
        · exact h2 y (List.mem_cons_of_mem _ h)
theorem foldl_min_mem : ∀ (ns : List Int) (n : Int), ns.foldl min n ∈ n :: ns ∧ ∀ y, y ∈ n :: ns → ns.foldl min n ≤ y
  | [], n => by simp
  | m :: ns, n => by
    obtain ⟨h1, h2⟩ := foldl_min_mem ns (min n m)
    refine ⟨?_, fun y hy => ?_⟩
    · rw [List.foldl_cons]
      rcases List.mem_cons.mp h1 with h | h
      · rw [h, Int.min_def]; split <;> simp
      · exact List.mem_cons_of_mem _ (List.mem_cons_of_mem _ h)
    · rw [List.foldl_cons]
      have h3 := h2 (min n m) List.mem_cons_self
      rcases List.mem_cons.mp hy with h | h
      · subst h; have := Int.min_le_left y m; omega
      · rcases List.mem_cons.mp h with h | h
        · subst h; have := Int.min_le_right n y; omega
        · exact h2 y (List.mem_cons_of_mem _ h)
theorem maxL_spec {ns : List Int} (h : ns ≠ []) : maxL ns ∈ ns ∧ ∀ y, y ∈ ns → y ≤ maxL ns := by
  cases ns with
  | nil => exact absurd rfl h
  | cons n ns => exact foldl_max_mem ns n
theorem minL_spec {ns : List Int} (h : ns ≠ []) : minL ns ∈ ns ∧ ∀ y, y ∈ ns → minL ns ≤ y := by
  cases ns with
  | nil => exact absurd rfl h
  | cons n ns => exact foldl_min_mem ns n
def gMaxL : D → Option D
  | .lst ds => match ints? ds with
    | some (n :: ns) => some (.int (maxL (n :: ns)))
    | _ => none
  | _ => none
def gMinL : D → Option D
  | .lst ds => match ints? ds with
    | some (n :: ns) => some (.int (minL (n :: ns)))
    | _ => none
  | _ => none
theorem c_maxL (hc : X.calm = true) : CallD1 X rE (.builtin "max") gMaxL := fun pins s σ H xs us Q I r ⟨S, th, G, x, d, z, e, w, rv, hz, q⟩ => cr_max hc pins s σ H xs us Q I r (by
  subst e
  cases d <;> try (cases hz; done)
  simp only [gMaxL] at hz
  split at hz
  · rename_i n ns h1
    cases hz
    obtain ⟨a, xs, rfl, h2, h3⟩ := rv
    rw [ints?_eq h1] at h3
    rw [h3.ints] at h2
    refine ⟨a, n :: ns, rfl, SqL.of h2, by simp, fun k hk hm => ?_⟩
    obtain ⟨s1, s2⟩ := maxL_spec (ns := n :: ns) (by simp)
    have : k = maxL (n :: ns) := Int.le_antisymm (s2 k hk) (hm _ s1)
    rw [this]
    exact q.same w (.int _)
  · cases hz)
theorem c_minL (hc : X.calm = true) : CallD1 X rE (.builtin "min") gMinL := fun pins s σ H xs us Q I r ⟨S, th, G, x, d, z, e, w, rv, hz, q⟩ => cr_min hc pins s σ H xs us Q I r (by
  subst e
  cases d <;> try (cases hz; done)
  simp only [gMinL] at hz
  split at hz
  · rename_i n ns h1
    cases hz
    obtain ⟨a, xs, rfl, h2, h3⟩ := rv
    rw [ints?_eq h1] at h3
    rw [h3.ints] at h2
    refine ⟨a, n :: ns, rfl, SqL.of h2, by simp, fun k hk hm => ?_⟩
    obtain ⟨s1, s2⟩ := minL_spec (ns := n :: ns) (by simp)
    have : k = minL (n :: ns) := Int.le_antisymm (hm _ s1) (s2 k hk)
    rw [this]
    exact q.same w (.int _)
  · cases hz)
def gAll : D → Option D
  | .lst ds => (bools? ds).map fun bs => .bl (bs.all id)
  | _ => none
def gAny : D → Option D
  | .lst ds => (bools? ds).map fun bs => .bl (bs.any id)
  | _ => none
theorem c_all (hc : X.calm = true) : CallD1 X rE (.builtin "all") gAll := fun pins s σ H xs us Q I r ⟨S, th, G, x, d, z, e, w, rv, hz, q⟩ => cr_all hc pins s σ H xs us Q I r (by
  subst e
  cases d <;> try (cases hz; done)
  simp only [gAll, Option.map_eq_some_iff] at hz
  obtain ⟨ns, h1, rfl⟩ := hz
  obtain ⟨a, xs, rfl, h2, h3⟩ := rv
  rw [bools?_eq h1] at h3
  rw [h3.bools] at h2
  exact ⟨a, ns, rfl, SqL.of h2, q.same w (.bl _)⟩)
theorem c_any (hc : X.calm = true) : CallD1 X rE (.builtin "any") gAny := fun pins s σ H xs us Q I r ⟨S, th, G, x, d, z, e, w, rv, hz, q⟩ => cr_any hc pins s σ H xs us Q I r (by
  subst e
  cases d <;> try (cases hz; done)
  simp only [gAny, Option.map_eq_some_iff] at hz
  obtain ⟨ns, h1, rfl⟩ := hz
  obtain ⟨a, xs, rfl, h2, h3⟩ := rv
  rw [bools?_eq h1] at h3
  rw [h3.bools] at h2
  exact ⟨a, ns, rfl, SqL.of h2, q.same w (.bl _)⟩)
def gTuple : D → Option D
  | .lst ds => some (.tup ds)
  | .tup ds => some (.tup ds)
  | _ => none
theorem c_tuple : CallD1 X rE (.type "tuple") gTuple := fun pins s σ H xs us Q I r ⟨S, th, G, x, d, z, e, w, rv, hz, q⟩ => call_tuple_of pins s σ H xs us Q I r (by
  subst e
  cases d <;> try (cases hz; done)
  · cases hz
    obtain ⟨a, xs, rfl, h1, h2, g1⟩ := rv
    exact ⟨a, xs, rfl, .inr ⟨h1, q.same w (.tup g1 h2)⟩⟩
  · cases hz
    obtain ⟨a, xs, rfl, h1, h2⟩ := rv
    exact ⟨a, xs, rfl, .inl ⟨SqL.of h1, Post.tup w q h2⟩⟩)
def gList : D → Option D
  | .lst ds => some (.lst ds)
  | .tup ds => some (.lst ds)
  | _ => none
theorem c_list : CallD1 X rF (.type "list") gList := fun pins s σ H xs us Q I r ⟨S, th, G, x, d, z, e, w, rv, hz, q⟩ => call_list_of pins s σ H xs us Q I r (by
  subst e
  cases d <;> try (cases hz; done)
  · cases hz
    obtain ⟨a, xs, rfl, h1, h2, g1⟩ := rv
    exact ⟨a, xs, rfl, .inr h1, Post.lstF w q h2⟩
  · cases hz
    obtain ⟨a, xs, rfl, h1, h2⟩ := rv
    exact ⟨a, xs, rfl, .inl (SqL.of h1), Post.lstF w q h2⟩)
end
end FB

/-! What is walked: sequences of either kind, enumerate, zip of two and three, ranges, texts. -/
namespace FB
open PySem PySem.Spec PyProof.Rows L2

/-! ### sequences of either kind: true for a tuple -/
def SqK (b : Bool) (K : PySem.W.Frag) (H : Hp) (a : Addr) (xs : List V) : Prop := match b with
  | true => SqT K H a xs
  | false => SqL K H a xs
def ItrAt (b : Bool) (h : Heap) (it a : Addr) (i : Nat) : Prop := match b with
  | true => h.IsTupleIter it a i
  | false => h.IsListIter it a i
def IsSq (b : Bool) (h : Heap) (a : Addr) (its : Array Value) : Prop := match b with
  | true => h.IsTuple a its
  | false => h.IsList a its
def itrO (b : Bool) (a : Addr) : Obj := match b with
  | true => { cls := .type "tuple_iterator", data := .fields #[.ref a, .int 0 0] }
  | false => { cls := .type "list_iterator", data := .fields #[.ref a, .int 0 0] }
section
variable {X : Cx} {pins : List (Addr × Obj)} {σ : L2.St} {H : Hp} {s : Shared} {b : Bool} {a it : Addr} {xs ys : List V} {i : Nat}
theorem sqk_at (I : Inv X pins σ H s) (h : SqK b X.K H a xs) : ∃ its : List Value, Vals xs its ∧ IsSq b s.heap a its.toArray ∧ a < s.heap.objs.size := by
  cases b with
  | true =>
    obtain ⟨its, r, p, _⟩ := I.tuple h
    exact ⟨its, r, p, p.lt⟩
  | false =>
    obtain ⟨its, r, p, _⟩ := I.list h
    exact ⟨its, r, p.isList, p.lt⟩
theorem sqk_inj (I : Inv X pins σ H s) (h : SqK b X.K H a xs) (h' : SqK b X.K H a ys) : xs = ys := by
  cases b with
  | true => exact I.tuple_inj h h'
  | false => exact I.list_inj h h'
theorem sqk_draws {prog : Program} {w : World} {A : Around} (hh : A.handled = none) (it l : Addr) (hne : l ≠ it) (items : Array Value) (b : Bool) :
    Draws prog w A it [it, l] items.size (fun i v => items[i]? = some v) (fun i h => ItrAt b h it l i ∧ IsSq b h l items) := by
  cases b with
  | true => exact Draws.tuple hh it l hne items
  | false => exact Draws.list hh it l hne items
theorem itr_obj {h : Heap} (st : ItrAt b h it a i) : ∃ o, h.get? it = some o ∧ ∀ v, o.data ≠ .cell v := by
  cases b with
  | true => obtain ⟨o, e, _, d⟩ := st; exact ⟨o, e, fun v q => by rw [d] at q; cases q⟩
  | false => obtain ⟨o, e, _, d⟩ := st; exact ⟨o, e, fun v q => by rw [d] at q; cases q⟩
theorem itr_keep {h h' : Heap} (st : ItrAt b h it a i) (k : ∀ o, h.get? it = some o → h'.get? it = some o) : ItrAt b h' it a i := by
  cases b with
  | true => exact st.at k
  | false => exact st.at k
theorem sq_begins (b : Bool) (a : Addr) (its : Array Value) : Begins (.ref a) (itrO b a) (fun h => IsSq b h a its) := by
  cases b with
  | true => exact begins_tuple a its
  | false => exact begins_list a its
theorem itr_new {h : Heap} (e : h.get? it = some (itrO b a)) : ItrAt b h it a 0 := by
  cases b with
  | true => exact ⟨_, e, rfl, rfl⟩
  | false => exact ⟨_, e, rfl, rfl⟩
end

/-! ### enumerate -/
def ItE (b : Bool) (K : PySem.W.Frag) (a : Addr) : It :=
  ⟨fun i H => ∃ (xs : List V) (x : V), SqK b K H a xs ∧ xs[i]? = some x,
    fun i H v H' => ∃ T x, v = .ref T ∧ H T = none ∧ H' = upd H T (.tup [.int (i : Nat), x]) ∧ ∀ xs, SqK b K H a xs → xs[i]? = some x,
    fun i H => ∃ xs : List V, SqK b K H a xs ∧ xs.length = i⟩
theorem turn_enumG {P : Program} {w : World} {K : PySem.W.Frag} {elts : List Expr} {kk : Nat} {tpos : Pos} (b : Bool) (a e it : Addr) :
    Turn P w K (.Tuple elts kk tpos) (ItE b K a) [e, it] e (fun i h => (∃ old, IsEnum h e it ((i : Nat) : Int) old) ∧ ItrAt b h it a i ∧ e ≠ it ∧ a ≠ it ∧ e ≠ a) where
  mem := by simp
  obj := fun i h st c hc => by
    obtain ⟨⟨old, he⟩, hi, _⟩ := st
    rcases (show c = e ∨ c = it by simpa using hc) with z | z
    · rw [z]; exact ⟨_, he, fun v q => nomatch q⟩
    · rw [z]; exact itr_obj hi
  keep := fun i h h' st k => by
    obtain ⟨⟨old, he⟩, hi, h3⟩ := st
    exact ⟨⟨old, k e (by simp) _ he⟩, itr_keep hi fun o q => k it (by simp) o q, h3⟩
  item := by
    intro X hP hw hK hc i pins s σ H E I hf st hg
    subst hP hw hK
    obtain ⟨⟨old, he⟩, hit, n1, n2, n3⟩ := st
    obtain ⟨xs, x, hq, hx⟩ := hg
    obtain ⟨its, rv, hsq, _⟩ := sqk_at I hq
    obtain ⟨u0, hu0, ru0⟩ := rv.get hx
    have hlt : i < its.toArray.size := by
      have := (List.getElem?_eq_some_iff.mp hu0).1
      simpa using this
    have W := GoesN.enumFrom (prog := X.prog) (w := X.w) (A := X.A) (elts := elts) (x1 := kk) (pos := tpos) 0 (sqk_draws (A := X.A.in1) (I.ok.hd hc) it a n2 its.toArray b) e n1 (by simp; exact ⟨n1, n3⟩) (by simp)
    refine W.goes i s _ E hlt ⟨⟨old, by rw [Int.zero_add]; exact he⟩, hit, hsq⟩ fun v h' tk hY st' hk _ => ?_
    obtain ⟨T, t, u, rfl, hT, hu, hTu⟩ := hY
    obtain ⟨⟨old', he'⟩, hit', _⟩ := st'
    have eu : u = u0 := by
      have h1 : its[i]? = some u := by simpa using hu
      rw [hu0] at h1
      exact (Option.some.inj h1).symm
    subst eu
    have new : ObjOk X.prog X.w (upd H T (.tup [.int (i : Nat), x])) h' T (.tup [.int (i : Nat), x]) :=
      ⟨by show 2 ≤ sizeLine; decide, [.int (0 + (i : Int)) t, u], .cons ⟨t, by rw [Int.zero_add]⟩ (.cons ru0 .nil), hTu⟩
    have J := I.turnedNew (t' := tk) (ch := [e, it]) hk hf hT new
    refine ⟨.ref T, _, J, rfl, ⟨T, x, rfl, I.hok.fresh hT, rfl, fun ys hy => by rw [sqk_inj I hy hq]; exact hx⟩, ⟨⟨old', ?_⟩, hit', n1, n2, n3⟩, fun c hcm => ?_⟩
    · have e1 : ((i + 1 : Nat) : Int) = 0 + ((i + 1 : Nat) : Int) := by omega
      rw [e1]; exact he'
    · have hcl : c < s.heap.objs.size := by
        rcases (show c = e ∨ c = it by simpa using hcm) with z | z
        · rw [z]; exact Heap.lt_size he
        · rw [z]; obtain ⟨o, q, _⟩ := itr_obj hit; exact Heap.lt_size q
      rw [upd_ne (Nat.ne_of_lt (Nat.lt_of_lt_of_le hcl hT))]
      exact (hf c hcm).1
  done := by
    intro X hP hw hK hc i pins s σ H E I hf st hg
    subst hP hw hK
    obtain ⟨⟨old, he⟩, hit, n1, n2, n3⟩ := st
    obtain ⟨xs, hq, hx⟩ := hg
    obtain ⟨its, rv, hsq, _⟩ := sqk_at I hq
    have hl := rv.length
    have W := GoesN.enumFrom (prog := X.prog) (w := X.w) (A := X.A) (elts := elts) (x1 := kk) (pos := tpos) 0 (sqk_draws (A := X.A.in1) (I.ok.hd hc) it a n2 its.toArray b) e n1 (by simp; exact ⟨n1, n3⟩) (by simp)
    have hn : its.toArray.size = i := by simp; omega
    exact W.stops s _ E (by rw [hn]; exact ⟨⟨old, by rw [Int.zero_add]; exact he⟩, hit, hsq⟩) fun h' tk hk _ => I.turnedL (t' := tk) (ch := [e, it]) hk hf
  self := fun A i s Q E st h => let ⟨⟨_, he⟩, _⟩ := st; wpAny_pyIter_enum he h

/-! ### zip of two -/
def ItZ (b1 b2 : Bool) (K : PySem.W.Frag) (a1 a2 : Addr) : It :=
  ⟨fun i H => ∃ (xs ys : List V) (x y : V), SqK b1 K H a1 xs ∧ SqK b2 K H a2 ys ∧ xs[i]? = some x ∧ ys[i]? = some y,
    fun i H v H' => ∃ T x y, v = .ref T ∧ H T = none ∧ H' = upd H T (.tup [x, y]) ∧ (∀ xs, SqK b1 K H a1 xs → xs[i]? = some x) ∧ ∀ ys, SqK b2 K H a2 ys → ys[i]? = some y,
    fun i H => ∃ xs ys : List V, SqK b1 K H a1 xs ∧ SqK b2 K H a2 ys ∧ min xs.length ys.length = i⟩
theorem turn_zipG {P : Program} {w : World} {K : PySem.W.Frag} {elts : List Expr} {kk : Nat} {tpos : Pos} (b1 b2 : Bool) {a1 a2 z TI TO i1 i2 : Addr} (Sp : ZipSep2 z TI TO i1 i2 [i1, a1] [i2, a2]) (n1 : a1 ≠ i1) (n2 : a2 ≠ i2) :
    Turn P w K (.Tuple elts kk tpos) (ItZ b1 b2 K a1 a2) [z, TI, TO, i1, i2] z (fun i h => IsZip h z TI TO .none ∧ IsTupOf2 h TI (.ref i1) (.ref i2) ∧ (∃ x y, IsTupOf2 h TO x y) ∧ ItrAt b1 h i1 a1 i ∧ ItrAt b2 h i2 a2 i) where
  mem := by simp
  obj := fun i h st c hc => by
    obtain ⟨hz, hTI, ⟨x, y, hTO⟩, h1, h2⟩ := st
    rcases (show c = z ∨ c = TI ∨ c = TO ∨ c = i1 ∨ c = i2 by simpa using hc) with q | q | q | q | q
    · rw [q]; exact ⟨_, hz, fun v q => nomatch q⟩
    · rw [q]; exact ⟨_, hTI, fun v q => nomatch q⟩
    · rw [q]; exact ⟨_, hTO, fun v q => nomatch q⟩
    · rw [q]; exact itr_obj h1
    · rw [q]; exact itr_obj h2
  keep := fun i h h' st k => by
    obtain ⟨hz, hTI, ⟨x, y, hTO⟩, h1, h2⟩ := st
    exact ⟨k z (by simp) _ hz, k TI (by simp) _ hTI, ⟨x, y, k TO (by simp) _ hTO⟩, itr_keep h1 fun o q => k i1 (by simp) o q, itr_keep h2 fun o q => k i2 (by simp) o q⟩
  item := by
    intro X hP hw hK hc i pins s σ H E I hf st hg
    subst hP hw hK
    obtain ⟨hz, hTI, hTO, h1, h2⟩ := st
    obtain ⟨xs, ys, x, y, hqx, hqy, hx, hy⟩ := hg
    obtain ⟨its, rv, p1, _⟩ := sqk_at I hqx
    obtain ⟨its2, rv2, p2, _⟩ := sqk_at I hqy
    obtain ⟨u1, hu1, ru1⟩ := rv.get hx
    obtain ⟨u2, hu2, ru2⟩ := rv2.get hy
    have l1 : i < its.toArray.size := by simpa using (List.getElem?_eq_some_iff.mp hu1).1
    have l2 : i < its2.toArray.size := by simpa using (List.getElem?_eq_some_iff.mp hu2).1
    have W := GoesN.zip2 (prog := X.prog) (w := X.w) (A := X.A) (elts := elts) (x1 := kk) (pos := tpos) Sp (sqk_draws (A := X.A.in1) (I.ok.hd hc) i1 a1 n1 its.toArray b1) (sqk_draws (A := X.A.in1) (I.ok.hd hc) i2 a2 n2 its2.toArray b2)
    have bef : ∀ c, c ∈ [z, TI, TO, i1, i2] → c < s.heap.objs.size := fun c hcm => by
      obtain ⟨x, y, hTO⟩ := hTO
      rcases (show c = z ∨ c = TI ∨ c = TO ∨ c = i1 ∨ c = i2 by simpa using hcm) with q | q | q | q | q
      · rw [q]; exact Heap.lt_size hz
      · rw [q]; exact Heap.lt_size hTI
      · rw [q]; exact Heap.lt_size hTO
      · rw [q]; obtain ⟨o, q, _⟩ := itr_obj h1; exact Heap.lt_size q
      · rw [q]; obtain ⟨o, q, _⟩ := itr_obj h2; exact Heap.lt_size q
    refine W.goes i s _ E (by omega) ⟨hz, hTI, hTO, ⟨h1, p1⟩, ⟨h2, p2⟩⟩ fun v h' tk hY st' hk _ => ?_
    obtain ⟨T, v1, v2, rfl, hT, hv1, hv2, hTu⟩ := hY
    obtain ⟨hz', hTI', hTO', ⟨h1', _⟩, ⟨h2', _⟩⟩ := st'
    have e1 : v1 = u1 := by
      have q : its[i]? = some v1 := by simpa using hv1
      rw [hu1] at q
      exact (Option.some.inj q).symm
    have e2 : v2 = u2 := by
      have q : its2[i]? = some v2 := by simpa using hv2
      rw [hu2] at q
      exact (Option.some.inj q).symm
    subst e1 e2
    have new : ObjOk X.prog X.w (upd H T (.tup [x, y])) h' T (.tup [x, y]) := ⟨by show 2 ≤ sizeLine; decide, [v1, v2], .cons ru1 (.cons ru2 .nil), hTu⟩
    have J := I.turnedNew (t' := tk) (ch := [z, TI, TO, i1, i2]) (fun c o hcm q => hk c o (fun q' => hcm (by simp at q' ⊢; rcases q' with q' | q' | q' | q' <;> simp [q'])) q) hf hT new
    refine ⟨.ref T, _, J, rfl, ⟨T, x, y, rfl, I.hok.fresh hT, rfl, fun l hl => by rw [sqk_inj I hl hqx]; exact hx, fun l hl => by rw [sqk_inj I hl hqy]; exact hy⟩, ⟨hz', hTI', hTO', h1', h2'⟩, fun c hcm => ?_⟩
    rw [upd_ne (Nat.ne_of_lt (Nat.lt_of_lt_of_le (bef c hcm) hT))]
    exact (hf c hcm).1
  done := by
    intro X hP hw hK hc i pins s σ H E I hf st hg
    subst hP hw hK
    obtain ⟨hz, hTI, hTO, h1, h2⟩ := st
    obtain ⟨xs, ys, hqx, hqy, hend⟩ := hg
    obtain ⟨its, rv, p1, _⟩ := sqk_at I hqx
    obtain ⟨its2, rv2, p2, _⟩ := sqk_at I hqy
    have W := GoesN.zip2 (prog := X.prog) (w := X.w) (A := X.A) (elts := elts) (x1 := kk) (pos := tpos) Sp (sqk_draws (A := X.A.in1) (I.ok.hd hc) i1 a1 n1 its.toArray b1) (sqk_draws (A := X.A.in1) (I.ok.hd hc) i2 a2 n2 its2.toArray b2)
    have hn : min its.toArray.size its2.toArray.size = i := by
      have := rv.length
      have := rv2.length
      simp; omega
    exact W.stops s _ E (by rw [hn]; exact ⟨hz, hTI, hTO, ⟨h1, p1⟩, ⟨h2, p2⟩⟩) fun h' tk hk _ => I.turnedL (t' := tk) (ch := [z, TI, TO, i1, i2]) (fun c o hcm q => hk c o (fun q' => hcm (by simp at q' ⊢; rcases q' with q' | q' | q' | q' <;> simp [q'])) q) hf
  self := fun A i s Q E st h => wpAny_pyIter_zip st.1 h

/-! ### zip of three -/
def ItZ3 (b1 b2 b3 : Bool) (K : PySem.W.Frag) (a1 a2 a3 : Addr) : It :=
  ⟨fun i H => ∃ (xs ys zs : List V) (x y z : V), SqK b1 K H a1 xs ∧ SqK b2 K H a2 ys ∧ SqK b3 K H a3 zs ∧ xs[i]? = some x ∧ ys[i]? = some y ∧ zs[i]? = some z,
    fun i H v H' => ∃ T x y z, v = .ref T ∧ H T = none ∧ H' = upd H T (.tup [x, y, z]) ∧ (∀ xs, SqK b1 K H a1 xs → xs[i]? = some x) ∧ (∀ ys, SqK b2 K H a2 ys → ys[i]? = some y) ∧ ∀ zs, SqK b3 K H a3 zs → zs[i]? = some z,
    fun i H => ∃ xs ys zs : List V, SqK b1 K H a1 xs ∧ SqK b2 K H a2 ys ∧ SqK b3 K H a3 zs ∧ min (min xs.length ys.length) zs.length = i⟩
theorem turn_zip3G {P : Program} {w : World} {K : PySem.W.Frag} {elts : List Expr} {kk : Nat} {tpos : Pos} (b1 b2 b3 : Bool) {a1 a2 a3 z TI TO i1 i2 i3 : Addr} (Sp : ZipSep3 z TI TO i1 i2 i3 [i1, a1] [i2, a2] [i3, a3]) (n1 : a1 ≠ i1) (n2 : a2 ≠ i2) (n3 : a3 ≠ i3) :
    Turn P w K (.Tuple elts kk tpos) (ItZ3 b1 b2 b3 K a1 a2 a3) [z, TI, TO, i1, i2, i3] z (fun i h => IsZip h z TI TO .none ∧ IsTupOf3 h TI (.ref i1) (.ref i2) (.ref i3) ∧ (∃ x y u, IsTupOf3 h TO x y u) ∧ ItrAt b1 h i1 a1 i ∧ ItrAt b2 h i2 a2 i ∧ ItrAt b3 h i3 a3 i) where
  mem := by simp
  obj := fun i h st c hc => by
    obtain ⟨hz, hTI, ⟨x, y, u, hTO⟩, h1, h2, h3⟩ := st
    rcases (show c = z ∨ c = TI ∨ c = TO ∨ c = i1 ∨ c = i2 ∨ c = i3 by simpa using hc) with q | q | q | q | q | q
    · rw [q]; exact ⟨_, hz, fun v q => nomatch q⟩
    · rw [q]; exact ⟨_, hTI, fun v q => nomatch q⟩
    · rw [q]; exact ⟨_, hTO, fun v q => nomatch q⟩
    · rw [q]; exact itr_obj h1
    · rw [q]; exact itr_obj h2
    · rw [q]; exact itr_obj h3
  keep := fun i h h' st k => by
    obtain ⟨hz, hTI, ⟨x, y, u, hTO⟩, h1, h2, h3⟩ := st
    exact ⟨k z (by simp) _ hz, k TI (by simp) _ hTI, ⟨x, y, u, k TO (by simp) _ hTO⟩, itr_keep h1 fun o q => k i1 (by simp) o q, itr_keep h2 fun o q => k i2 (by simp) o q, itr_keep h3 fun o q => k i3 (by simp) o q⟩
  item := by
    intro X hP hw hK hc i pins s σ H E I hf st hg
    subst hP hw hK
    obtain ⟨hz, hTI, hTO, h1, h2, h3⟩ := st
    obtain ⟨xs, ys, zs, x, y, u, hqx, hqy, hqz, hx, hy, hu⟩ := hg
    obtain ⟨its, rv, p1, _⟩ := sqk_at I hqx
    obtain ⟨its2, rv2, p2, _⟩ := sqk_at I hqy
    obtain ⟨its3, rv3, p3, _⟩ := sqk_at I hqz
    obtain ⟨u1, hu1, ru1⟩ := rv.get hx
    obtain ⟨u2, hu2, ru2⟩ := rv2.get hy
    obtain ⟨u3, hu3, ru3⟩ := rv3.get hu
    have l1 : i < its.toArray.size := by simpa using (List.getElem?_eq_some_iff.mp hu1).1
    have l2 : i < its2.toArray.size := by simpa using (List.getElem?_eq_some_iff.mp hu2).1
    have l3 : i < its3.toArray.size := by simpa using (List.getElem?_eq_some_iff.mp hu3).1
    have W := GoesN.zip3 (prog := X.prog) (w := X.w) (A := X.A) (elts := elts) (x1 := kk) (pos := tpos) Sp (sqk_draws (A := X.A.in1) (I.ok.hd hc) i1 a1 n1 its.toArray b1) (sqk_draws (A := X.A.in1) (I.ok.hd hc) i2 a2 n2 its2.toArray b2) (sqk_draws (A := X.A.in1) (I.ok.hd hc) i3 a3 n3 its3.toArray b3)
    have bef : ∀ c, c ∈ [z, TI, TO, i1, i2, i3] → c < s.heap.objs.size := fun c hcm => by
      obtain ⟨x, y, u, hTO⟩ := hTO
      rcases (show c = z ∨ c = TI ∨ c = TO ∨ c = i1 ∨ c = i2 ∨ c = i3 by simpa using hcm) with q | q | q | q | q | q
      · rw [q]; exact Heap.lt_size hz
      · rw [q]; exact Heap.lt_size hTI
      · rw [q]; exact Heap.lt_size hTO
      · rw [q]; obtain ⟨o, q, _⟩ := itr_obj h1; exact Heap.lt_size q
      · rw [q]; obtain ⟨o, q, _⟩ := itr_obj h2; exact Heap.lt_size q
      · rw [q]; obtain ⟨o, q, _⟩ := itr_obj h3; exact Heap.lt_size q
    refine W.goes i s _ E (by omega) ⟨hz, hTI, hTO, ⟨h1, p1⟩, ⟨h2, p2⟩, ⟨h3, p3⟩⟩ fun v h' tk hY st' hk _ => ?_
    obtain ⟨T, v1, v2, v3, rfl, hT, hv1, hv2, hv3, hTu⟩ := hY
    obtain ⟨hz', hTI', hTO', ⟨h1', _⟩, ⟨h2', _⟩, ⟨h3', _⟩⟩ := st'
    have e1 : v1 = u1 := by
      have q : its[i]? = some v1 := by simpa using hv1
      rw [hu1] at q
      exact (Option.some.inj q).symm
    have e2 : v2 = u2 := by
      have q : its2[i]? = some v2 := by simpa using hv2
      rw [hu2] at q
      exact (Option.some.inj q).symm
    have e3 : v3 = u3 := by
      have q : its3[i]? = some v3 := by simpa using hv3
      rw [hu3] at q
      exact (Option.some.inj q).symm
    subst e1 e2 e3
    have new : ObjOk X.prog X.w (upd H T (.tup [x, y, u])) h' T (.tup [x, y, u]) := ⟨by show 3 ≤ sizeLine; decide, [v1, v2, v3], .cons ru1 (.cons ru2 (.cons ru3 .nil)), hTu⟩
    have J := I.turnedNew (t' := tk) (ch := [z, TI, TO, i1, i2, i3]) (fun c o hcm q => hk c o (fun q' => hcm (by simp at q' ⊢; rcases q' with q' | q' | q' | q' | q' <;> simp [q'])) q) hf hT new
    refine ⟨.ref T, _, J, rfl, ⟨T, x, y, u, rfl, I.hok.fresh hT, rfl, fun l hl => by rw [sqk_inj I hl hqx]; exact hx, fun l hl => by rw [sqk_inj I hl hqy]; exact hy, fun l hl => by rw [sqk_inj I hl hqz]; exact hu⟩, ⟨hz', hTI', hTO', h1', h2', h3'⟩, fun c hcm => ?_⟩
    rw [upd_ne (Nat.ne_of_lt (Nat.lt_of_lt_of_le (bef c hcm) hT))]
    exact (hf c hcm).1
  done := by
    intro X hP hw hK hc i pins s σ H E I hf st hg
    subst hP hw hK
    obtain ⟨hz, hTI, hTO, h1, h2, h3⟩ := st
    obtain ⟨xs, ys, zs, hqx, hqy, hqz, hend⟩ := hg
    obtain ⟨its, rv, p1, _⟩ := sqk_at I hqx
    obtain ⟨its2, rv2, p2, _⟩ := sqk_at I hqy
    obtain ⟨its3, rv3, p3, _⟩ := sqk_at I hqz
    have W := GoesN.zip3 (prog := X.prog) (w := X.w) (A := X.A) (elts := elts) (x1 := kk) (pos := tpos) Sp (sqk_draws (A := X.A.in1) (I.ok.hd hc) i1 a1 n1 its.toArray b1) (sqk_draws (A := X.A.in1) (I.ok.hd hc) i2 a2 n2 its2.toArray b2) (sqk_draws (A := X.A.in1) (I.ok.hd hc) i3 a3 n3 its3.toArray b3)
    have hn : min (min its.toArray.size its2.toArray.size) its3.toArray.size = i := by
      have := rv.length
      have := rv2.length
      have := rv3.length
      simp; omega
    exact W.stops s _ E (by rw [hn]; exact ⟨hz, hTI, hTO, ⟨h1, p1⟩, ⟨h2, p2⟩, ⟨h3, p3⟩⟩) fun h' tk hk _ => I.turnedL (t' := tk) (ch := [z, TI, TO, i1, i2, i3]) (fun c o hcm q => hk c o (fun q' => hcm (by simp at q' ⊢; rcases q' with q' | q' | q' | q' | q' <;> simp [q'])) q) hf
  self := fun A i s Q E st h => wpAny_pyIter_zip st.1 h
end FB

/-! Targets, what is walked, comprehensions of one clause. -/
namespace FB
open PySem PySem.Spec PyProof.Rows L2

/-! ### enumerate of one argument: the iterator's cell, then its own -/
section
variable {prog : Program} {w : World} {A : Around} {E : Value → Shared → Prop} {s : Shared}
def enumO (a : Addr) : Obj := { cls := .type "enumerate", data := .fields #[.none, .bool false, .ref a, rawInt 0, .none, .none] }
set_option maxHeartbeats 1000000 in
theorem meets_enum1 {v : Value} {o : Obj} {H : Heap → Prop} (B : Begins v o H) :
    Meets (Builtin.«enumerate.__new__» ⟨[.type "enumerate", v], []⟩) (fun _ R s => H s.heap ∧ R (.ok (.ret (.ref (s.heap.push o).objs.size))) { s with heap := (s.heap.push o).push (enumO s.heap.objs.size) }) :=
  .of_wp fun prog w A R s hs => by
    obtain ⟨hp, g, dr, tk, os⟩ := s
    obtain ⟨hH, hR⟩ := hs
    have sub := sub_enumerate
    have step : ∀ {A' : Around} {E : Value → Shared → Prop} {Q : Value → Shared → Prop}, Q (.ref hp.objs.size) ⟨hp.push o, g, dr, tk, os⟩ → wpAny (model prog w) A' (pyIter v) Q E ⟨hp, g, dr, tk, os⟩ :=
      fun q => B.iter prog w _ _ ⟨hp, g, dr, tk, os⟩ _ hH q
    wp_walk using step
    refine wpAny_stack_any fun st => wpAny_pure ?_
    split
    · rename_i c _ _ _ _ _
      cases (c == Value.type "enumerate") <;> (wp_walk using step; exact ⟨_, rfl, hR⟩)
    · wp_walk using step
      exact ⟨_, rfl, hR⟩
theorem call_enum1 {v : Value} {o : Obj} {H : Heap → Prop} {Q : Value → Shared → Prop} (B : Begins v o H) (hH : H s.heap)
    (h : ∀ h', IsEnum h' (s.heap.objs.size + 1) s.heap.objs.size 0 .none → h'.get? s.heap.objs.size = some o → (∀ b o, s.heap.get? b = some o → h'.get? b = some o) → Q (.ref (s.heap.objs.size + 1)) { s with heap := h' }) :
    wpAny (model prog w) A (call (.type "enumerate") [v]) Q E s := by
  refine callType_new F.called_enumerate (by decide) (F.typeCall_enumerate_1 _) (F.newCall_enumerate_1 _) (fun x => F.args_object_init_2 x _) F.entry_enumerate_new (meets_enum1 B) ⟨hH, ?_⟩
  have hz : (s.heap.push o).objs.size = s.heap.objs.size + 1 := Heap.size_push ..
  have he : IsEnum ((s.heap.push o).push (enumO s.heap.objs.size)) (s.heap.objs.size + 1) s.heap.objs.size 0 .none := by
    have q := Heap.get?_push_size (s.heap.push o) (o := enumO s.heap.objs.size) rfl
    rw [hz] at q
    exact q
  show _ ∧ _
  rw [hz]
  exact ⟨⟨_, he, rfl⟩, h _ he (Heap.get?_push_of_some _ (Heap.get?_push_size _ B.free)) fun b o x => Heap.get?_push_of_some _ (Heap.get?_push_of_some _ x)⟩
end
/-! ### targets -/
abbrev Bd := D → Envr → Option Envr
abbrev Bds := List D → Envr → Option Envr
section
variable {K : PySem.W.Frag} {th : List Addr} {G H H0 : Hp} {σ : L2.St} {ρ : Envr}
theorem EnvOk.set (e : EnvOk K th G H H0 σ ρ) (i : Nat) {v : V} {d : D} (r : Rep K th G v d) : EnvOk K th G H H0 (σ.set i (some v)) (ρ.set i (.dat d)) := by
  refine ⟨by simp [e.len], fun j d' q => ?_, fun j d' q => ?_, fun j l d1 d2 a n q1 q2 h1 => ?_⟩
  · by_cases hj : i = j
    · subst hj
      have hi : i < ρ.length := by have := (List.getElem?_eq_some_iff.mp q).1; simpa using this
      rw [List.getElem?_set_self hi] at q
      cases q
      exact ⟨v, List.getElem?_set_self (by rw [← e.len]; exact hi), r⟩
    · rw [List.getElem?_set_ne hj] at q
      obtain ⟨w, h1, h2⟩ := e.dat j d' q
      exact ⟨w, by rw [List.getElem?_set_ne hj]; exact h1, h2⟩
  · by_cases hj : i = j
    · subst hj
      have hi : i < ρ.length := by have := (List.getElem?_eq_some_iff.mp q).1; simpa using this
      rw [List.getElem?_set_self hi] at q
      cases q
    · rw [List.getElem?_set_ne hj] at q
      obtain ⟨a, h1, h2⟩ := e.own j d' q
      exact ⟨a, by rw [List.getElem?_set_ne hj]; exact h1, h2⟩
  · by_cases hj : i = j
    · subst hj
      have hi : i < ρ.length := by have := (List.getElem?_eq_some_iff.mp q1).1; simpa using this
      rw [List.getElem?_set_self hi] at q1
      cases q1
    · by_cases hl : i = l
      · subst hl
        have hi : i < ρ.length := by have := (List.getElem?_eq_some_iff.mp q2).1; simpa using this
        rw [List.getElem?_set_self hi] at q2
        cases q2
      · rw [List.getElem?_set_ne hj] at q1 h1
        rw [List.getElem?_set_ne hl] at q2 ⊢
        exact e.sep j l d1 d2 a n q1 q2 h1
def wipeE (ρ : Envr) : List Nat → Envr
  | [] => ρ
  | v :: vs => (wipeE ρ vs).set v .no
theorem EnvOk.wipe1 (e : EnvOk K th G H H0 σ ρ) (i : Nat) : EnvOk K th G H H0 (σ.set i none) (ρ.set i .no) := by
  refine ⟨by simp [e.len], fun j d' q => ?_, fun j d' q => ?_, fun j l d1 d2 a n q1 q2 h1 => ?_⟩
  · by_cases hj : i = j
    · subst hj
      have hi : i < ρ.length := by have := (List.getElem?_eq_some_iff.mp q).1; simpa using this
      rw [List.getElem?_set_self hi] at q
      cases q
    · rw [List.getElem?_set_ne hj] at q
      obtain ⟨w, h1, h2⟩ := e.dat j d' q
      exact ⟨w, by rw [List.getElem?_set_ne hj]; exact h1, h2⟩
  · by_cases hj : i = j
    · subst hj
      have hi : i < ρ.length := by have := (List.getElem?_eq_some_iff.mp q).1; simpa using this
      rw [List.getElem?_set_self hi] at q
      cases q
    · rw [List.getElem?_set_ne hj] at q
      obtain ⟨a, h1, h2⟩ := e.own j d' q
      exact ⟨a, by rw [List.getElem?_set_ne hj]; exact h1, h2⟩
  · by_cases hj : i = j
    · subst hj
      have hi : i < ρ.length := by have := (List.getElem?_eq_some_iff.mp q1).1; simpa using this
      rw [List.getElem?_set_self hi] at q1
      cases q1
    · by_cases hl : i = l
      · subst hl
        have hi : i < ρ.length := by have := (List.getElem?_eq_some_iff.mp q2).1; simpa using this
        rw [List.getElem?_set_self hi] at q2
        cases q2
      · rw [List.getElem?_set_ne hj] at q1 h1
        rw [List.getElem?_set_ne hl] at q2 ⊢
        exact e.sep j l d1 d2 a n q1 q2 h1
theorem EnvOk.wipe (e : EnvOk K th G H H0 σ ρ) : ∀ vs, EnvOk K th G H H0 (wipe σ vs) (wipeE ρ vs)
  | [] => e
  | v :: vs => (EnvOk.wipe e vs).wipe1 v
end
theorem wipe_at (σ : L2.St) (i : Nat) : ∀ {vs : List Nat}, i ∉ vs → (wipe σ vs)[i]? = σ[i]?
  | [], _ => rfl
  | v :: vs, h => by
    have h1 : i ≠ v := fun e => h (by simp [e])
    have h2 : i ∉ vs := fun e => h (by simp [e])
    show ((L2.wipe σ vs).set v none)[i]? = _
    rw [List.getElem?_set_ne (Ne.symm h1)]
    exact wipe_at σ i h2
theorem wipe_in (σ : L2.St) (i : Nat) : ∀ {vs : List Nat}, i ∈ vs → i < σ.length → (wipe σ vs)[i]? = some none
  | v :: vs, h, hl => by
    show ((L2.wipe σ vs).set v none)[i]? = _
    by_cases e : v = i
    · subst e
      rw [List.getElem?_set_self (by rw [wipe_length]; exact hl)]
    · rw [List.getElem?_set_ne e]
      exact wipe_in σ i (by rcases List.mem_cons.mp h with q | q; exact absurd q.symm e; exact q) hl
theorem wipe_eq {σ σ' : L2.St} {vs : List Nat} (hl : σ'.length = σ.length) (h : ∀ j, j ∉ vs → σ'[j]? = σ[j]?) : wipe σ' vs = wipe σ vs := by
  apply List.ext_getElem?
  intro i
  by_cases hi : i ∈ vs
  · by_cases hlt : i < σ.length
    · rw [wipe_in σ i hi hlt, wipe_in σ' i hi (by omega)]
    · rw [List.getElem?_eq_none (by rw [wipe_length]; omega), List.getElem?_eq_none (by rw [wipe_length]; omega)]
  · rw [wipe_at σ i hi, wipe_at σ' i hi]
    exact h i hi
theorem wipe_wipe (σ : L2.St) (vs : List Nat) : wipe (wipe σ vs) vs = wipe σ vs := wipe_eq (wipe_length σ vs) fun _ h => wipe_at σ _ h

def tG (X : Cx) (is : List Nat) (b : Bd) : TG := fun v σ H Q => ∃ S th G H0 ρ d ρ', Wd X.K X.mg S th G H ∧ EnvOk X.K th G H H0 σ ρ ∧ Rep X.K th G v d ∧ b d ρ = some ρ' ∧ ∀ σ', EnvOk X.K th G H H0 σ' ρ' → (∀ j, j ∉ is → σ'[j]? = σ[j]?) → σ'.length = σ.length → Q σ' H
def tGs (X : Cx) (is : List Nat) (b : Bds) : TGs := fun vs σ H Q => ∃ S th G H0 ρ ds ρ', Wd X.K X.mg S th G H ∧ EnvOk X.K th G H H0 σ ρ ∧ RepL X.K th G vs ds ∧ b ds ρ = some ρ' ∧ ∀ σ', EnvOk X.K th G H H0 σ' ρ' → (∀ j, j ∉ is → σ'[j]? = σ[j]?) → σ'.length = σ.length → Q σ' H
def DG (X : Cx) (tg : Expr) (is : List Nat) (b : Bd) : Prop := PG X tg (tG X is b)
def DGs (X : Cx) (tg : List Expr) (is : List Nat) (b : Bds) : Prop := PGs X tg (tGs X is b)
def bName (i : Nat) : Bd := fun d ρ => some (ρ.set i (.dat d))
def bNil : Bds := fun ds ρ => match ds with
  | [] => some ρ
  | _ => none
def bCons (b : Bd) (bs : Bds) : Bds := fun ds ρ => match ds with
  | d :: ds => (b d ρ).bind fun ρ1 => bs ds ρ1
  | [] => none
def bTup (bs : Bds) : Bd := fun d ρ => match d with
  | .tup ds => bs ds ρ
  | _ => none
section
variable {X : Cx} {tg e : Expr} {es : List Expr} {is js : List Nat} {b : Bd} {bs : Bds} {pos : Pos}
theorem PG.weak {t u : TG} (h : PG X tg t) (k : ∀ v σ H Q, u v σ H Q → t v σ H Q) : PG X tg u := ⟨fun pins s σ H v x Q I r q => h.run pins s σ H v x Q I r (k v σ H Q q)⟩
theorem PGs.weak {t u : TGs} (h : PGs X es t) (k : ∀ v σ H Q, u v σ H Q → t v σ H Q) : PGs X es u := ⟨fun pins s σ H v x Q I r q => h.run pins s σ H v x Q I r (k v σ H Q q)⟩
theorem dg_name (i : Nat) {x : Str} (hN : X.N.Nodup) (hi : X.N[i]? = some x := by rfl) (hx : Loc X.env.scope x := by first | exact Or.inl rfl | exact Or.inr rfl) (hf : X.fn x = true ∨ X.env.scope.names.lookup x = some .local := by first | exact .inl rfl | exact .inr rfl) :
    DG X (.Name x pos) [i] (bName i) := PG.weak (pg_name hN hi hx hf) fun v σ H Q ⟨S, th, G, H0, ρ, d, ρ', w, eo, r, hb, q⟩ => by
  cases hb
  exact q _ (eo.set i r) (fun j hj => List.getElem?_set_ne (fun z => hj (by simp [z]))) (by simp)
theorem dgs_nil : DGs X [] [] bNil := PGs.weak pgs_nil fun v σ H Q ⟨S, th, G, H0, ρ, ds, ρ', w, eo, r, hb, q⟩ => by
  cases r with
  | nil => cases hb; exact ⟨rfl, q σ eo (fun _ _ => rfl) rfl⟩
  | cons _ _ => cases hb
theorem dgs_cons (h : DG X e is b) (hs : DGs X es js bs) (ha : (assignEach (e :: es) X.env).map (·.2) = assign e X.env :: (assignEach es X.env).map (·.2) := by rfl) : DGs X (e :: es) (is ++ js) (bCons b bs) :=
  PGs.weak (pgs_cons h hs ha) fun v σ H Q ⟨S, th, G, H0, ρ, ds, ρ', w, eo, r, hb, q⟩ => by
    cases r with
    | nil => cases hb
    | @cons v d vs ds r1 r2 =>
      have hb : (b d ρ).bind (fun ρ1 => bs ds ρ1) = some ρ' := hb
      rw [Option.bind_eq_some_iff] at hb
      obtain ⟨ρ1, h1, h2⟩ := hb
      refine ⟨v, vs, rfl, S, th, G, H0, ρ, d, ρ1, w, eo, r1, h1, fun σ1 e1 k1 l1 => ?_⟩
      refine ⟨S, th, G, H0, ρ1, ds, ρ', w, e1, r2, h2, fun σ2 e2 k2 l2 => q σ2 e2 (fun j hj => ?_) (l2.trans l1)⟩
      rw [List.mem_append, not_or] at hj
      exact (k2 j hj.2).trans (k1 j hj.1)
theorem dg_tup {k : Nat} {n : Nat} (hc : X.calm = true) (h : DGs X es is bs) (hlen : ∀ ds ρ ρ', bs ds ρ = some ρ' → ds.length = n) (hn : (assignEach es X.env).length = n := by rfl) (hst : (assignEach es X.env).findIdx? (·.1) = none := by rfl) :
    DG X (.Tuple es k pos) is (bTup bs) := PG.weak (pg_tup hc h hn hst) fun v σ H Q ⟨S, th, G, H0, ρ, d, ρ', w, eo, r, hb, q⟩ => by
  cases d <;> try (cases hb; done)
  rename_i ds
  have hb : bs ds ρ = some ρ' := hb
  cases r with
  | tup h1 h2 => exact ⟨_, _, rfl, sqT_mono (fun _ _ => w.rd) h1, by rw [h2.length]; exact hlen _ _ _ hb, S, th, G, H0, ρ, ds, ρ', w, eo, h2, hb, q⟩
theorem len_nil : ∀ (ds : List D) (ρ ρ' : Envr), bNil ds ρ = some ρ' → ds.length = 0
  | [], _, _, _ => rfl
theorem len_cons {n : Nat} (h : ∀ ds ρ ρ', bs ds ρ = some ρ' → ds.length = n) : ∀ (ds : List D) (ρ ρ' : Envr), bCons b bs ds ρ = some ρ' → ds.length = n + 1
  | d :: ds, ρ, ρ', e => by
    have e : (b d ρ).bind (fun ρ1 => bs ds ρ1) = some ρ' := e
    rw [Option.bind_eq_some_iff] at e
    obtain ⟨ρ1, _, h2⟩ := e
    rw [List.length_cons, h _ _ _ h2]
end

/-! ### what is walked -/
/-- it yields ds, wherever the data stand -/
def ItOk (X : Cx) (J : It) (th : List Addr) (G : Hp) (ds : List D) : Prop :=
  ∀ (S1 : Store) (th1 : List Addr) (G1 H1 : Hp), Wd X.K X.mg S1 th1 G1 H1 → (∀ (n : Nat) a, th[n]? = some a → th1[n]? = some a) → (∀ a o, G a = some o → G1 a = some o) →
    (∀ i, i < ds.length → J.go i H1) ∧ J.stop ds.length H1 ∧ ∀ i x H', i < ds.length → J.yld i H1 x H' → ∃ G' d, Wd X.K X.mg S1 th1 G' H' ∧ Ext th1 G1 H1 th1 G' H' ∧ ds[i]? = some d ∧ Rep X.K th1 G' x d
def PostI (X : Cx) (H : Hp) (th : List Addr) (G : Hp) (R : It → Hp → Prop) : List D → Store → Prop := fun ds S' => ∀ J th' G' H', Wd X.K X.mg S' th' G' H' → Ext th G H th' G' H' → ItOk X J th' G' ds → R J H'
def tI (X : Cx) (W : WX) (m : Envr → M (List D)) : TI := fun σ H R => ∃ S th G H0 ρ, Wd X.K X.mg S th G H ∧ EnvOk X.K th G H H0 σ ρ ∧ (m ρ S).wp (PostI X H th G R) (PostX X (fun c d h => W c d σ h) H th G)
def DI (X : Cx) (W : WX) (tg iter : Expr) (m : Envr → M (List D)) : Prop := PI X tg iter (tI X W m)
section
variable {X : Cx} {W : WX} {R : RK} {e a b c tg : Expr} {m ma mb mc : Envr → M D} {S : Store} {th : List Addr} {G H H0 : Hp} {σ : L2.St} {ρ : Envr} {pos : Pos}
theorem PI.weak {t u : TI} (h : PI X tg e t) (k : ∀ σ H Q, u σ H Q → t σ H Q) : PI X tg e u := ⟨fun pins s σ H Q I q => h.run pins s σ H Q I (k σ H Q q)⟩
theorem rd_of_keep {G1 : Hp} (h : ∀ a o, G a = some o → G1 a = some o) : ∀ a u, Rd G a u → Rd G1 a u := fun a u q => by
  rcases q with q | ⟨o, q⟩
  · exact .inl (h _ _ q)
  · exact .inr ⟨o, h _ _ q⟩
theorem RepL.keeps {K : PySem.W.Frag} {th1 : List Addr} {G1 : Hp} {vs : List V} {ds : List D} (h : RepL K th G vs ds) (ht : ∀ (n : Nat) a, th[n]? = some a → th1[n]? = some a) (hG : ∀ a o, G a = some o → G1 a = some o) : RepL K th1 G1 vs ds :=
  h.mono ht (fun _ _ => hG _ _) (rd_of_keep hG)
theorem itok_list {a : Addr} {xs : List V} {ds : List D} (h : G a = some (.lst xs)) (r : RepL X.K th G xs ds) : ItOk X (Itl X.K a) th G ds := fun S1 th1 G1 H1 w ht hG => by
  have hq : SqL X.K H1 a xs := SqL.of (w.sub _ _ (hG _ _ h))
  have r1 := r.keeps ht hG
  refine ⟨fun i hi => ?_, ⟨xs, hq, by rw [r1.length]; exact Nat.le_refl _⟩, fun i x H' hi hy => ?_⟩
  · obtain ⟨v, hv, _⟩ := r1.get (List.getElem?_eq_getElem hi)
    exact ⟨xs, v, hq, hv⟩
  · obtain ⟨rfl, h2⟩ := hy
    obtain ⟨d, hd, rd⟩ := r1.getV (h2 xs hq)
    exact ⟨G1, d, w, Ext.refl, hd, rd⟩
theorem itok_tup {a : Addr} {xs : List V} {ds : List D} (h : SqT X.K G a xs) (r : RepL X.K th G xs ds) : ItOk X (Itt X.K a) th G ds := fun S1 th1 G1 H1 w ht hG => by
  have hq : SqT X.K H1 a xs := sqT_mono (fun _ _ => w.rd) (sqT_mono (rd_of_keep hG) h)
  have r1 := r.keeps ht hG
  refine ⟨fun i hi => ?_, ⟨xs, hq, by rw [r1.length]; exact Nat.le_refl _⟩, fun i x H' hi hy => ?_⟩
  · obtain ⟨v, hv, _⟩ := r1.get (List.getElem?_eq_getElem hi)
    exact ⟨xs, v, hq, hv⟩
  · obtain ⟨rfl, h2⟩ := hy
    obtain ⟨d, hd, rd⟩ := r1.getV (h2 xs hq)
    exact ⟨G1, d, w, Ext.refl, hd, rd⟩
def itemsD : D → M (List D)
  | .lst ds => pure ds
  | .tup ds => pure ds
  | _ => fail
theorem items_wp {d : D} {Qb : List D → Store → Prop} {E : Str → D → Store → Prop} (h : (itemsD d S).wp Qb E) : ∃ ds, (d = .lst ds ∨ d = .tup ds) ∧ Qb ds S := by
  cases d <;> try exact h.elim
  · exact ⟨_, .inr rfl, h⟩
  · exact ⟨_, .inl rfl, h⟩
/-- a data list or tuple -/
theorem di_seq (h : DX X W rE e m) : DI X W tg e (fun ρ => do let x ← m ρ; itemsD x) := ⟨fun pins s σ H R I ⟨S, th, G, H0, ρ, w, eo, q⟩ => by
  rw [wp_bind] at q
  cases hm : m ρ S with
  | bad => rw [hm] at q; exact q.elim
  | exc c p S1 =>
    rw [hm] at q
    refine (pi_list h).run pins s σ H R I ⟨S, th, G, H0, ρ, w, eo, ?_⟩
    rw [hm]
    exact q
  | ok d S1 =>
    rw [hm] at q
    obtain ⟨ds, hd, q1⟩ := items_wp q
    rcases hd with rfl | rfl
    · refine (pi_list h).run pins s σ H R I ⟨S, th, G, H0, ρ, w, eo, ?_⟩
      rw [hm]
      intro v th1 G1 H1 w1 e1 r1
      cases r1 with
      | lst h1 h2 => exact ⟨_, rfl, ⟨_, SqL.of (w1.sub _ _ h1)⟩, q1 _ th1 G1 H1 w1 e1 (itok_list h1 h2)⟩
    · refine (pi_tup h).run pins s σ H R I ⟨S, th, G, H0, ρ, w, eo, ?_⟩
      rw [hm]
      intro v th1 G1 H1 w1 e1 r1
      cases r1 with
      | tup h1 h2 => exact ⟨_, rfl, ⟨_, sqT_mono (fun _ _ => w1.rd) h1⟩, q1 _ th1 G1 H1 w1 e1 (itok_tup h1 h2)⟩⟩
/-! ### ranges -/
def rgD (a b : Int) : List D := (List.range (b - a).toNat).map fun i => D.int (a + (i : Nat))
def rgOk (a b : Int) : Bool := decide (-(2 ^ 62) ≤ a ∧ a < 2 ^ 62 ∧ -(2 ^ 62) ≤ b ∧ b < 2 ^ 62)
theorem rgD_length (a b : Int) : (rgD a b).length = (b - a).toNat := by unfold rgD; rw [List.length_map, List.length_range]
theorem itok_range (a b : Int) : ItOk X (Itr a (b - a).toNat) th G (rgD a b) := fun S1 th1 G1 H1 w ht hG => by
  refine ⟨fun i hi => by rw [rgD_length] at hi; exact hi, by rw [rgD_length]; exact Nat.le_refl _, fun i x H' hi hy => ?_⟩
  obtain ⟨rfl, rfl⟩ := hy
  refine ⟨G1, .int (a + i), w, Ext.refl, ?_, .int _⟩
  rw [rgD_length] at hi
  unfold rgD
  rw [List.getElem?_map, List.getElem?_range hi]
  rfl
def range1 (x : D) : M (List D) := do
  let i ← asI x
  if rgOk 0 i = true then pure (rgD 0 i) else fail
def range2 (x y : D) : M (List D) := do
  let i ← asI x
  let j ← asI y
  if rgOk i j = true then pure (rgD i j) else fail
theorem range1_wp {d : D} {Qb : List D → Store → Prop} {E : Str → D → Store → Prop} (h : (range1 d S).wp Qb E) : ∃ i, d = .int i ∧ rgOk 0 i = true ∧ Qb (rgD 0 i) S := by
  unfold range1 at h
  rw [wp_bind] at h
  obtain ⟨i, rfl, h1⟩ := asI_wp h
  by_cases c : rgOk 0 i = true
  · rw [if_pos c] at h1; exact ⟨i, rfl, c, h1⟩
  · rw [if_neg c] at h1; exact h1.elim
theorem range2_wp {d e : D} {Qb : List D → Store → Prop} {E : Str → D → Store → Prop} (h : (range2 d e S).wp Qb E) : ∃ i j, d = .int i ∧ e = .int j ∧ rgOk i j = true ∧ Qb (rgD i j) S := by
  unfold range2 at h
  rw [wp_bind] at h
  obtain ⟨i, rfl, h1⟩ := asI_wp h
  rw [wp_bind] at h1
  obtain ⟨j, rfl, h2⟩ := asI_wp h1
  by_cases c : rgOk i j = true
  · rw [if_pos c] at h2; exact ⟨i, j, rfl, rfl, c, h2⟩
  · rw [if_neg c] at h2; exact h2.elim
theorem rgOk_iff {i j : Int} (h : rgOk i j = true) : -(2 ^ 62) ≤ i ∧ i < 2 ^ 62 ∧ -(2 ^ 62) ≤ j ∧ j < 2 ^ 62 := of_decide_eq_true h
theorem di_range1 {p : Pos} (ha : DX X W rE a m) (hg : Gl X "range" := by rfl) (hm : X.mg "range" = none) (hs : starEach [a] X.env = [(false, eval a X.env)] := by rfl) (hs1 : starEach [a] X.env = (false, eval a X.env) :: starEach [] X.env := by rfl) :
    DI X W tg (.Call (.Name "range" p) [a] [] pos) (fun ρ => do let x ← m ρ; range1 x) := PI.weak (pi_range1 hg hm (pa_cons ha pa_nil hs1) hs) fun σ H Q ⟨S, th, G, H0, ρ, w, eo, q⟩ => by
  refine tD.run w eo q fun d S1 v th1 G1 H1 w1 e1 r1 eo1 q1 => ?_
  obtain ⟨i, rfl, c, q2⟩ := range1_wp q1
  cases r1
  obtain ⟨_, _, c3, c4⟩ := rgOk_iff c
  refine ⟨i, rfl, c3, c4, q2 _ th1 G1 H1 w1 e1 ?_⟩
  have := itok_range (X := X) (th := th1) (G := G1) 0 i
  rwa [Int.sub_zero] at this
theorem di_range2 {p : Pos} (ha : DX X W rE a ma) (hb : DX X W rE b mb) (hg : Gl X "range" := by rfl) (hm : X.mg "range" = none) (hs : starEach [a, b] X.env = [(false, eval a X.env), (false, eval b X.env)] := by rfl) (hs2 : starEach [b] X.env = [(false, eval b X.env)] := by rfl)
    (hs3 : starEach [a, b] X.env = (false, eval a X.env) :: starEach [b] X.env := by rfl) (hs4 : starEach [b] X.env = (false, eval b X.env) :: starEach [] X.env := by rfl) :
    DI X W tg (.Call (.Name "range" p) [a, b] [] pos) (fun ρ => do let x ← ma ρ; let y ← mb ρ; range2 x y) := PI.weak (pi_range2 hg hm (pa_cons ha (pa_cons hb pa_nil hs4) hs3) hs hs2) fun σ H Q ⟨S, th, G, H0, ρ, w, eo, q⟩ => by
  refine tD.run w eo q fun d S1 v th1 G1 H1 w1 e1 r1 eo1 q1 => ?_
  refine ⟨S1, th1, G1, H0, ρ, w1, eo1, ?_⟩
  rw [wp_bind] at q1
  refine q1.mono (fun e S2 q2 y th2 G2 H2 w2 e2 r2 => ?_) fun _ _ _ z => z.back e1
  obtain ⟨i, j, rfl, rfl, c, q3⟩ := range2_wp q2
  cases r1
  cases r2
  exact ⟨i, j, rfl, rgOk_iff c, q3 _ th2 G2 H2 w2 (e1.trans e2) (itok_range i j)⟩
/-! ### enumerate, zip -/
/-- sequences as data: what kind, where -/
theorem seq_of {d : D} {ds : List D} {v : V} (r : Rep X.K th G v d) (hd : d = .lst ds ∨ d = .tup ds) : ∃ (b : Bool) (a : Addr) (xs : List V), v = .ref a ∧ RepL X.K th G xs ds ∧ ∀ th1 (G1 H1 : Hp) S1, Wd X.K X.mg S1 th1 G1 H1 → (∀ a o, G a = some o → G1 a = some o) → SqK b X.K H1 a xs := by
  rcases hd with rfl | rfl
  · cases r with
    | lst h1 h2 => exact ⟨false, _, _, rfl, h2, fun th1 G1 H1 S1 w hG => SqL.of (w.sub _ _ (hG _ _ h1))⟩
  · cases r with
    | tup h1 h2 => exact ⟨true, _, _, rfl, h2, fun th1 G1 H1 S1 w hG => sqT_mono (fun _ _ => w.rd) (sqT_mono (rd_of_keep hG) h1)⟩
def enumD : Nat → List D → List D
  | _, [] => []
  | i, d :: ds => .tup [.int (i : Nat), d] :: enumD (i + 1) ds
theorem enumD_length : ∀ (i : Nat) (ds : List D), (enumD i ds).length = ds.length
  | _, [] => rfl
  | i, d :: ds => congrArg (· + 1) (enumD_length (i + 1) ds)
theorem enumD_get : ∀ (i : Nat) (ds : List D) (j : Nat), (enumD i ds)[j]? = ds[j]?.map fun d => .tup [.int ((i + j : Nat) : Int), d]
  | _, [], _ => by simp [enumD]
  | i, d :: ds, 0 => by simp [enumD]
  | i, d :: ds, j + 1 => by
    have := enumD_get (i + 1) ds j
    simp only [enumD, List.getElem?_cons_succ]
    rw [this]
    have e : i + 1 + j = i + (j + 1) := by omega
    rw [e]
def zipD : List D → List D → List D
  | x :: xs, y :: ys => .tup [x, y] :: zipD xs ys
  | _, _ => []
theorem zipD_length : ∀ (xs ys : List D), (zipD xs ys).length = min xs.length ys.length
  | [], _ => by simp [zipD]
  | _ :: _, [] => by simp [zipD]
  | _ :: xs, _ :: ys => by simp only [zipD, List.length_cons, zipD_length xs ys]; omega
theorem zipD_get : ∀ (xs ys : List D) (j : Nat) (x y : D), xs[j]? = some x → ys[j]? = some y → (zipD xs ys)[j]? = some (.tup [x, y])
  | _ :: _, _ :: _, 0, _, _, h1, h2 => by simp at h1 h2; subst h1 h2; simp [zipD]
  | _ :: xs, _ :: ys, j + 1, x, y, h1, h2 => by simp only [zipD, List.getElem?_cons_succ]; exact zipD_get xs ys j x y (by simpa using h1) (by simpa using h2)
  | [], _, _, _, _, h1, _ => by simp at h1
  | _ :: _, [], _, _, _, _, h2 => by simp at h2
def zip3D : List D → List D → List D → List D
  | x :: xs, y :: ys, z :: zs => .tup [x, y, z] :: zip3D xs ys zs
  | _, _, _ => []
theorem zip3D_length : ∀ (xs ys zs : List D), (zip3D xs ys zs).length = min (min xs.length ys.length) zs.length
  | [], _, _ => by simp [zip3D]
  | _ :: _, [], _ => by simp [zip3D]
  | _ :: _, _ :: _, [] => by simp [zip3D]
  | _ :: xs, _ :: ys, _ :: zs => by simp only [zip3D, List.length_cons, zip3D_length xs ys zs]; omega
theorem zip3D_get : ∀ (xs ys zs : List D) (j : Nat) (x y z : D), xs[j]? = some x → ys[j]? = some y → zs[j]? = some z → (zip3D xs ys zs)[j]? = some (.tup [x, y, z])
  | _ :: _, _ :: _, _ :: _, 0, _, _, _, h1, h2, h3 => by simp at h1 h2 h3; subst h1 h2 h3; simp [zip3D]
  | _ :: xs, _ :: ys, _ :: zs, j + 1, x, y, z, h1, h2, h3 => by simp only [zip3D, List.getElem?_cons_succ]; exact zip3D_get xs ys zs j x y z (by simpa using h1) (by simpa using h2) (by simpa using h3)
  | [], _, _, _, _, _, _, h1, _, _ => by simp at h1
  | _ :: _, [], _, _, _, _, _, _, h2, _ => by simp at h2
  | _ :: _, _ :: _, [], _, _, _, _, _, _, h3 => by simp at h3
theorem itok_enum {a : Addr} {b : Bool} {xs : List V} {ds : List D} (r : RepL X.K th G xs ds) (h : ∀ th1 (G1 H1 : Hp) S1, Wd X.K X.mg S1 th1 G1 H1 → (∀ a o, G a = some o → G1 a = some o) → SqK b X.K H1 a xs) : ItOk X (ItE b X.K a) th G (enumD 0 ds) := fun S1 th1 G1 H1 w ht hG => by
  have hq := h th1 G1 H1 S1 w hG
  have r1 := r.keeps ht hG
  rw [enumD_length]
  refine ⟨fun i hi => ?_, ⟨xs, hq, r1.length⟩, fun i x H' hi hy => ?_⟩
  · obtain ⟨v, hv, _⟩ := r1.get (List.getElem?_eq_getElem hi)
    exact ⟨xs, v, hq, hv⟩
  · obtain ⟨T, x, rfl, hT, rfl, h2⟩ := hy
    obtain ⟨d, hd, rd⟩ := r1.getV (h2 xs hq)
    obtain ⟨w2, e2⟩ := w.laidG (o := .tup [.int (i : Nat), x]) hT
    refine ⟨_, _, w2, e2, by rw [enumD_get, hd, Nat.zero_add]; rfl, .tup (.inl (.inl upd_same)) (.cons (.int _) (.cons (e2.rep rd) .nil))⟩
theorem itok_zip {a1 a2 : Addr} {b1 b2 : Bool} {xs ys : List V} {ds es : List D} (r1 : RepL X.K th G xs ds) (r2 : RepL X.K th G ys es)
    (h1 : ∀ th1 (G1 H1 : Hp) S1, Wd X.K X.mg S1 th1 G1 H1 → (∀ a o, G a = some o → G1 a = some o) → SqK b1 X.K H1 a1 xs)
    (h2 : ∀ th1 (G1 H1 : Hp) S1, Wd X.K X.mg S1 th1 G1 H1 → (∀ a o, G a = some o → G1 a = some o) → SqK b2 X.K H1 a2 ys) : ItOk X (ItZ b1 b2 X.K a1 a2) th G (zipD ds es) := fun S1 th1 G1 H1 w ht hG => by
  have q1 := h1 th1 G1 H1 S1 w hG
  have q2 := h2 th1 G1 H1 S1 w hG
  have r1 := r1.keeps ht hG
  have r2 := r2.keeps ht hG
  rw [zipD_length]
  refine ⟨fun i hi => ?_, ⟨xs, ys, q1, q2, by rw [r1.length, r2.length]⟩, fun i x H' hi hy => ?_⟩
  · obtain ⟨v, hv, _⟩ := r1.get (List.getElem?_eq_getElem (show i < ds.length by omega))
    obtain ⟨u, hu, _⟩ := r2.get (List.getElem?_eq_getElem (show i < es.length by omega))
    exact ⟨xs, ys, v, u, q1, q2, hv, hu⟩
  · obtain ⟨T, x, y, rfl, hT, rfl, g1, g2⟩ := hy
    obtain ⟨d, hd, rd⟩ := r1.getV (g1 xs q1)
    obtain ⟨e, he, re⟩ := r2.getV (g2 ys q2)
    obtain ⟨w2, e2⟩ := w.laidG (o := .tup [x, y]) hT
    exact ⟨_, _, w2, e2, zipD_get ds es i d e hd he, .tup (.inl (.inl upd_same)) (.cons (e2.rep rd) (.cons (e2.rep re) .nil))⟩
theorem itok_zip3 {a1 a2 a3 : Addr} {b1 b2 b3 : Bool} {xs ys zs : List V} {ds es fs : List D} (r1 : RepL X.K th G xs ds) (r2 : RepL X.K th G ys es) (r3 : RepL X.K th G zs fs)
    (h1 : ∀ th1 (G1 H1 : Hp) S1, Wd X.K X.mg S1 th1 G1 H1 → (∀ a o, G a = some o → G1 a = some o) → SqK b1 X.K H1 a1 xs)
    (h2 : ∀ th1 (G1 H1 : Hp) S1, Wd X.K X.mg S1 th1 G1 H1 → (∀ a o, G a = some o → G1 a = some o) → SqK b2 X.K H1 a2 ys)
    (h3 : ∀ th1 (G1 H1 : Hp) S1, Wd X.K X.mg S1 th1 G1 H1 → (∀ a o, G a = some o → G1 a = some o) → SqK b3 X.K H1 a3 zs) : ItOk X (ItZ3 b1 b2 b3 X.K a1 a2 a3) th G (zip3D ds es fs) := fun S1 th1 G1 H1 w ht hG => by
  have q1 := h1 th1 G1 H1 S1 w hG
  have q2 := h2 th1 G1 H1 S1 w hG
  have q3 := h3 th1 G1 H1 S1 w hG
  have r1 := r1.keeps ht hG
  have r2 := r2.keeps ht hG
  have r3 := r3.keeps ht hG
  rw [zip3D_length]
  refine ⟨fun i hi => ?_, ⟨xs, ys, zs, q1, q2, q3, by rw [r1.length, r2.length, r3.length]⟩, fun i x H' hi hy => ?_⟩
  · obtain ⟨v, hv, _⟩ := r1.get (List.getElem?_eq_getElem (show i < ds.length by omega))
    obtain ⟨u, hu, _⟩ := r2.get (List.getElem?_eq_getElem (show i < es.length by omega))
    obtain ⟨z, hz, _⟩ := r3.get (List.getElem?_eq_getElem (show i < fs.length by omega))
    exact ⟨xs, ys, zs, v, u, z, q1, q2, q3, hv, hu, hz⟩
  · obtain ⟨T, x, y, z, rfl, hT, rfl, g1, g2, g3⟩ := hy
    obtain ⟨d, hd, rd⟩ := r1.getV (g1 xs q1)
    obtain ⟨e, he, re⟩ := r2.getV (g2 ys q2)
    obtain ⟨f, hf, rf⟩ := r3.getV (g3 zs q3)
    obtain ⟨w2, e2⟩ := w.laidG (o := .tup [x, y, z]) hT
    exact ⟨_, _, w2, e2, zip3D_get ds es fs i d e f hd he hf, .tup (.inl (.inl upd_same)) (.cons (e2.rep rd) (.cons (e2.rep re) (.cons (e2.rep rf) .nil)))⟩
/-- new things are fit to be an iterator's own -/
theorem fp_new {pins : List (Addr × Obj)} {s1 : Shared} (I1 : Inv X pins σ H s1) {c : Addr} (h : s1.heap.objs.size ≤ c) : FpOk X pins H c := I1.fpOk h (I1.hok.fresh h)
theorem di_enum {p tpos : Pos} {elts : List Expr} {kk : Nat} (ha : DX X W rE e m) (hg : Gl X "enumerate" := by rfl) (hm : X.mg "enumerate" = none) (hs : starEach [e] X.env = [(false, eval e X.env)] := by rfl) (hs1 : starEach [e] X.env = (false, eval e X.env) :: starEach [] X.env := by rfl) :
    DI X W (.Tuple elts kk tpos) (.Call (.Name "enumerate" p) [e] [] pos) (fun ρ => do let x ← m ρ; let ds ← itemsD x; pure (enumD 0 ds)) := ⟨fun pins s σ H R I ⟨S, th, G, H0, ρ, w, eo, q⟩ => by
  have PAe : PA X [e] (tCons (tD X W rE m) tNil) := pa_cons ha pa_nil hs1
  refine Call_ (ld_blt I hg hm boot_enumerate (PyProof.Rows.callWith_type1 (thn (PAe.run pos pins s σ H (fun vs H1 => ∃ (b : Bool) (a : Addr) (xs : List V), vs = [.ref a] ∧ SqK b X.K H1 a xs ∧ R (ItE b X.K a) H1) I (tD.run w eo q fun d S1 v th1 G1 H1 w1 e1 r1 eo1 q1 => ?_)) fun us s1 ⟨vs, H1, I1, rv, b, a, xs, ev, hq, qR⟩ => ?_) hs rfl))
  · rw [wp_bind] at q1
    obtain ⟨ds, hd, q2⟩ := items_wp q1
    obtain ⟨b, a, xs, rfl, hr, hh⟩ := seq_of r1 hd
    exact ⟨b, a, xs, rfl, hh th1 G1 H1 S1 w1 (fun _ _ z => z), q2 _ th1 G1 H1 w1 e1 (itok_enum hr hh)⟩
  · subst ev
    obtain ⟨u, rfl, ru⟩ := vals1 rv
    cases (show u = Value.ref a from ru)
    obtain ⟨its, rvs, hsq, hlt⟩ := sqk_at I1 hq
    refine call_enum1 (sq_begins b a its.toArray) hsq fun h' he hi0 hk => wpAny_pyIter_enum he ?_
    have I2 : Inv X pins σ H1 { s1 with heap := h' } := I1.kept (t' := s1.toks) hk
    refine ⟨s1.heap.objs.size + 1, [s1.heap.objs.size + 1, s1.heap.objs.size], _, _, H1, rfl, I2, turn_enumG b a (s1.heap.objs.size + 1) s1.heap.objs.size, ⟨⟨.none, he⟩, itr_new hi0, Nat.succ_ne_self _, Nat.ne_of_lt hlt, Nat.ne_of_gt (Nat.lt_succ_of_lt hlt)⟩, fun c hc => fp_new I1 ?_, qR⟩
    rcases (show c = s1.heap.objs.size + 1 ∨ c = s1.heap.objs.size by simpa using hc) with z | z
    · rw [z]; exact Nat.le_succ _
    · rw [z]; exact Nat.le_refl _⟩
end
end FB

/-! zip as what is walked; list comprehensions. -/
namespace FB
open PySem PySem.Spec PyProof.Rows L2
section
variable {X : Cx} {W : WX} {R : RK} {e a b c tg : Expr} {m ma mb mc : Envr → M D} {S : Store} {th : List Addr} {G H H0 : Hp} {σ : L2.St} {ρ : Envr} {pos : Pos}
theorem new_of (n k : Nat) : (n : Nat) ≤ n + k := Nat.le_add_right _ _
theorem di_zip2 {p tpos : Pos} {elts : List Expr} {kk : Nat} (ha : DX X W rE a ma) (hb : DX X W rE b mb) (hg : Gl X "zip" := by rfl) (hm : X.mg "zip" = none)
    (hs : starEach [a, b] X.env = (false, eval a X.env) :: starEach [b] X.env := by rfl) (hs1 : starEach [b] X.env = (false, eval b X.env) :: starEach [] X.env := by rfl) (hpl : (backTo pos (starEach [b] X.env)).any (·.1) = false := by rfl) :
    DI X W (.Tuple elts kk tpos) (.Call (.Name "zip" p) [a, b] [] pos) (fun ρ => do
      let x ← ma ρ
      let y ← mb ρ
      let xs ← itemsD x
      let ys ← itemsD y
      pure (zipD xs ys)) := ⟨fun pins s σ H R I ⟨S, th, G, H0, ρ, w, eo, q⟩ => by
  have PAe : PA X [a, b] (tCons (tD X W rE ma) (tCons (tD X W rE mb) tNil)) := pa_cons ha (pa_cons hb pa_nil hs1) hs
  refine Call_ (ld_blt I hg hm PyProof.Rows.boot_zip (PyProof.Rows.callWith_type1 (thn (PAe.run pos pins s σ H (fun vs H1 => ∃ (b1 b2 : Bool) (a1 a2 : Addr) (xs ys : List V), vs = [.ref a1, .ref a2] ∧ SqK b1 X.K H1 a1 xs ∧ SqK b2 X.K H1 a2 ys ∧ R (ItZ b1 b2 X.K a1 a2) H1) I (tD.run w eo q fun d S1 v th1 G1 H1 w1 e1 r1 eo1 q1 => ?_)) fun us s1 ⟨vs, H1, I1, rv, b1, b2, a1, a2, xs, ys, ev, hq1, hq2, qR⟩ => ?_) hs hpl))
  · refine ⟨S1, th1, G1, H0, ρ, w1, eo1, ?_⟩
    rw [wp_bind] at q1
    refine q1.mono (fun e S2 q2 y th2 G2 H2 w2 e2 r2 => ?_) fun _ _ _ z => z.back e1
    rw [wp_bind] at q2
    obtain ⟨ds, hd, q3⟩ := items_wp q2
    rw [wp_bind] at q3
    obtain ⟨es, he, q4⟩ := items_wp q3
    obtain ⟨b1, a1, xs, rfl, hr1, hh1⟩ := seq_of (e2.rep r1) hd
    obtain ⟨b2, a2, ys, rfl, hr2, hh2⟩ := seq_of r2 he
    exact ⟨b1, b2, a1, a2, xs, ys, rfl, hh1 th2 G2 H2 S2 w2 (fun _ _ z => z), hh2 th2 G2 H2 S2 w2 (fun _ _ z => z), q4 _ th2 G2 H2 w2 (e1.trans e2) (itok_zip hr1 hr2 hh1 hh2)⟩
  · subst ev
    obtain ⟨u1, u2, rfl, ru1, ru2⟩ := vals2 rv
    cases (show u1 = Value.ref a1 from ru1)
    cases (show u2 = Value.ref a2 from ru2)
    obtain ⟨its, rvs, hsq, hlt⟩ := sqk_at I1 hq1
    obtain ⟨its2, rvs2, hsq2, hlt2⟩ := sqk_at I1 hq2
    refine zip_begins2 (sq_begins b1 a1 its.toArray) (sq_begins b2 a2 its2.toArray) hsq hsq2 fun h' hz hTI hTO hi1 hi2 hsz hk => wpAny_pyIter_zip hz ?_
    have I2 : Inv X pins σ H1 { s1 with heap := h' } := I1.kept (t' := s1.toks) hk
    have Sp := zip_sep2 (N := s1.heap.objs.size) (fp1 := [a1]) (fp2 := [a2]) (by simpa using hlt) (by simpa using hlt2)
    refine ⟨s1.heap.objs.size + 4, [s1.heap.objs.size + 4, s1.heap.objs.size + 2, s1.heap.objs.size + 3, s1.heap.objs.size, s1.heap.objs.size + 1], _, _, H1, rfl, I2, turn_zipG b1 b2 Sp (Nat.ne_of_lt hlt) (Nat.ne_of_lt (Nat.lt_succ_of_lt hlt2)), ⟨hz, hTI, ⟨_, _, hTO⟩, itr_new hi1, itr_new hi2⟩, fun c hc => fp_new I1 ?_, qR⟩
    rcases (show c = s1.heap.objs.size + 4 ∨ c = s1.heap.objs.size + 2 ∨ c = s1.heap.objs.size + 3 ∨ c = s1.heap.objs.size ∨ c = s1.heap.objs.size + 1 by simpa using hc) with z | z | z | z | z
    all_goals (rw [z]; first | exact new_of _ _ | exact Nat.le_refl _)⟩
theorem vals3 {x y z : V} {us : List Value} (r : Vals [x, y, z] us) : ∃ u1 u2 u3, us = [u1, u2, u3] ∧ RelV x u1 ∧ RelV y u2 ∧ RelV z u3 := by
  cases r with
  | cons r1 r =>
    obtain ⟨u2, u3, rfl, r2, r3⟩ := vals2 r
    exact ⟨_, _, _, rfl, r1, r2, r3⟩
theorem di_zip3 {p tpos : Pos} {elts : List Expr} {kk : Nat} (ha : DX X W rE a ma) (hb : DX X W rE b mb) (hcc : DX X W rE c mc) (hg : Gl X "zip" := by rfl) (hm : X.mg "zip" = none)
    (hs : starEach [a, b, c] X.env = (false, eval a X.env) :: starEach [b, c] X.env := by rfl) (hs1 : starEach [b, c] X.env = (false, eval b X.env) :: starEach [c] X.env := by rfl) (hs2 : starEach [c] X.env = (false, eval c X.env) :: starEach [] X.env := by rfl) (hpl : (backTo pos (starEach [b, c] X.env)).any (·.1) = false := by rfl) :
    DI X W (.Tuple elts kk tpos) (.Call (.Name "zip" p) [a, b, c] [] pos) (fun ρ => do
      let x ← ma ρ
      let y ← mb ρ
      let z ← mc ρ
      let xs ← itemsD x
      let ys ← itemsD y
      let zs ← itemsD z
      pure (zip3D xs ys zs)) := ⟨fun pins s σ H R I ⟨S, th, G, H0, ρ, w, eo, q⟩ => by
  have PAe : PA X [a, b, c] (tCons (tD X W rE ma) (tCons (tD X W rE mb) (tCons (tD X W rE mc) tNil))) := pa_cons ha (pa_cons hb (pa_cons hcc pa_nil hs2) hs1) hs
  refine Call_ (ld_blt I hg hm PyProof.Rows.boot_zip (PyProof.Rows.callWith_type1 (thn (PAe.run pos pins s σ H (fun vs H1 => ∃ (b1 b2 b3 : Bool) (a1 a2 a3 : Addr) (xs ys zs : List V), vs = [.ref a1, .ref a2, .ref a3] ∧ SqK b1 X.K H1 a1 xs ∧ SqK b2 X.K H1 a2 ys ∧ SqK b3 X.K H1 a3 zs ∧ R (ItZ3 b1 b2 b3 X.K a1 a2 a3) H1) I (tD.run w eo q fun d S1 v th1 G1 H1 w1 e1 r1 eo1 q1 => ?_)) fun us s1 ⟨vs, H1, I1, rv, b1, b2, b3, a1, a2, a3, xs, ys, zs, ev, hq1, hq2, hq3, qR⟩ => ?_) hs hpl))
  · refine ⟨S1, th1, G1, H0, ρ, w1, eo1, ?_⟩
    rw [wp_bind] at q1
    refine q1.mono (fun e S2 q2 y th2 G2 H2 w2 e2 r2 => ?_) fun _ _ _ z => z.back e1
    refine ⟨S2, th2, G2, H0, ρ, w2, eo1.ext e2, ?_⟩
    rw [wp_bind] at q2
    refine q2.mono (fun f S3 q3 z th3 G3 H3 w3 e3 r3 => ?_) fun _ _ _ z => z.back (e1.trans e2)
    rw [wp_bind] at q3
    obtain ⟨ds, hd, q4⟩ := items_wp q3
    rw [wp_bind] at q4
    obtain ⟨es, he, q5⟩ := items_wp q4
    rw [wp_bind] at q5
    obtain ⟨fs, hf, q6⟩ := items_wp q5
    obtain ⟨b1, a1, xs, rfl, hr1, hh1⟩ := seq_of (e3.rep (e2.rep r1)) hd
    obtain ⟨b2, a2, ys, rfl, hr2, hh2⟩ := seq_of (e3.rep r2) he
    obtain ⟨b3, a3, zs, rfl, hr3, hh3⟩ := seq_of r3 hf
    exact ⟨b1, b2, b3, a1, a2, a3, xs, ys, zs, rfl, hh1 th3 G3 H3 S3 w3 (fun _ _ z => z), hh2 th3 G3 H3 S3 w3 (fun _ _ z => z), hh3 th3 G3 H3 S3 w3 (fun _ _ z => z), q6 _ th3 G3 H3 w3 ((e1.trans e2).trans e3) (itok_zip3 hr1 hr2 hr3 hh1 hh2 hh3)⟩
  · subst ev
    obtain ⟨u1, u2, u3, rfl, ru1, ru2, ru3⟩ := vals3 rv
    cases (show u1 = Value.ref a1 from ru1)
    cases (show u2 = Value.ref a2 from ru2)
    cases (show u3 = Value.ref a3 from ru3)
    obtain ⟨its, rvs, hsq, hlt⟩ := sqk_at I1 hq1
    obtain ⟨its2, rvs2, hsq2, hlt2⟩ := sqk_at I1 hq2
    obtain ⟨its3, rvs3, hsq3, hlt3⟩ := sqk_at I1 hq3
    refine zip_begins3 (sq_begins b1 a1 its.toArray) (sq_begins b2 a2 its2.toArray) (sq_begins b3 a3 its3.toArray) hsq hsq2 hsq3 fun h' hz hTI hTO hi1 hi2 hi3 hsz hk => wpAny_pyIter_zip hz ?_
    have I2 : Inv X pins σ H1 { s1 with heap := h' } := I1.kept (t' := s1.toks) hk
    have Sp := zip_sep3 (N := s1.heap.objs.size) (fp1 := [a1]) (fp2 := [a2]) (fp3 := [a3]) (by simpa using hlt) (by simpa using hlt2) (by simpa using hlt3)
    refine ⟨s1.heap.objs.size + 5, [s1.heap.objs.size + 5, s1.heap.objs.size + 3, s1.heap.objs.size + 4, s1.heap.objs.size, s1.heap.objs.size + 1, s1.heap.objs.size + 2], _, _, H1, rfl, I2, turn_zip3G b1 b2 b3 Sp (Nat.ne_of_lt hlt) (Nat.ne_of_lt (Nat.lt_succ_of_lt hlt2)) (Nat.ne_of_lt (Nat.lt_succ_of_lt (Nat.lt_succ_of_lt hlt3))), ⟨hz, hTI, ⟨_, _, _, hTO⟩, itr_new hi1, itr_new hi2, itr_new hi3⟩, fun c hc => fp_new I1 ?_, qR⟩
    rcases (show c = s1.heap.objs.size + 5 ∨ c = s1.heap.objs.size + 3 ∨ c = s1.heap.objs.size + 4 ∨ c = s1.heap.objs.size ∨ c = s1.heap.objs.size + 1 ∨ c = s1.heap.objs.size + 2 by simpa using hc) with z | z | z | z | z | z
    all_goals (rw [z]; first | exact new_of _ _ | exact Nat.le_refl _)⟩

/-! ### list comprehensions -/
def DTs (X : Cx) (W : WX) (ifs : List Expr) (m : Envr → M Bool) : Prop := PTs X ifs (tDT X W m)
theorem PTs.weak {ifs : List Expr} {t u : TT} (h : PTs X ifs t) (k : ∀ σ H Q, u σ H Q → t σ H Q) : PTs X ifs u := ⟨fun pins s σ H Q I q => h.run pins s σ H Q I (k σ H Q q)⟩
theorem dts_nil : DTs X W [] (fun _ => pure true) := PTs.weak pts_nil fun σ H Q ⟨S, th, G, H0, ρ, w, eo, q⟩ => q th G H w Ext.refl
theorem dts_one {m : Envr → M Bool} (h : DT X W e m) : DTs X W [e] m := pts_one h
/-- no exception may leave -/
def noX {α : Type} (m : M α) : M α := fun S => match m S with
  | .ok a S' => .ok a S'
  | _ => .bad
theorem noX_wp {α : Type} {m : M α} {Qb : α → Store → Prop} {E : Str → D → Store → Prop} (h : (noX m S).wp Qb E) : (m S).wp Qb fun _ _ _ => False := by
  unfold noX at h
  cases e : m S with
  | ok a S' => rw [e] at h; exact h
  | exc c p S' => rw [e] at h; exact h
  | bad => rw [e] at h; exact h
@[simp] theorem noX_pure {α : Type} (a : α) : noX (pure a : M α) = pure a := (rfl)
/-- the turns of a comprehension -/
def forC (b : Bd) (body : Envr → M (List D)) : List D → Envr → M (List D)
  | [], _ => pure []
  | x :: xs, ρ => match b x ρ with
    | none => fail
    | some ρ1 => do
      let ys ← body ρ1
      let zs ← forC b body xs ρ
      pure (ys ++ zs)
def lcBody (t : Envr → M Bool) (el : Envr → M D) : Envr → M (List D) := fun ρ => do
  let ok ← t ρ
  if ok then (do let y ← el ρ; pure [y]) else pure []
def W0 : WX := fun _ _ _ _ => False
def mkL (ys : List D) : M D := if ys.length ≤ sizeLine then pure (.lst ys) else fail
theorem mkL_wp {ys : List D} {Qb : D → Store → Prop} {E : Str → D → Store → Prop} (h : (mkL ys S).wp Qb E) : ys.length ≤ sizeLine ∧ Qb (.lst ys) S := by
  unfold mkL at h
  by_cases c : ys.length ≤ sizeLine
  · rw [if_pos c] at h; exact ⟨c, h⟩
  · rw [if_neg c] at h; exact h.elim
/-- the invariant of a comprehension: what is made so far stands at D; what is left runs well -/
def LcAt (X : Cx) (th0 : List Addr) (G0 H1 : Hp) (H0 : Hp) (σ0 : L2.St) (ρ0 : Envr) (Q : VK) (Dd : Addr) (rest : M (List D)) (H : Hp) : Prop :=
  ∃ S th G acc ys, Wd X.K X.mg S th G H ∧ EnvOk X.K th G H H0 σ0 ρ0 ∧ Ext th0 G0 H1 th G H ∧ H1 Dd = none ∧ H Dd = some (.lst acc) ∧ G Dd = none ∧ Dd ∉ th ∧ RepL X.K th G acc ys ∧
    (rest S).wp (fun zs S' => (ys ++ zs).length ≤ sizeLine ∧ Post X rF H1 th0 G0 Q (.lst (ys ++ zs)) S') fun _ _ _ => False
theorem lc_items {own : List (Str × Nat)} {it : Envr → M (List D)} {is : List Nat} {bd : Bd} {t : Envr → M Bool} {el : Envr → M D} {Q : VK} (hsub : ∀ j ∈ is, j ∈ own.map Prod.snd)
    (q : tD X W rF (fun ρ => do
      let ds ← it ρ
      let ys ← noX (forC bd (lcBody t el) ds (wipeE ρ (own.map Prod.snd)))
      mkL ys) σ H Q) : tLc (tI X W it) (tG X is bd) (tDT X W0 t) (tD X W0 rE el) (own.map Prod.snd) σ H Q := by
  obtain ⟨S, th, G, H0, ρ, w, eo, q⟩ := q
  rw [wp_bind] at q
  refine ⟨S, th, G, H0, ρ, w, eo, q.mono (fun ds S1 q1 J th1 G1 H1 w1 e1 hJ Dd hD => ?_) fun _ _ _ z => z⟩
  rw [wp_bind] at q1
  have q2 := noX_wp q1
  have eo1 : EnvOk X.K th1 G1 H1 H0 (wipe σ (own.map Prod.snd)) (wipeE ρ (own.map Prod.snd)) := (eo.ext e1).wipe _
  refine ⟨fun i k Hc => k = ds.length - i ∧ i ≤ ds.length ∧ LcAt X th1 G1 H1 H0 (wipe σ (own.map Prod.snd)) (wipeE ρ (own.map Prod.snd)) (fun v h => Q v h) Dd (forC bd (lcBody t el) (ds.drop i) (wipeE ρ (own.map Prod.snd))) Hc, ⟨ds.length, by simp, Nat.zero_le _, ?_⟩, ?_⟩
  · obtain ⟨w2, e2⟩ := w1.laidH (o := .lst []) hD
    refine ⟨S1, th1, G1, [], [], w2, eo1.ext e2, e2, hD, upd_same, w1.gfree hD, fun z => w1.thDom z hD, .nil, ?_⟩
    rw [List.drop_zero]
    refine q2.mono (fun zs S2 q3 => ?_) fun _ _ _ z => z
    obtain ⟨hz, q4⟩ := mkL_wp q3
    exact ⟨hz, fun v th3 G3 H3 w3 e3 r3 => q4 v th3 G3 H3 w3 (e1.trans e3) (rF.bk.go e1 r3)⟩
  · rintro i k Hc ⟨rfl, hi, Sc, thc, Gc, acc, ys, wc, eoc, ec, hD1, hDc, gDc, nDc, rc, qc⟩
    obtain ⟨hgo, hstop, hyld⟩ := hJ Sc thc Gc Hc wc (fun n a h => ec.get h) ec.g
    by_cases hlt : i < ds.length
    · refine .inr ⟨hgo i hlt, fun Hn => LcAt X th1 G1 H1 H0 (wipe σ (own.map Prod.snd)) (wipeE ρ (own.map Prod.snd)) (fun v h => Q v h) Dd (forC bd (lcBody t el) (ds.drop (i + 1)) (wipeE ρ (own.map Prod.snd))) Hn, fun Hn hn => ⟨ds.length - (i + 1), by omega, rfl, hlt, hn⟩, fun x H' hy => ?_⟩
      obtain ⟨G', d, w', e', hd, rd⟩ := hyld i x H' hlt hy
      have hdrop : ds.drop i = d :: ds.drop (i + 1) := by
        rw [List.drop_eq_getElem_cons hlt]
        have := (List.getElem?_eq_some_iff.mp hd).2
        rw [this]
      rw [hdrop] at qc
      cases hb : bd d (wipeE ρ (own.map Prod.snd)) with
      | none => simp only [forC, hb] at qc; exact qc.elim
      | some ρ1 =>
        simp only [forC, hb] at qc
        rw [wp_bind] at qc
        have keepD : ∀ {tha : List Addr} {Ga Ha : Hp}, Ext thc Gc Hc tha Ga Ha → Ha Dd = some (.lst acc) ∧ Ga Dd = none ∧ Dd ∉ tha := fun {tha Ga Ha} ea => by
          refine ⟨ea.keep _ _ hDc nDc, ?_, ea.nth (by rw [hDc]; simp) nDc⟩
          cases g : Ga Dd with
          | none => rfl
          | some o =>
            rcases ea.new Dd (by rw [g]; simp) with z | z
            · exact absurd gDc z
            · rw [hDc] at z; cases z
        refine ⟨Sc, thc, G', H0, wipeE ρ (own.map Prod.snd), d, ρ1, w', eoc.ext e', rd, hb, fun σ2 eo2 k2 l2 => ⟨?_, ?_⟩⟩
        · rw [← wipe_wipe σ (own.map Prod.snd)]
          exact wipe_eq l2 fun j hj => k2 j fun z => hj (hsub j z)
        · refine ⟨Sc, thc, G', H0, ρ1, w', eo2, ?_⟩
          have qt : ((do let ok ← t ρ1; if ok then (do let y ← el ρ1; pure [y]) else pure []) Sc).wp _ _ := qc
          rw [wp_bind] at qt
          refine qt.mono (fun ok S3 q3 th3 G3 H3 w3 e3 => ?_) fun _ _ _ z => z.elim
          cases ok with
          | false =>
            rw [if_neg Bool.false_ne_true]
            have q3 : ((do let zs ← forC bd (lcBody t el) (ds.drop (i + 1)) (wipeE ρ (own.map Prod.snd)); pure ([] ++ zs)) S3).wp _ _ := q3
            rw [wp_bind] at q3
            obtain ⟨k1, k2', k3⟩ := keepD (e'.trans e3)
            exact ⟨S3, th3, G3, acc, ys, w3, (eoc.ext e').ext e3, (ec.trans e').trans e3, hD1, k1, k2', k3, (e'.trans e3).repL rc, q3.mono (fun zs S4 q4 => q4) fun _ _ _ z => z⟩
          | true =>
            rw [if_pos rfl]
            have q3 : ((do let y ← el ρ1; pure [y]) S3).wp (fun a S' => ((do let zs ← forC bd (lcBody t el) (ds.drop (i + 1)) (wipeE ρ (own.map Prod.snd)); pure (a ++ zs)) S').wp _ _) _ := q3
            rw [wp_bind] at q3
            refine ⟨S3, th3, G3, H0, ρ1, w3, eo2.ext e3, q3.mono (fun y S4 q4 v th4 G4 H4 w4 e4 r4 => ?_) fun _ _ _ z => z.elim⟩
            have q4 : ((do let zs ← forC bd (lcBody t el) (ds.drop (i + 1)) (wipeE ρ (own.map Prod.snd)); pure ([y] ++ zs)) S4).wp _ _ := q4
            rw [wp_bind] at q4
            obtain ⟨k1, k2', k3⟩ := keepD ((e'.trans e3).trans e4)
            have eAll := (e'.trans e3).trans e4
            have hacc : acc.length = ys.length := rc.length
            have hsz : acc.length < sizeLine := by
              obtain ⟨zs, S5, _, hz, _⟩ := wp_okE q4
              have hz : (ys ++ ([y] ++ zs)).length ≤ sizeLine := hz
              rw [List.length_append, List.length_append, List.length_singleton] at hz
              omega
            refine ⟨acc, k1, hsz, ?_⟩
            -- the list grows
            have ne : ∀ b, b ≠ Dd → upd H4 Dd (.lst (acc ++ [v])) b = H4 b := fun b hb => upd_ne hb
            have w5 : Wd X.K X.mg S4 th4 G4 (upd H4 Dd (.lst (acc ++ [v]))) := ⟨fun b o h => by rw [ne b (fun z => by rw [z, k2'] at h; cases h)]; exact w4.sub b o h, w4.len, w4.nog, w4.nd, fun n mo b h1 h2 => by
              have hb : b ≠ Dd := fun z => k3 (by rw [← z]; exact List.mem_of_getElem? h2)
              have q := w4.obj n mo b h1 h2
              cases mo with
              | lst l => obtain ⟨us, q1, q2⟩ := q; exact ⟨us, by rw [ne b hb]; exact q1, q2⟩
              | ins C fs => obtain ⟨Ca, dx, us, q0, q1, q2⟩ := q; exact ⟨Ca, dx, us, q0, by rw [ne b hb]; exact q1, q2⟩⟩
            have ext5 : Ext th1 G1 H1 th4 G4 (upd H4 Dd (.lst (acc ++ [v]))) := by
              have e := ec.trans eAll
              refine ⟨e.tt, e.g, e.new, fun b o h n => ?_, fun b h => ?_⟩
              · rw [ne b (fun z => by rw [z, hD1] at h; cases h)]; exact e.keep b o h n
              · by_cases hb : b = Dd
                · rw [hb, upd_same]; simp
                · rw [ne b hb]; exact e.dom b h
            have eo5 : EnvOk X.K th4 G4 (upd H4 Dd (.lst (acc ++ [v]))) H0 (wipe σ (own.map Prod.snd)) (wipeE ρ (own.map Prod.snd)) := eo1.ext ext5
            exact ⟨S4, th4, G4, acc ++ [v], ys ++ [y], w5, eo5, ext5, hD1, upd_same, k2', k3, (eAll.repL rc).append (RepL.one r4), q4.mono (fun zs S5 q5 => by rw [List.append_assoc]; exact q5) fun _ _ _ z => z⟩
    · have e : i = ds.length := by omega
      subst e
      refine .inl ⟨hstop, ?_⟩
      rw [List.drop_length] at qc
      have qc : (ys ++ []).length ≤ sizeLine ∧ Post X rF H1 th1 G1 Q (.lst (ys ++ [])) Sc := qc
      rw [List.append_nil] at qc
      exact qc.2 _ thc Gc Hc wc ec ⟨Dd, rfl, hD1, gDc, nDc, acc, hDc, rc⟩
end
end FB

/-! List comprehensions of one clause as expressions; of any number of clauses. -/
namespace FB
open PySem PySem.Spec PyProof.Rows L2
section
variable {X : Cx} {W : WX} {σ : L2.St} {ρ : Envr} {pos : Pos}
def eLc (it : Envr → M (List D)) (own : List Nat) (bd : Bd) (body : Envr → M (List D)) : Envr → M D := fun ρ => do
  let ds ← it ρ
  let ys ← noX (forC bd body ds (wipeE ρ own))
  mkL ys
theorem d_lc {elt tg iter : Expr} {ifs : List Expr} {scope : Scope} {own : List (Str × Nat)} {it : Envr → M (List D)} {is : List Nat} {bd : Bd} {t : Envr → M Bool} {el : Envr → M D} (hc : X.calm = true) (hN : X.N.Nodup) (hi : DI X W tg iter it) (ok : BlkOk X.N X.env.scope scope own)
    (hg : ∀ (s : Shared) (H : Hp) (C : Addr) (cl : List (Str × Addr)) (fp : List Addr), DG (X.blk s H scope (compEnvC scope cl C X.env) fp) tg is bd)
    (ht : ∀ (s : Shared) (H : Hp) (C : Addr) (cl : List (Str × Addr)) (fp : List Addr), DTs (X.blk s H scope (compEnvC scope cl C X.env) fp) W0 ifs t)
    (he : ∀ (s : Shared) (H : Hp) (C : Addr) (cl : List (Str × Addr)) (fp : List Addr), DX (X.blk s H scope (compEnvC scope cl C X.env) fp) W0 rE elt el)
    (hsub : ∀ j ∈ is, j ∈ own.map Prod.snd := by decide) (hs : ∀ x, foldedSetIterable iter X.env x = pure x := by intro _; rfl) :
    DX X W rF (.ListComp elt [⟨tg, iter, ifs, 0⟩] scope pos) (eLc it (own.map Prod.snd) bd (lcBody t el)) :=
  PE.weak (pe_lc hc hN hi ok (g := tG X is bd) hg (tt := tDT X W0 t) ht (te := tD X W0 rE el) he hs) fun σ H Q q => lc_items hsub q
end

/-! ### any number of clauses -/
section
variable {prog : Program} {w : World} {A : Around} {R : Result → Shared → Prop} {s : Shared} {elt tg : Expr} {gens : List Comprehension} {scope : Scope} {pos : Pos} {ifs : List Expr} {k : Nat} {it acc : Value} {env : Env} {p0 : Pos}
abbrev nb (prog : Program) (w : World) (A : Around) (env : Env) (R : Result → Shared → Prop) : Value → Shared → Prop := notedBy (model prog w) A env fun e s' => R (.error e) s'
/-- one clause's loop, whatever stands within -/
theorem comp_loop {ce : Expr} {BODY : Sem Unit} (ht : compTurn ce k it acc env = (do
      standAt p0
      match ← pyNext it with
      | none => pure (.done .next)
      | some v =>
        letOwnedTupleGo tg it v
        assign tg env v
        let mut ok := true
        for c in ifs do
          if ok then ok ← isTrue c env (eval c env)
        if ok then BODY
        again (.compLoop ce k it acc env))) (I : Nat → Shared → Prop)
    (turn : ∀ n s, I n s → wpAny (model prog w) A (pyNext it) (fun r s1 => match r with
      | none => R (.ok .next) s1
      | some v => wpAny (model prog w) A (letOwnedTupleGo tg it v) (fun _ s2 => wpAny (model prog w) A (assign tg env v) (fun _ s3 =>
          wpAny (model prog w) A (forIn ifs true fun c r => if r = true then do let ok ← isTrue c env (eval c env); pure (ForInStep.yield ok) else pure (ForInStep.yield r)) (fun ok s4 =>
            if ok = true then wpAny (model prog w) A BODY (fun _ s5 => ∃ m, m < n ∧ I m s5) (nb prog w A env R) s4 else ∃ m, m < n ∧ I m s4) (nb prog w A env R) s3) (nb prog w A env R) s2) (nb prog w A env R) s1) (nb prog w A env R) s)
    (n : Nat) (h : I n s) (hd : A.under (.compLoop ce k it acc env) = A ∧ (model prog w).den (.compLoop ce k it acc env) = (compTurn ce k it acc env).onRaise (fun x => do noteFrame x env; theTreesLotGoes x)) : codeAny (model prog w) A (.compLoop ce k it acc env) R s := by
  refine codeAny_loop rfl I (fun n s hI => ?_) n h
  rw [hd.1, hd.2]
  refine wpAny_noted ?_
  rw [ht]
  refine wpAny_bind (wpAny_standAt (wpAny_bind (wpAny_mono (turn n s hI) (fun r s1 h1 => ?_) fun _ _ z => z)))
  cases r with
  | none => exact wpAny_pure h1
  | some v =>
    refine wpAny_bind (wpAny_mono h1 (fun _ s2 h2 => wpAny_bind (wpAny_mono h2 (fun _ s3 h3 => wpAny_bind (wpAny_mono h3 (fun ok s4 h4 => ?_) fun _ _ z => z)) fun _ _ z => z)) fun _ _ z => z)
    cases ok with
    | false => exact wpAny_pure ⟨rfl, h4⟩
    | true => exact wpAny_bind (wpAny_mono h4 (fun _ s5 h5 => wpAny_pure ⟨rfl, h5⟩) fun _ _ z => z)
end

/-- all kept but Dd -/
structure ExtD (Dd : Addr) (th : List Addr) (G H : Hp) (th' : List Addr) (G' H' : Hp) : Prop where
  tt : ∃ more : List Addr, th' = th ++ more ∧ ∀ a, a ∈ more → H a = none
  g : ∀ a o, G a = some o → G' a = some o
  new : ∀ a, G' a ≠ none → G a ≠ none ∨ H a = none
  keep : ∀ a o, a ≠ Dd → H a = some o → a ∉ th → H' a = some o
  dom : ∀ a, H a ≠ none → H' a ≠ none
section
variable {K : PySem.W.Frag} {mg : Str → Option Value} {S S' : Store} {Dd : Addr} {th th1 th2 : List Addr} {G G1 G2 H H0 H1 H2 : Hp} {σ : L2.St} {ρ : Envr}
theorem Ext.toD (e : Ext th G H th1 G1 H1) : ExtD Dd th G H th1 G1 H1 := ⟨e.tt, e.g, e.new, fun a o _ h n => e.keep a o h n, e.dom⟩
theorem ExtD.back (e : ExtD Dd th G H th1 G1 H1) {a : Addr} (h : H1 a = none) : H a = none := by
  cases q : H a with
  | none => rfl
  | some o => exact absurd h (e.dom a (by rw [q]; simp))
theorem ExtD.nth (e : ExtD Dd th G H th1 G1 H1) {a : Addr} (h : H a ≠ none) (n : a ∉ th) : a ∉ th1 := by
  obtain ⟨m, rfl, hm⟩ := e.tt
  intro ha
  rcases List.mem_append.mp ha with z | z
  · exact n z
  · exact h (hm a z)
theorem ExtD.trans (a : ExtD Dd th G H th1 G1 H1) (b : ExtD Dd th1 G1 H1 th2 G2 H2) : ExtD Dd th G H th2 G2 H2 := by
  refine ⟨?_, fun x o h => b.g x o (a.g x o h), fun x h => ?_, fun x o n h m => b.keep x o n (a.keep x o n h m) (a.nth (by rw [h]; simp) m), fun x h => b.dom x (a.dom x h)⟩
  · obtain ⟨m, rfl, hm⟩ := a.tt
    obtain ⟨m2, rfl, hm2⟩ := b.tt
    refine ⟨m ++ m2, by rw [List.append_assoc], fun x hx => ?_⟩
    rcases List.mem_append.mp hx with z | z
    · exact hm x z
    · exact a.back (hm2 x z)
  · rcases b.new x h with z | z
    · exact a.new x z
    · exact .inr (a.back z)
theorem ExtD.get (e : ExtD Dd th G H th1 G1 H1) {n : Nat} {a : Addr} (h : th[n]? = some a) : th1[n]? = some a := by
  obtain ⟨m, rfl, _⟩ := e.tt
  rw [List.getElem?_append_left (List.getElem?_eq_some_iff.mp h).1]
  exact h
theorem ExtD.rep (e : ExtD Dd th G H th1 G1 H1) {v : V} {d : D} (h : Rep K th G v d) : Rep K th1 G1 v d := h.mono (fun _ _ => e.get) (fun _ _ => e.g _ _) (rd_of_keep e.g)
theorem ExtD.repL (e : ExtD Dd th G H th1 G1 H1) {v : List V} {d : List D} (h : RepL K th G v d) : RepL K th1 G1 v d := h.mono (fun _ _ => e.get) (fun _ _ => e.g _ _) (rd_of_keep e.g)
/-- from a start that did not know Dd -/
theorem ExtD.full (e : ExtD Dd th G H th1 G1 H1) (hD : H Dd = none) : Ext th G H th1 G1 H1 := ⟨e.tt, e.g, e.new, fun a o h n => e.keep a o (fun z => by rw [z, hD] at h; cases h) h n, e.dom⟩
/-- slots without one's own lists -/
def noOwn : Envr → Envr
  | [] => []
  | .own _ :: r => .no :: noOwn r
  | s :: r => s :: noOwn r
theorem noOwn_get : ∀ (ρ : Envr) (i : Nat), (noOwn ρ)[i]? = ρ[i]?.map fun s => match s with | .own _ => .no | s => s
  | [], i => by simp [noOwn]
  | s :: r, 0 => by cases s <;> simp [noOwn]
  | s :: r, i + 1 => by
    have ih := noOwn_get r i
    cases s <;> simpa [noOwn] using ih
theorem noOwn_no (ρ : Envr) (i : Nat) (d : D) : (noOwn ρ)[i]? ≠ some (.own d) := by
  rw [noOwn_get]
  cases ρ[i]? with
  | none => simp
  | some s => cases s <;> simp
def NoOwn (ρ : Envr) : Prop := ∀ (i : Nat) d, ρ[i]? ≠ some (.own d)
theorem EnvOk.noOwn (e : EnvOk K th G H H0 σ ρ) : EnvOk K th G H H0 σ (noOwn ρ) := by
  have hl : ∀ ρ : Envr, (FB.noOwn ρ).length = ρ.length := fun ρ => by
    induction ρ with
    | nil => rfl
    | cons s r ih => cases s <;> simp [FB.noOwn, ih]
  refine ⟨(hl ρ).trans e.len, fun i d h => ?_, fun i d h => absurd h (noOwn_no ρ i d), fun i j d f a _ h => absurd h (noOwn_no ρ i d)⟩
  rw [noOwn_get] at h
  cases q : ρ[i]? with
  | none => rw [q] at h; cases h
  | some s =>
    rw [q] at h
    cases s with
    | no => cases h
    | own _ => cases h
    | dat d' => cases h; exact e.dat i _ q
theorem EnvOk.extD (e : EnvOk K th G H H0 σ ρ) (hn : NoOwn ρ) (x : ExtD Dd th G H th1 G1 H1) : EnvOk K th1 G1 H1 H0 σ ρ :=
  ⟨e.len, fun i d q => let ⟨v, h1, h2⟩ := e.dat i d q; ⟨v, h1, x.rep h2⟩, fun i d h => absurd h (hn i d), e.sep⟩
theorem NoOwn.set {i : Nat} {d : D} (h : NoOwn ρ) : NoOwn (ρ.set i (.dat d)) := fun j d' q => by
  by_cases e : i = j
  · subst e
    have hi : i < ρ.length := by have := (List.getElem?_eq_some_iff.mp q).1; simpa using this
    rw [List.getElem?_set_self hi] at q
    cases q
  · rw [List.getElem?_set_ne e] at q
    exact h j d' q
end
/-- a target that brings no list of one's own -/
structure Bd.Tame (b : Bd) : Prop where
  go : ∀ d ρ ρ', b d ρ = some ρ' → NoOwn ρ → NoOwn ρ'
structure Bds.Tame (b : Bds) : Prop where
  go : ∀ d ρ ρ', b d ρ = some ρ' → NoOwn ρ → NoOwn ρ'
theorem tame_name (i : Nat) : Bd.Tame (bName i) := ⟨fun _ _ _ e h => by cases e; exact h.set⟩
theorem tame_nil : Bds.Tame bNil := ⟨fun d _ _ e h => by cases d <;> cases e; exact h⟩
theorem tame_cons {b : Bd} {bs : Bds} (h1 : b.Tame) (h2 : bs.Tame) : Bds.Tame (bCons b bs) := ⟨fun d ρ ρ' e h => by
  cases d with
  | nil => cases e
  | cons d ds =>
    have e : (b d ρ).bind (fun ρ1 => bs ds ρ1) = some ρ' := e
    rw [Option.bind_eq_some_iff] at e
    obtain ⟨ρ1, e1, e2⟩ := e
    exact h2.go _ _ _ e2 (h1.go _ _ _ e1 h)⟩
theorem tame_tup {bs : Bds} (h : bs.Tame) : Bd.Tame (bTup bs) := ⟨fun d ρ ρ' e hn => by
  cases d with
  | tup ds => exact h.go _ _ _ e hn
  | _ => cases e⟩

section
variable {X : Cx} {elt tg : Expr} {gens : List Comprehension} {scope : Scope} {cpos : Pos} {k : Nat}
/-- what a comprehension fills: how it stands, what it may hold -/
structure AccK (X : Cx) where
  At : List Addr → Hp → Hp → Addr → List D → Prop
  ok : List D → Prop
  ne : ∀ {th G H Dd ys}, At th G H Dd ys → H Dd ≠ none
  ext : ∀ {th G H Dd ys th1 G1 H1}, At th G H Dd ys → Ext th G H th1 G1 H1 → Dd ∉ th → At th1 G1 H1 Dd ys
  pre : ∀ {ys zs}, ok (ys ++ zs) → ok ys
def accL (X : Cx) : AccK X where
  At := fun th G H Dd ys => ∃ acc, H Dd = some (.lst acc) ∧ RepL X.K th G acc ys
  ok := fun ys => ys.length ≤ sizeLine
  ne := fun ⟨_, h, _⟩ => by rw [h]; simp
  ext := fun ⟨acc, h, r⟩ e n => ⟨acc, e.keep _ _ h n, e.repL r⟩
  pre := fun {ys zs} h => by rw [List.length_append] at h; omega
/-- where a clause's loop stands -/
structure LoopAtA (X : Cx) (A : AccK X) (Dd : Addr) (pins : List (Addr × Obj)) (s : Shared) (σ : L2.St) (H : Hp) (S : Store) (th : List Addr) (G H0 : Hp) (ρ : Envr) (ys : List D) : Prop where
  inv : Inv X pins σ H s
  wd : Wd X.K X.mg S th G H
  env : EnvOk X.K th G H H0 σ ρ
  no : NoOwn ρ
  lst : A.At th G H Dd ys
  gD : G Dd = none
  tD : Dd ∉ th
/-- the loop over ds: what it adds to the list at Dd -/
def LoopOkA (X : Cx) (A : AccK X) (e : Expr) (k : Nat) (tg : Expr) (vs : List Nat) (b : Bd) (body : Envr → M (List D)) : Prop :=
  ∀ (pins : List (Addr × Obj)) (s : Shared) (σ : L2.St) (H : Hp) (S : Store) (th : List Addr) (G H0 : Hp) (ρ : Envr) (Dd : Addr) (ys : List D) (it : Addr) (fp : List Addr) (tn : Nat → Heap → Prop) (J : It) (ds : List D) (R : Result → Shared → Prop),
    LoopAtA X A Dd pins s σ H S th G H0 ρ ys → wipe σ vs = σ → Turn X.prog X.w X.K tg J fp it tn → tn 0 s.heap → (∀ b ∈ fp, FpOk X pins H b) → ItOk X J th G ds →
    (forC b body ds ρ S).wp (fun zs S' => A.ok (ys ++ zs) ∧ ∀ s' H' th' G', LoopAtA X A Dd pins s' σ H' S' th' G' H0 ρ (ys ++ zs) → ExtD Dd th G H th' G' H' → R (.ok .next) s') (fun _ _ _ => False) →
    codeAny (model X.prog X.w) X.A (.compLoop e k (.ref it) (.ref Dd) X.env) R s
/-- what stands within a clause: the element, or the next clause -/
def BodyOkA (X : Cx) (A : AccK X) (BODY : Addr → Sem Unit) (vs : List Nat) (m : Envr → M (List D)) : Prop :=
  ∀ (pins : List (Addr × Obj)) (s : Shared) (σ : L2.St) (H : Hp) (S : Store) (th : List Addr) (G H0 : Hp) (ρ : Envr) (Dd : Addr) (ys : List D) (Q : Shared → Prop),
    LoopAtA X A Dd pins s σ H S th G H0 ρ ys → wipe σ vs = σ →
    (m ρ S).wp (fun zs S' => A.ok (ys ++ zs) ∧ ∀ s' H' th' G', LoopAtA X A Dd pins s' σ H' S' th' G' H0 ρ (ys ++ zs) → ExtD Dd th G H th' G' H' → Q s') (fun _ _ _ => False) →
    wpAny (model X.prog X.w) X.A (BODY Dd) (fun _ s' => Q s') (fun _ _ => False) s
theorem wipe_fix {σ : L2.St} {vs : List Nat} (h : wipe σ vs = σ) {j : Nat} (hj : j ∈ vs) {v : V} : σ[j]? ≠ some (some v) := fun e => by
  rw [← h] at e
  have hl := (List.getElem?_eq_some_iff.mp e).1
  rw [wipe_length] at hl
  rw [wipe_in σ j hj hl] at e
  cases e
theorem loop_okA {A : AccK X} {ce : Expr} {ifs : List Expr} {BODY : Addr → Sem Unit} {is vs vs' : List Nat} {b : Bd} {t : Envr → M Bool} {m : Envr → M (List D)} {p0 : Pos} (hc : X.calm = true) (hx : ∀ u s, X.xe u s → False)
    (ht : ∀ it Dd : Addr, compTurn ce k (.ref it) (.ref Dd) X.env = (do
      standAt p0
      match ← pyNext (.ref it) with
      | none => pure (.done .next)
      | some v =>
        letOwnedTupleGo tg (.ref it) v
        assign tg X.env v
        let mut ok := true
        for c in ifs do
          if ok then ok ← isTrue c X.env (eval c X.env)
        if ok then BODY Dd
        again (.compLoop ce k (.ref it) (.ref Dd) X.env)))
    (hd : ∀ it Dd : Addr, X.A.under (.compLoop ce k (.ref it) (.ref Dd) X.env) = X.A ∧ (model X.prog X.w).den (.compLoop ce k (.ref it) (.ref Dd) X.env) = (compTurn ce k (.ref it) (.ref Dd) X.env).onRaise (fun x => do noteFrame x X.env; theTreesLotGoes x))
    (hg : DG X tg is b) (htm : b.Tame) (hts : DTs X W0 ifs t) (hb : BodyOkA X A BODY vs' m) (hsub : ∀ j, j ∈ is → j ∈ vs) (hsub2 : ∀ j, j ∈ vs' → j ∈ vs ∧ j ∉ is) :
    LoopOkA X A ce k tg vs b (fun ρ => do let ok ← t ρ; if ok then m ρ else pure []) := by
  intro pins s σ H S th G H0 ρ Dd ys it fp tn J ds R L hw T st0 hfp hJ hq
  obtain ⟨body, hbody⟩ : ∃ body, body = (fun ρ => do let ok ← t ρ; if ok then m ρ else pure [] : Envr → M (List D)) := ⟨_, rfl⟩
  rw [← hbody] at hq
  have fpo : ∀ {H' : Hp}, (∀ c ∈ fp, H' c = none) → ∀ c ∈ fp, FpOk X pins H' c := fun h c hcm => ⟨h c hcm, (hfp c hcm).2⟩
  have F : ∀ {α : Type} {tr : Sem α} {Q Q' : α → Shared → Prop} {E : Value → Shared → Prop} {s : Shared}, wpAny (model X.prog X.w) X.A tr Q (fun _ _ => False) s → (∀ a s, Q a s → Q' a s) → wpAny (model X.prog X.w) X.A tr Q' E s := fun h hQ => wpAny_mono h hQ fun _ _ z => z.elim
  have Fx : ∀ {α : Type} {tr : Sem α} {Q Q' : α → Shared → Prop} {E : Value → Shared → Prop} {s : Shared}, wpAny (model X.prog X.w) X.A tr Q X.xe s → (∀ a s, Q a s → Q' a s) → wpAny (model X.prog X.w) X.A tr Q' E s := fun h hQ => wpAny_mono h hQ fun u s z => (hx u s z).elim
  refine comp_loop (ce := ce) (ht it Dd) (fun n s' => ∃ i H' S' th' G' ys', n = ds.length - i ∧ i ≤ ds.length ∧ LoopAtA X A Dd pins s' σ H' S' th' G' H0 ρ ys' ∧ ExtD Dd th G H th' G' H' ∧ tn i s'.heap ∧ (∀ c ∈ fp, H' c = none) ∧
    (forC b body (ds.drop i) ρ S').wp (fun zs S2 => A.ok (ys' ++ zs) ∧ ∀ s2 H2 th2 G2, LoopAtA X A Dd pins s2 σ H2 S2 th2 G2 H0 ρ (ys' ++ zs) → ExtD Dd th G H th2 G2 H2 → R (.ok .next) s2) (fun _ _ _ => False)) ?_ ds.length
    ⟨0, H, S, th, G, ys, by simp, Nat.zero_le _, L, Ext.refl.toD, st0, fun c hcm => (hfp c hcm).1, by rw [List.drop_zero]; exact hq⟩ (hd it Dd)
  rintro n s1 ⟨i, H1, S1, th1, G1, ys1, rfl, hi, L1, e1, st1, f1, q1⟩
  obtain ⟨hgo, hstop, hyld⟩ := hJ S1 th1 G1 H1 L1.wd (fun n a h => e1.get h) e1.g
  by_cases hlt : i < ds.length
  · refine F (T.item X rfl rfl rfl hc i pins s1 σ H1 (fun _ _ => False) L1.inv (fpo f1) st1 (hgo i hlt)) fun r s2 ⟨u, hr, h2⟩ => ?_
    subst hr
    refine F h2 fun _ s3 ⟨x, H3, I3, rx, yx, st3, f3⟩ => ?_
    obtain ⟨G3, d, w3, e3, hd, rd⟩ := hyld i x H3 hlt yx
    have I3' := I3.pinned (fpo f3) (T.obj _ _ st3)
    have hdrop : ds.drop i = d :: ds.drop (i + 1) := by
      rw [List.drop_eq_getElem_cons hlt, (List.getElem?_eq_some_iff.mp hd).2]
    rw [hdrop] at q1
    cases hb1 : b d ρ with
    | none => simp only [forC, hb1] at q1; exact q1.elim
    | some ρ1 =>
      simp only [forC, hb1] at q1
      rw [wp_bind] at q1
      have hacc := A.ne L1.lst
      have eo3 := L1.env.ext e3
      refine Fx (hg.run _ s3 σ H3 x u (fun σ4 H4 => H3 = H4 ∧ EnvOk X.K th1 G3 H3 H0 σ4 ρ1 ∧ (∀ j, j ∉ is → σ4[j]? = σ[j]?) ∧ σ4.length = σ.length) I3' rx ⟨S1, th1, G3, H0, ρ, d, ρ1, w3, eo3, rd, hb1, fun σ4 e4 k4 l4 => ⟨rfl, e4, k4, l4⟩⟩) fun _ s4 ⟨σ4, H4, I4, eH, eo4, k4, l4⟩ => ?_
      subst eH
      have no4 : NoOwn ρ1 := htm.go _ _ _ hb1 L1.no
      have hw4 : wipe σ4 vs' = σ4 := by
        apply List.ext_getElem?
        intro j
        by_cases hj : j ∈ vs'
        · obtain ⟨hj1, hj2⟩ := hsub2 j hj
          by_cases hjl : j < σ4.length
          · rw [wipe_in σ4 j hj hjl, k4 j hj2]
            rw [← hw, wipe_in σ j hj1 (by omega)]
          · rw [List.getElem?_eq_none (by rw [wipe_length]; omega), List.getElem?_eq_none (by omega)]
        · exact wipe_at σ4 j hj
      -- the turn's end
      have fin : ∀ {s5 : Shared} {H5 : Hp} {S5 : Store} {th5 : List Addr} {G5 : Hp} {zs : List D}, LoopAtA X A Dd (pins ++ pinsAt fp s3.heap) s5 σ4 H5 S5 th5 G5 H0 ρ1 (ys1 ++ zs) → ExtD Dd th1 G1 H1 th5 G5 H5 →
          (forC b body (ds.drop (i + 1)) ρ S5).wp (fun us S2 => A.ok (ys1 ++ zs ++ us) ∧ ∀ s2 H2 th2 G2, LoopAtA X A Dd pins s2 σ H2 S2 th2 G2 H0 ρ (ys1 ++ zs ++ us) → ExtD Dd th G H th2 G2 H2 → R (.ok .next) s2) (fun _ _ _ => False) →
          ∃ n', n' < ds.length - i ∧ ∃ i H' S' th' G' ys', n' = ds.length - i ∧ i ≤ ds.length ∧ LoopAtA X A Dd pins s5 σ H' S' th' G' H0 ρ ys' ∧ ExtD Dd th G H th' G' H' ∧ tn i s5.heap ∧ (∀ c ∈ fp, H' c = none) ∧
            (forC b body (ds.drop i) ρ S').wp (fun zs S2 => A.ok (ys' ++ zs) ∧ ∀ s2 H2 th2 G2, LoopAtA X A Dd pins s2 σ H2 S2 th2 G2 H0 ρ (ys' ++ zs) → ExtD Dd th G H th2 G2 H2 → R (.ok .next) s2) (fun _ _ _ => False) := by
        intro s5 H5 S5 th5 G5 zs L5 e5 q5
        have pin : ∀ c ∈ fp, ∀ o, s3.heap.get? c = some o → s5.heap.get? c = some o ∧ H5 c = none := fun c hcm o ho =>
          let z := L5.inv.pin (c, o) (List.mem_append_right _ (List.mem_append_right _ (mem_pinsAt hcm ho)))
          ⟨z.1, z.2.1⟩
        refine ⟨ds.length - (i + 1), by omega, i + 1, H5, S5, th5, G5, ys1 ++ zs, rfl, hlt, ⟨?_, L5.wd, L1.env.extD L1.no e5, L1.no, L5.lst, L5.gD, L5.tD⟩, e1.trans e5, T.keep _ _ _ st3 fun c hcm o ho => (pin c hcm o ho).1, fun c hcm => ?_, q5⟩
        · refine (L5.inv.unpinned (pins := pins)).weak l4.symm fun j v hj => ?_
          by_cases hji : j ∈ is
          · exact absurd hj (wipe_fix hw (hsub j hji))
          · rw [k4 j hji]; exact hj
        · obtain ⟨o, ho, _⟩ := T.obj _ _ st3 c hcm
          exact (pin c hcm o ho).2
      have L4 : LoopAtA X A Dd (pins ++ pinsAt fp s3.heap) s4 σ4 H3 S1 th1 G3 H0 ρ1 ys1 := ⟨I4, w3, eo4, no4, A.ext L1.lst e3 L1.tD, (by
        cases g : G3 Dd with
        | none => rfl
        | some o =>
          rcases e3.new Dd (by rw [g]; simp) with z | z
          · exact absurd L1.gD z
          · exact absurd z hacc), e3.nth hacc L1.tD⟩
      rw [hbody] at q1
      have qt : ((do let ok ← t ρ1; if ok then m ρ1 else pure []) S1).wp _ _ := q1
      rw [wp_bind] at qt
      rw [← hbody] at qt
      refine Fx (hts.run _ s4 σ4 H3 (fun ok H5 => ∃ S5 th5 G5, Wd X.K X.mg S5 th5 G5 H5 ∧ Ext th1 G3 H3 th5 G5 H5 ∧ (((if ok = true then m ρ1 else pure []) S5).wp (fun a S' => ((do let zs ← forC b body (ds.drop (i + 1)) ρ; pure (a ++ zs)) S').wp (fun zs S2 => A.ok (ys1 ++ zs) ∧ ∀ s2 H2 th2 G2, LoopAtA X A Dd pins s2 σ H2 S2 th2 G2 H0 ρ (ys1 ++ zs) → ExtD Dd th G H th2 G2 H2 → R (.ok .next) s2) (fun _ _ _ => False)) (fun _ _ _ => False))) L4.inv
        ⟨S1, th1, G3, H0, ρ1, w3, eo4, qt.mono (fun ok S5 q5 th5 G5 H5 w5 e5 => ⟨S5, th5, G5, w5, e5, q5⟩) fun _ _ _ z => z.elim⟩) fun ok s5 ⟨H5, I5, S5, th5, G5, w5, e5, q5⟩ => ?_
      have L5 : LoopAtA X A Dd (pins ++ pinsAt fp s3.heap) s5 σ4 H5 S5 th5 G5 H0 ρ1 ys1 := by
        have ha' := A.ne L4.lst
        refine ⟨I5, w5, eo4.ext e5, no4, A.ext L4.lst e5 L4.tD, ?_, e5.nth ha' L4.tD⟩
        cases g : G5 Dd with
        | none => rfl
        | some o =>
          rcases e5.new Dd (by rw [g]; simp) with z | z
          · exact absurd L4.gD z
          · exact absurd z ha'
      cases ok with
      | false =>
        rw [if_neg Bool.false_ne_true]
        have q5 : ((do let zs ← forC b body (ds.drop (i + 1)) ρ; pure ([] ++ zs)) S5).wp _ _ := q5
        rw [wp_bind] at q5
        refine fin (zs := []) (by rw [List.append_nil]; exact L5) (e3.toD.trans e5.toD) ?_
        rw [List.append_nil]
        exact q5.mono (fun us S6 q6 => q6) fun _ _ _ z => z
      | true =>
        rw [if_pos rfl]
        have q5 : (m ρ1 S5).wp _ _ := q5
        refine F (hb _ s5 σ4 H5 S5 th5 G5 H0 ρ1 Dd ys1 _ L5 hw4 (q5.mono (fun zs S6 q6 => ?_) fun _ _ _ z => z)) fun _ s6 z => z
        rw [wp_bind] at q6
        refine ⟨?_, fun s6 H6 th6 G6 L6 e6 => fin L6 ((e3.toD.trans e5.toD).trans e6) (q6.mono (fun us S7 q7 => ?_) fun _ _ _ z => z)⟩
        · obtain ⟨us, S7, _, hz, _⟩ := wp_okE q6
          have hz : A.ok (ys1 ++ (zs ++ us)) := hz
          rw [← List.append_assoc] at hz
          exact A.pre hz
        · have q7 : A.ok (ys1 ++ (zs ++ us)) ∧ _ := q7
          rw [← List.append_assoc] at q7
          exact q7
  · have ei : i = ds.length := by omega
    subst ei
    refine F (T.done X rfl rfl rfl hc _ pins s1 σ H1 (fun _ _ => False) L1.inv (fpo f1) st1 hstop) fun r s2 ⟨hr, I2⟩ => ?_
    subst hr
    rw [List.drop_length] at q1
    have q1 : A.ok (ys1 ++ []) ∧ _ := q1
    rw [List.append_nil] at q1
    exact q1.2 s2 H1 th1 G1 ⟨I2, L1.wd, L1.env, L1.no, L1.lst, L1.gD, L1.tD⟩ e1

abbrev LoopAt (X : Cx) := LoopAtA X (accL X)
abbrev LoopOk (X : Cx) := LoopOkA X (accL X)
abbrev BodyOk (X : Cx) := BodyOkA X (accL X)
/-- the element, put at the list's end -/
theorem body_elt {el : Envr → M D} {vs : List Nat} (hx : ∀ u s, X.xe u s → False) (he : DX X W0 rE elt el) :
    BodyOk X (fun Dd => do let _ ← call (.builtin "list.append") [.ref Dd, ← eval elt X.env]) vs (fun ρ => do let y ← el ρ; pure [y]) := by
  intro pins s σ H S th G H0 ρ Dd ys Q L hw q
  rw [wp_bind] at q
  refine wpAny_bind (wpAny_mono (he.run pins s σ H (fun v H1 => ∃ S1 th1 G1 y, Wd X.K X.mg S1 th1 G1 H1 ∧ Ext th G H th1 G1 H1 ∧ Rep X.K th1 G1 v y ∧ ((pure [y] : M (List D)) S1).wp _ _) L.inv
    ⟨S, th, G, H0, ρ, L.wd, L.env, q.mono (fun y S1 q1 v th1 G1 H1 w1 e1 r1 => ⟨S1, th1, G1, y, w1, e1, r1, q1⟩) fun _ _ _ z => z.elim⟩) (fun u s1 ⟨v, H1, I1, rv, S1, th1, G1, y, w1, e1, r1, q1⟩ => ?_) fun u s z => hx u s z)
  obtain ⟨acc, ha, ra⟩ := L.lst
  have ha1 := e1.keep _ _ ha L.tD
  have hl := ra.length
  have q1 : (ys ++ [y]).length ≤ sizeLine ∧ _ := q1
  have hz := q1.1
  rw [List.length_append, List.length_singleton] at hz
  refine wpAny_bind (app_ok I1 ha1 (by omega) rv fun s2 I2 => wpAny_pure ?_)
  have gD1 : G1 Dd = none := by
    cases g : G1 Dd with
    | none => rfl
    | some o =>
      rcases e1.new Dd (by rw [g]; simp) with z | z
      · exact absurd L.gD z
      · rw [ha] at z; cases z
  have nD1 : Dd ∉ th1 := e1.nth (by rw [ha]; simp) L.tD
  have ne : ∀ b, b ≠ Dd → upd H1 Dd (.lst (acc ++ [v])) b = H1 b := fun b hb => upd_ne hb
  have eD : ExtD Dd th G H th1 G1 (upd H1 Dd (.lst (acc ++ [v]))) := ⟨e1.tt, e1.g, e1.new, fun b o hb h n => by rw [ne b hb]; exact e1.keep b o h n, fun b h => by
    by_cases hb : b = Dd
    · rw [hb, upd_same]; simp
    · rw [ne b hb]; exact e1.dom b h⟩
  refine q1.2 s2 _ th1 G1 ⟨I2, ⟨fun b o h => ?_, w1.len, w1.nog, w1.nd, fun n mo b h1 h2 => ?_⟩, L.env.extD L.no eD, L.no, ⟨_, upd_same, (e1.repL ra).append (RepL.one r1)⟩, gD1, nD1⟩ eD
  · rw [ne b (fun z => by rw [z, gD1] at h; cases h)]; exact w1.sub b o h
  · have hb : b ≠ Dd := fun z => nD1 (by rw [← z]; exact List.mem_of_getElem? h2)
    have qq := w1.obj n mo b h1 h2
    cases mo with
    | lst l => obtain ⟨us, p1, p2⟩ := qq; exact ⟨us, by rw [ne b hb]; exact p1, p2⟩
    | ins C fs => obtain ⟨Ca, dx, us, p0, p1, p2⟩ := qq; exact ⟨Ca, dx, us, p0, by rw [ne b hb]; exact p1, p2⟩
theorem loop_ok {ifs : List Expr} {BODY : Addr → Sem Unit} {is vs vs' : List Nat} {b : Bd} {t : Envr → M Bool} {m : Envr → M (List D)} {p0 : Pos} (hc : X.calm = true) (hx : ∀ u s, X.xe u s → False)
    (ht : ∀ it Dd : Addr, compTurn (.ListComp elt gens scope cpos) k (.ref it) (.ref Dd) X.env = (do
      standAt p0
      match ← pyNext (.ref it) with
      | none => pure (.done .next)
      | some v =>
        letOwnedTupleGo tg (.ref it) v
        assign tg X.env v
        let mut ok := true
        for c in ifs do
          if ok then ok ← isTrue c X.env (eval c X.env)
        if ok then BODY Dd
        again (.compLoop (.ListComp elt gens scope cpos) k (.ref it) (.ref Dd) X.env)))
    (hg : DG X tg is b) (htm : b.Tame) (hts : DTs X W0 ifs t) (hb : BodyOk X BODY vs' m) (hsub : ∀ j, j ∈ is → j ∈ vs) (hsub2 : ∀ j, j ∈ vs' → j ∈ vs ∧ j ∉ is) :
    LoopOk X (.ListComp elt gens scope cpos) k tg vs b (fun ρ => do let ok ← t ρ; if ok then m ρ else pure []) :=
  loop_okA (A := accL X) hc hx ht (fun _ _ => ⟨rfl, rfl⟩) hg htm hts hb hsub hsub2
/-- a clause's start -/
theorem comp_start {prog : Program} {w : World} {A : Around} {R : Result → Shared → Prop} {s : Shared} {it acc : Value} {env : Env} {iter : Expr} {ifs : List Expr} (hk : gens[k]? = some ⟨tg, iter, ifs, 0⟩)
    (h0 : codeAny (model prog w) A (.compLoop (.ListComp elt gens scope cpos) k it acc env) R s)
    (h : ∀ E, wpAny (model prog w) A (pyIter it) (fun it' s' => codeAny (model prog w) A (.compLoop (.ListComp elt gens scope cpos) k it' acc env) R s') E s) :
    codeAny (model prog w) A (.compStart (.ListComp elt gens scope cpos) k it acc env) R s := by
  refine codeAny_of_tree ?_
  show wpAny _ _ ((compStart (.ListComp elt gens scope cpos) k it acc env).onRaise (fun x => do noteFrame x env; standAt theWindowsPlace)) _ _ s
  refine wpAny_notedAt ?_
  have e : compStart (.ListComp elt gens scope cpos) k it acc env = (do
      if (← ask).params.followText "comprehension-iter-twice" then return ← again (.compLoop (.ListComp elt gens scope cpos) k it acc env)
      rule "comprehension.iter-twice"
      standAt iter.pos
      again (.compLoop (.ListComp elt gens scope cpos) k (← pyIter it) acc env)) := by
    unfold compStart
    simp only [clausesOf, hk]
    rfl
  rw [e]
  show wpAny _ _ (ask >>= _) _ _ s
  refine wpAny_bind (wpAny_askSetting (wpAny_ite ?_))
  split
  · first
      | exact wpAny_bind (wpAny_pure (wpAny_pure (And.intro rfl h0)))
      | exact wpAny_pure (And.intro rfl h0)
  · exact wpAny_bind (wpAny_rule (wpAny_bind (wpAny_standAt (wpAny_bind (wpAny_mono (h _) (fun it' s' h' => wpAny_pure (And.intro rfl h')) fun _ _ x => x)))))
/-- the next clause -/
theorem body_next {tg1 iter1 : Expr} {ifs1 : List Expr} {it1 : Envr → M (List D)} {vs : List Nat} {b1 : Bd} {body1 : Envr → M (List D)} (hx : ∀ u s, X.xe u s → False) (hk : gens[k]? = some ⟨tg1, iter1, ifs1, 0⟩)
    (hi : DI X W0 tg1 iter1 it1) (hL : LoopOk X (.ListComp elt gens scope cpos) k tg1 vs b1 body1) (hs : ∀ x, foldedSetIterable iter1 X.env x = pure x) :
    BodyOk X (fun Dd => do
      let x ← eval iter1 X.env
      standAt iter1.pos
      let x ← foldedSetIterable iter1 X.env x
      let _ ← runOwn (.compStart (.ListComp elt gens scope cpos) k (← holding [x] (pyIter x)) (.ref Dd) X.env) X.env) vs (fun ρ => do let ds ← it1 ρ; forC b1 body1 ds ρ) := by
  intro pins s σ H S th G H0 ρ Dd ys Q L hw q
  rw [wp_bind] at q
  have nox : ∀ {α : Type} {tr : Sem α} {Q Q' : α → Shared → Prop} {E : Value → Shared → Prop} {s : Shared}, wpAny (model X.prog X.w) X.A tr Q X.xe s → (∀ a s, Q a s → Q' a s) → wpAny (model X.prog X.w) X.A tr Q' E s := fun h hQ => wpAny_mono h hQ fun u s z => (hx u s z).elim
  refine wpAny_bind (nox (hi.run pins s σ H (fun J H1 => ∃ S1 th1 G1 ds, Wd X.K X.mg S1 th1 G1 H1 ∧ Ext th G H th1 G1 H1 ∧ ItOk X J th1 G1 ds ∧ ((forC b1 body1 ds ρ) S1).wp _ _) L.inv
    ⟨S, th, G, H0, ρ, L.wd, L.env, q.mono (fun ds S1 q1 J th1 G1 H1 w1 e1 hJ => ⟨S1, th1, G1, ds, w1, e1, hJ, q1⟩) fun _ _ _ z => z.elim⟩) fun xv s1 h1 => ?_)
  refine wpAny_bind (wpAny_standAt (wpAny_bind (wpAny_of_eq (hs xv) (wpAny_bind (wpAny_holding (nox h1 fun itv s2 h2 => ?_))))))
  obtain ⟨it, fp, tn, J, H1, rfl, I1, T, st1, f1, S1, th1, G1, ds, w1, e1, hJ, q1⟩ := h2
  obtain ⟨acc, ha, ra⟩ := L.lst
  have L1 : LoopAt X Dd pins s2 σ H1 S1 th1 G1 H0 ρ ys := ⟨I1, w1, L.env.ext e1, L.no, ⟨acc, e1.keep _ _ ha L.tD, e1.repL ra⟩, (by
    cases g : G1 Dd with
    | none => rfl
    | some o =>
      rcases e1.new Dd (by rw [g]; simp) with z | z
      · exact absurd L.gD z
      · rw [ha] at z; cases z), e1.nth (by rw [ha]; simp) L.tD⟩
  refine wpAny_bind (wpAny_runOwn ?_)
  rw [Around.mark_none]
  have fin := hL pins s2 σ H1 S1 th1 G1 H0 ρ Dd ys it fp tn J ds (fun r s' => match r with | .ok _ => Q s' | .error _ => False) L1 hw T st1 f1 hJ (q1.mono (fun zs S2 q2 => ⟨q2.1, fun s3 H3 th3 G3 L3 e3 => q2.2 s3 H3 th3 G3 L3 (e1.toD.trans e3)⟩) fun _ _ _ z => z)
  refine codeAny_mono (comp_start hk fin fun E => T.self X.A 0 _ _ _ st1 fin) fun r s' hr => ?_
  cases r with
  | ok f => exact wpAny_pure hr
  | error e => exact hr.elim
def eLcN (it : Envr → M (List D)) (own : List Nat) (bd : Bd) (body : Envr → M (List D)) : Envr → M D := fun ρ => do
  let ds ← it ρ
  let ys ← noX (forC bd body ds (noOwn (wipeE ρ own)))
  mkL ys
theorem noOwn_NoOwn (ρ : Envr) : NoOwn (noOwn ρ) := fun i d => noOwn_no ρ i d
/-- [elt for .. for ..], any number of clauses -/
theorem d_lcN {W : WX} {iter : Expr} {ifs : List Expr} {rest : List Comprehension} {own : List (Str × Nat)} {it : Envr → M (List D)} {bd : Bd} {body : Envr → M (List D)} (hc : X.calm = true) (hN : X.N.Nodup) (hi : DI X W tg iter it) (ok : BlkOk X.N X.env.scope scope own)
    (hL : ∀ (s : Shared) (H : Hp) (C : Addr) (cl : List (Str × Addr)) (fp : List Addr), LoopOk (X.blk s H scope (compEnvC scope cl C X.env) fp) (.ListComp elt (⟨tg, iter, ifs, 0⟩ :: rest) scope cpos) 0 tg (own.map Prod.snd) bd body)
    (hs : ∀ x, foldedSetIterable iter X.env x = pure x := by intro _; rfl) : DX X W rF (.ListComp elt (⟨tg, iter, ifs, 0⟩ :: rest) scope cpos) (eLcN it (own.map Prod.snd) bd body) := by
  refine ⟨fun pins s σ H Q I ⟨S, th, G, H0, ρ, w, eo, q⟩ => ?_⟩
  unfold eLcN at q
  rw [wp_bind] at q
  rw [eval_ListComp]
  have hfree : ∀ y ∈ scope.names, y.2 = .free → ∃ c, X.env.cells.lookup y.1 = some c := fun y hy e => by
    rcases ok.free y hy e with z | z
    · exact I.ok.has _ (.inl z)
    · exact I.ok.has _ (.inr z)
  refine wpAny_comprehension_free (use := none) rfl hs (closure_ok hfree) ok.kind (fun y hy e => by rw [ok.uniq y hy, e]) (thn (hi.run pins s σ H (fun J H1 => ∃ S1 th1 G1 ds, Wd X.K X.mg S1 th1 G1 H1 ∧ Ext th G H th1 G1 H1 ∧ ItOk X J th1 G1 ds ∧
      ((do let ys ← noX (forC bd body ds (noOwn (wipeE ρ (own.map Prod.snd)))); mkL ys) S1).wp (Post X rF H th G Q) (PostX X (fun c d h => W c d σ h) H th G)) I
    ⟨S, th, G, H0, ρ, w, eo, q.mono (fun ds S1 q1 J th1 G1 H1 w1 e1 hJ => ⟨S1, th1, G1, ds, w1, e1, hJ, q1⟩) fun _ _ _ z => z⟩) fun xv s1 hx1 => thn hx1 fun itv s2 h2 => ?_)
  obtain ⟨a0, fp, tn, J, H2, rfl, I2, T, st2, f2, S1, th1, G1, ds, w1, e1, hJ, q1⟩ := h2
  rw [wp_bind] at q1
  have q2 := noX_wp q1
  refine wpAny_newObj_type (newEnv_comp ?_) (by show 0 ≤ sizeLine; decide)
  generalize hDd : s2.heap.objs.size = Dd
  have nDd : H2 Dd = none := I2.hok.fresh (Nat.le_of_eq hDd)
  -- the list that is to be filled
  generalize hs3 : ({ s2 with heap := s2.heap.push { cls := .type "list", data := .seq ([] : List Value).toArray } } : Shared) = s3
  have hp3 : s3.heap = s2.heap.push { cls := .type "list", data := .seq ([] : List Value).toArray } := by rw [← hs3]
  have I3 : Inv X pins σ (upd H2 Dd (.lst [])) s3 := by
    rw [← hs3]
    refine I2.laid (t' := s2.toks) (fun b o z => Heap.get?_push_of_some _ z) (Nat.le_of_eq hDd) ⟨Nat.zero_le _, [], 0, .nil, ?_⟩
    rw [← hDd]
    exact Heap.get?_push_size _ rfl
  have below : ∀ b ∈ fp, b < s2.heap.objs.size := fun b hb => by
    obtain ⟨o, z, _⟩ := T.obj _ _ st2 b hb
    exact Heap.lt_size z
  have f3 : ∀ b ∈ fp, FpOk X pins (upd H2 Dd (.lst [])) b ∧ b < s3.heap.objs.size := fun b hb => by
    refine ⟨⟨?_, (f2 b hb).2⟩, by rw [hp3, Heap.size_push]; exact Nat.lt_succ_of_lt (below b hb)⟩
    rw [upd_ne (by rw [← hDd]; exact Nat.ne_of_lt (below b hb))]
    exact (f2 b hb).1
  have I4 := block_start I3 ok hN f3
  have LL := hL s3 (upd H2 Dd (.lst [])) s3.heap.objs.size (cellsFrom (s3.heap.objs.size + 1) scope.names (cloFrom X.env.cells scope.names [])) fp
  have st3 : tn 0 s3.heap := T.keep _ _ _ st2 fun b _ o z => by rw [hp3]; exact Heap.get?_push_of_some _ z
  have st4 : tn 0 (pushCells (s3.heap.push { cls := .type "dict", data := .dict #[] }) scope.names) := T.keep _ _ _ st3 fun b _ o z => pushCells_keeps _ _ _ _ (Heap.get?_push_of_some _ z)
  have cL : (compEnvC scope (cellsFrom (s3.heap.objs.size + 1) scope.names (cloFrom X.env.cells scope.names [])) s3.heap.objs.size X.env).locals = s3.heap.objs.size := rfl
  obtain ⟨w3, e3⟩ := w1.laidH (o := .lst []) nDd
  have eo3 : EnvOk X.K th1 G1 (upd H2 Dd (.lst [])) H0 (wipe σ (own.map Prod.snd)) (noOwn (wipeE ρ (own.map Prod.snd))) := (((eo.ext e1).ext e3).wipe _).noOwn
  have loop := LL [] _ (wipe σ (own.map Prod.snd)) (upd H2 Dd (.lst [])) S1 th1 G1 H0 (noOwn (wipeE ρ (own.map Prod.snd))) Dd [] a0 fp tn J ds
    (compPost (model X.prog X.w) X.A X.xe none (EP X pins σ Q) (.ref Dd) s3.heap.objs.size)
    ⟨I4, w3, eo3, noOwn_NoOwn _, ⟨[], upd_same, .nil⟩, w1.gfree nDd, fun z => w1.thDom z nDd⟩ (wipe_wipe σ _) T st4
    (fun b hb => ⟨(f3 b hb).1.1, (I4.ok.exf b hb).1, I4.ok.exfs b hb, .inl hb, fun x c z => (I4.ok.exf b hb).2 x c z, fun p hp => absurd (show p ∈ ([] : List (Addr × Obj)) ++ [] from hp) (by simp)⟩)
    (fun S5 th5 G5 H5 w5 ht5 hg5 => hJ S5 th5 G5 H5 w5 ht5 hg5)
    (q2.mono (fun zs S2 q3 => by
      obtain ⟨hz, q4⟩ := mkL_wp q3
      refine ⟨hz, fun s6 H6 th6 G6 L6 e6 => ?_⟩
      obtain ⟨acc, ha, ra⟩ := L6.lst
      have e6' : Ext th1 G1 H2 th6 G6 H6 := ⟨by
          obtain ⟨more, hm, hn⟩ := e6.tt
          exact ⟨more, hm, fun c hcm => e3.back (hn c hcm)⟩, e6.g, fun c hcm => (e6.new c hcm).imp id e3.back, fun c o hco n => e6.keep c o (fun z => by rw [z, nDd] at hco; cases hco) (e3.keep c o hco n) n, fun c hcm => e6.dom c (e3.dom c hcm)⟩
      have I7 : Inv X pins σ H6 s6 := I3.call' (ch := fp) L6.inv.os L6.inv.base L6.inv.hok L6.inv.bare fun b hb => ⟨(f3 b hb).1.2.2.2.1, (f3 b hb).1.2.1, (f3 b hb).1.2.2.2.2.1, (f3 b hb).1.2.2.2.2.2⟩
      have nC : H6 s3.heap.objs.size = none := L6.inv.free
      obtain ⟨mm, hn, _⟩ := L6.inv.loc
      have hn : s6.heap.Ns s3.heap.objs.size mm := hn
      refine ⟨mm, hn, fun h'' sb => ?_⟩
      obtain ⟨g0, g1, g2, g3, g4, g5⟩ := I3.fpOk (H' := H6) (Nat.le_refl _) nC
      exact ⟨.ref Dd, H6, I7.turned (t' := s6.toks) (fun b o hb z => (sb.2 b hb).trans z) g0 g1 g3 g4 g5, rfl, q4 _ th6 G6 H6 L6.wd (e1.trans e6') ⟨Dd, rfl, e1.back nDd, L6.gD, L6.tD, acc, ha, ra⟩⟩) fun _ _ _ z => z)
  exact codeAny_compStart_list loop (T.self X.A 0 _ _ _ st4 loop)
end
end FB

/-! Statements, defs and their calls. -/
namespace FB
open PySem PySem.Spec PyProof.Rows L2

inductive Out where
  | nx (ρ : Envr) | rt (d : D) | bk (ρ : Envr) | ct (ρ : Envr)
/-- what only grows -/
structure GX (th : List Addr) (G : Hp) (th' : List Addr) (G' : Hp) : Prop where
  t : ∀ (n : Nat) (a : Addr), th[n]? = some a → th'[n]? = some a
  g : ∀ a o, G a = some o → G' a = some o
theorem GX.refl {th : List Addr} {G : Hp} : GX th G th G := ⟨fun _ _ h => h, fun _ _ h => h⟩
theorem GX.trans {th th1 th2 : List Addr} {G G1 G2 : Hp} (a : GX th G th1 G1) (b : GX th1 G1 th2 G2) : GX th G th2 G2 := ⟨fun n x h => b.t n x (a.t n x h), fun x o h => b.g x o (a.g x o h)⟩
theorem Ext.gx {th th1 : List Addr} {G G1 H H1 : Hp} (e : Ext th G H th1 G1 H1) : GX th G th1 G1 := ⟨fun _ _ h => e.get h, e.g⟩
/-- the wish behind a statement: H0, th0, G0 the def's entry; th, G ahead of the statement -/
def PostS (X : Cx) (D0 : Ends) (H0 : Hp) (th0 : List Addr) (G0 : Hp) (th : List Addr) (G : Hp) : Out → Store → Prop
  | .nx ρ', S' => ∀ σ' th' G' H', Wd X.K X.mg S' th' G' H' → EnvOk X.K th' G' H' H0 σ' ρ' → Ext th0 G0 H0 th' G' H' → GX th G th' G' → D0.nx σ' H'
  | .rt d, S' => ∀ v th' G' H', Wd X.K X.mg S' th' G' H' → Ext th0 G0 H0 th' G' H' → Rep X.K th' G' v d → D0.rt v H'
  | .bk ρ', S' => ∀ σ' th' G' H', Wd X.K X.mg S' th' G' H' → EnvOk X.K th' G' H' H0 σ' ρ' → Ext th0 G0 H0 th' G' H' → GX th G th' G' → D0.bk σ' H'
  | .ct ρ', S' => ∀ σ' th' G' H', Wd X.K X.mg S' th' G' H' → EnvOk X.K th' G' H' H0 σ' ρ' → Ext th0 G0 H0 th' G' H' → GX th G th' G' → D0.ct σ' H'
def tS (X : Cx) (E : XK) (m : Envr → M Out) : TS := fun D0 σ H => ∃ S th G H0 th0 G0 ρ, Wd X.K X.mg S th G H ∧ EnvOk X.K th G H H0 σ ρ ∧ Ext th0 G0 H0 th G H ∧ (m ρ S).wp (PostS X D0 H0 th0 G0 th G) (PostX X E H0 th0 G0)
def DS (X : Cx) (E : XK) (st : Stmt) (m : Envr → M Out) : Prop := PS X st (tS X E m)
def DSs (X : Cx) (E : XK) (st : List Stmt) (m : Envr → M Out) : Prop := PSs X st (tS X E m)
abbrev WK (E : XK) : WX := fun c d _ h => E c d h
def sNil : Envr → M Out := fun ρ => pure (.nx ρ)
def sSeq (m n : Envr → M Out) : Envr → M Out := fun ρ => do
  let o ← m ρ
  match o with
  | .nx ρ' => n ρ'
  | o => pure o
def sExpr (m : Envr → M D) : Envr → M Out := fun ρ => do
  let _ ← m ρ
  pure (.nx ρ)
def sRet (m : Envr → M D) : Envr → M Out := fun ρ => do
  let d ← m ρ
  pure (.rt d)
def sIf (t : Envr → M Bool) (m n : Envr → M Out) : Envr → M Out := fun ρ => do
  let b ← t ρ
  if b then m ρ else n ρ
def sSet (i : Nat) (m : Envr → M D) : Envr → M Out := fun ρ => do
  let d ← m ρ
  pure (.nx (ρ.set i (.dat d)))
def sSetO (i : Nat) (m : Envr → M D) : Envr → M Out := fun ρ => do
  let d ← m ρ
  pure (.nx (ρ.set i (.own d)))
def sAsg (b : Bd) (m : Envr → M D) : Envr → M Out := fun ρ => do
  let d ← m ρ
  match b d ρ with
  | some ρ' => pure (.nx ρ')
  | none => fail
/-- one's own list, told from now on as data -/
def sFreeze (i : Nat) : Envr → M Out := fun ρ => match ρ[i]? with
  | some (.own d) => pure (.nx (ρ.set i (.dat d)))
  | _ => fail
def forS (b : Bd) (body : Envr → M Out) : List D → Envr → M Out
  | [], ρ => pure (.nx ρ)
  | x :: xs, ρ => match b x ρ with
    | none => fail
    | some ρ1 => do
      let o ← body ρ1
      match o with
      | .nx ρ2 => forS b body xs ρ2
      | .ct ρ2 => forS b body xs ρ2
      | .bk ρ2 => pure (.nx ρ2)
      | .rt d => pure (.rt d)
def sFor (it : Envr → M (List D)) (b : Bd) (body : Envr → M Out) : Envr → M Out := fun ρ => do
  let ds ← it ρ
  forS b body ds ρ

section
variable {X : Cx} {E : XK} {st : Stmt} {sts : List Stmt} {m n : Envr → M Out} {e : Expr} {me ma mb : Envr → M D} {S : Store} {th th1 th0 : List Addr} {G G1 G0 H H1 H0 : Hp} {σ : L2.St} {ρ : Envr} {pos : Pos} {R : RK}
theorem PostS.gx {D0 : Ends} {o : Out} {S' : Store} (h : PostS X D0 H0 th0 G0 th G o S') (x : GX th G th1 G1) : PostS X D0 H0 th0 G0 th1 G1 o S' := by
  cases o with
  | nx ρ' => exact fun σ' th' G' H' w eo e g => h σ' th' G' H' w eo e (x.trans g)
  | rt d => exact h
  | bk ρ' => exact fun σ' th' G' H' w eo e g => h σ' th' G' H' w eo e (x.trans g)
  | ct ρ' => exact fun σ' th' G' H' w eo e g => h σ' th' G' H' w eo e (x.trans g)
/-- an expression within a statement -/
theorem tS.run {α : Type} {k : D → M α} {Qb : α → Store → Prop} {Q : VK} (w : Wd X.K X.mg S th G H) (eo : EnvOk X.K th G H H0 σ ρ) (e0 : Ext th0 G0 H0 th G H)
    (h : ((me ρ >>= k) S).wp Qb (PostX X E H0 th0 G0))
    (hk : ∀ d S1 v th1 G1 H1, Wd X.K X.mg S1 th1 G1 H1 → Ext th G H th1 G1 H1 → R X.K H th1 G1 H1 v d → EnvOk X.K th1 G1 H1 H0 σ ρ → (k d S1).wp Qb (PostX X E H0 th0 G0) → Q v H1) : tD X (WK E) R me σ H Q := by
  refine ⟨S, th, G, H0, ρ, w, eo, ?_⟩
  rw [wp_bind] at h
  exact h.mono (fun d S1 q v th1 G1 H1 w1 e1 r => hk d S1 v th1 G1 H1 w1 e1 r (eo.ext e1) q) fun _ _ _ z => z.back e0
theorem tS.runT {α : Type} {t : Envr → M Bool} {k : Bool → M α} {Qb : α → Store → Prop} {Q : Bool → Hp → Prop} (w : Wd X.K X.mg S th G H) (eo : EnvOk X.K th G H H0 σ ρ) (e0 : Ext th0 G0 H0 th G H)
    (h : ((t ρ >>= k) S).wp Qb (PostX X E H0 th0 G0))
    (hk : ∀ b S1 th1 G1 H1, Wd X.K X.mg S1 th1 G1 H1 → Ext th G H th1 G1 H1 → EnvOk X.K th1 G1 H1 H0 σ ρ → (k b S1).wp Qb (PostX X E H0 th0 G0) → Q b H1) : tDT X (WK E) t σ H Q := by
  refine ⟨S, th, G, H0, ρ, w, eo, ?_⟩
  rw [wp_bind] at h
  exact h.mono (fun d S1 q th1 G1 H1 w1 e1 => hk d S1 th1 G1 H1 w1 e1 (eo.ext e1) q) fun _ _ _ z => z.back e0
theorem dss_nil : DSs X E [] sNil := PSs.weak pss_nil fun D0 σ H ⟨S, th, G, H0, th0, G0, ρ, w, eo, e0, q⟩ => q σ th G H w eo e0 .refl
theorem dss_cons (h : DS X E st m) (hs : DSs X E sts n) : DSs X E (st :: sts) (sSeq m n) := PSs.weak (pss_cons h hs) fun D0 σ H ⟨S, th, G, H0, th0, G0, ρ, w, eo, e0, q⟩ => by
  refine ⟨S, th, G, H0, th0, G0, ρ, w, eo, e0, ?_⟩
  unfold sSeq at q
  rw [wp_bind] at q
  refine q.mono (fun o S1 q1 => ?_) fun _ _ _ z => z
  cases o with
  | nx ρ' => exact fun σ' th' G' H' w' eo' e' g' => ⟨S1, th', G', H0, th0, G0, ρ', w', eo', e', Res.wp.mono (show (n ρ' S1).wp _ _ from q1) (fun o S2 q2 => q2.gx g') fun _ _ _ z => z⟩
  | rt d => exact q1
  | bk ρ' => exact q1
  | ct ρ' => exact q1
theorem dss_one (h : DS X E st m) : DSs X E [st] m := PSs.weak (pss_one h) fun _ _ _ q => q
theorem ds_pass : DS X E (.Pass pos) sNil := PS.weak ps_pass fun D0 σ H ⟨S, th, G, H0, th0, G0, ρ, w, eo, e0, q⟩ => q σ th G H w eo e0 .refl
theorem ds_break : DS X E (.Break pos) (fun ρ => pure (.bk ρ)) := PS.weak ps_break fun D0 σ H ⟨S, th, G, H0, th0, G0, ρ, w, eo, e0, q⟩ => q σ th G H w eo e0 .refl
theorem ds_expr (h : DX X (WK E) R e me) (hs : swapsWith e none pos.line X.env = pure false := by rfl) : DS X E (.Expr e pos) (sExpr me) := PS.weak (ps_expr h hs) fun D0 σ H ⟨S, th, G, H0, th0, G0, ρ, w, eo, e0, q⟩ =>
  tS.run w eo e0 q fun d S1 v th1 G1 H1 w1 e1 r1 eo1 q1 => q1 σ th1 G1 H1 w1 eo1 (e0.trans e1) e1.gx
theorem ds_ret (h : DX X (WK E) rE e me) : DS X E (.Return (some e) pos) (sRet me) := PS.weak (ps_ret h) fun D0 σ H ⟨S, th, G, H0, th0, G0, ρ, w, eo, e0, q⟩ =>
  tS.run w eo e0 q fun d S1 v th1 G1 H1 w1 e1 r1 eo1 q1 => q1 v th1 G1 H1 w1 (e0.trans e1) r1
theorem ds_retN : DS X E (.Return none pos) (fun _ => pure (.rt .non)) := PS.weak ps_retN fun D0 σ H ⟨S, th, G, H0, th0, G0, ρ, w, eo, e0, q⟩ => q .non th G H w e0 .non
theorem ds_if {c : Expr} {a b : List Stmt} {t : Envr → M Bool} (hc : DT X (WK E) c t) (ha : DSs X E a m) (hb : DSs X E b n) : DS X E (.If c a b pos) (sIf t m n) := PS.weak (ps_if hc ha hb) fun D0 σ H ⟨S, th, G, H0, th0, G0, ρ, w, eo, e0, q⟩ =>
  tS.runT w eo e0 q fun d S1 th1 G1 H1 w1 e1 eo1 q1 => by
    cases d with
    | true => rw [if_pos rfl]; exact ⟨S1, th1, G1, H0, th0, G0, ρ, w1, eo1, e0.trans e1, Res.wp.mono (show (m ρ S1).wp _ _ from q1) (fun o S2 q2 => q2.gx e1.gx) fun _ _ _ z => z⟩
    | false => rw [if_neg Bool.false_ne_true]; exact ⟨S1, th1, G1, H0, th0, G0, ρ, w1, eo1, e0.trans e1, Res.wp.mono (show (n ρ S1).wp _ _ from q1) (fun o S2 q2 => q2.gx e1.gx) fun _ _ _ z => z⟩

/-! ### stores to names -/
def rK : Bool → RK
  | false => rE
  | true => rF
def mkS : Bool → D → Sl
  | false => .dat
  | true => .own
theorem EnvOk.setK (eo : EnvOk X.K th G H H0 σ ρ) (i : Nat) {b : Bool} {v : V} {d : D} (r : rK b X.K H1 th G H v d) (hd : ∀ a, H1 a = none → H0 a = none) (hne : ∀ (j : Nat) d' a, j ≠ i → ρ[j]? = some (.own d') → σ[j]? = some (some (.ref a)) → H1 a ≠ none) :
    EnvOk X.K th G H H0 (σ.set i (some v)) (ρ.set i (mkS b d)) := by
  cases b with
  | false => exact eo.set i r
  | true =>
    obtain ⟨a, rfl, h1, h2, h3, h4⟩ := r
    have own : ∀ (j : Nat) d', j ≠ i → ρ[j]? = some (.own d') → σ[j]? ≠ some (some (.ref a)) := fun j d' hj q hs => hne j d' a hj q hs h1
    refine ⟨by simp [eo.len], fun j d' q => ?_, fun j d' q => ?_, fun j l d1 d2 a' nn q1 q2 hs => ?_⟩
    · by_cases hj : i = j
      · subst hj
        have hi : i < ρ.length := by have := (List.getElem?_eq_some_iff.mp q).1; simpa using this
        rw [List.getElem?_set_self hi] at q
        cases q
      · rw [List.getElem?_set_ne hj] at q ⊢
        exact eo.dat j d' q
    · by_cases hj : i = j
      · subst hj
        have hi : i < ρ.length := by have := (List.getElem?_eq_some_iff.mp q).1; simpa using this
        rw [List.getElem?_set_self hi] at q
        cases q
        exact ⟨a, List.getElem?_set_self (by rw [← eo.len]; exact hi), hd a h1, h2, h3, h4⟩
      · rw [List.getElem?_set_ne hj] at q ⊢
        exact eo.own j d' q
    · by_cases hj : i = j
      · subst hj
        have hi : i < ρ.length := by have := (List.getElem?_eq_some_iff.mp q1).1; simpa using this
        rw [List.getElem?_set_self (by rw [← eo.len]; exact hi)] at hs
        cases hs
        rw [List.getElem?_set_ne nn] at q2 ⊢
        exact own l d2 (Ne.symm nn) q2
      · rw [List.getElem?_set_ne hj] at q1 hs
        by_cases hl : i = l
        · subst hl
          have hi : i < ρ.length := by have := (List.getElem?_eq_some_iff.mp q2).1; simpa using this
          rw [List.getElem?_set_self (by rw [← eo.len]; exact hi)]
          intro z
          cases z
          exact own j d1 (Ne.symm hj) q1 hs
        · rw [List.getElem?_set_ne hl] at q2 ⊢
          exact eo.sep j l d1 d2 a' nn q1 q2 hs
/-- what one's own slots hold stood ahead -/
theorem EnvOk.ownAt (eo : EnvOk X.K th G H H0 σ ρ) {j : Nat} {d' : D} {a : Addr} (q : ρ[j]? = some (.own d')) (hs : σ[j]? = some (some (.ref a))) : H a ≠ none := by
  obtain ⟨a', h1, _, _, _, h5⟩ := eo.own j d' q
  rw [hs] at h1
  cases h1
  exact h5.ne
theorem tAsg_of {i : Nat} {b : Bool} {D0 : Ends} (q : tS X E (fun ρ => do let d ← me ρ; pure (.nx (ρ.set i (mkS b d)))) D0 σ H) : tAsg (tD X (WK E) (rK b) me) (gName i) D0 σ H := by
  obtain ⟨S, th, G, H0, th0, G0, ρ, w, eo, e0, q⟩ := q
  exact tS.run (R := rK b) w eo e0 q fun d S1 v th1 G1 H1 w1 e1 r1 eo1 q1 => q1 _ th1 G1 H1 w1 (eo1.setK i r1 (fun a ha => e0.back ha) fun j d' a _ hj hs => eo.ownAt hj hs) (e0.trans e1) e1.gx
theorem ds_setK (b : Bool) {i : Nat} {x : Str} {pos' : Pos} (hN : X.N.Nodup) (h : DX X (WK E) (rK b) e me) (hi : X.N[i]? = some x := by rfl) (hx : Loc X.env.scope x := by first | exact Or.inl rfl | exact Or.inr rfl) (hs : swapsWith e (some (.Name x pos')) pos.line X.env = pure false := by rfl)
    (hf : X.fn x = true ∨ X.env.scope.names.lookup x = some .local := by first | exact .inl rfl | exact .inr rfl) : DS X E (.Assign [.Name x pos'] e pos) (fun ρ => do let d ← me ρ; pure (.nx (ρ.set i (mkS b d)))) :=
  PS.weak (ps_set hN hi hx h hs hf) fun D0 σ H q => tAsg_of q
theorem ds_set {i : Nat} {x : Str} {pos' : Pos} (hN : X.N.Nodup) (h : DX X (WK E) rE e me) (hi : X.N[i]? = some x := by rfl) (hx : Loc X.env.scope x := by first | exact Or.inl rfl | exact Or.inr rfl) (hs : swapsWith e (some (.Name x pos')) pos.line X.env = pure false := by rfl)
    (hf : X.fn x = true ∨ X.env.scope.names.lookup x = some .local := by first | exact .inl rfl | exact .inr rfl) : DS X E (.Assign [.Name x pos'] e pos) (sSet i me) := ds_setK false hN h hi hx hs hf
theorem ds_setO {i : Nat} {x : Str} {pos' : Pos} (hN : X.N.Nodup) (h : DX X (WK E) rF e me) (hi : X.N[i]? = some x := by rfl) (hx : Loc X.env.scope x := by first | exact Or.inl rfl | exact Or.inr rfl) (hs : swapsWith e (some (.Name x pos')) pos.line X.env = pure false := by rfl)
    (hf : X.fn x = true ∨ X.env.scope.names.lookup x = some .local := by first | exact .inl rfl | exact .inr rfl) : DS X E (.Assign [.Name x pos'] e pos) (sSetO i me) := ds_setK true hN h hi hx hs hf
/-- a target of several names -/
theorem ds_asg {tg : Expr} {is : List Nat} {b : Bd} (h : DX X (WK E) rE e me) (hg : DG X tg is b) (hs : swapsWithSole [tg] e pos.line X.env = pure false := by rfl) (hw : swappedStores [tg] e X.env = pure none := by rfl)
    (h1 : (assignEach [tg] X.env).map (·.2) = [assign tg X.env] := by rfl) : DS X E (.Assign [tg] e pos) (sAsg b me) := PS.weak (ps_asg h hg hs hw h1) fun D0 σ H ⟨S, th, G, H0, th0, G0, ρ, w, eo, e0, q⟩ => by
  refine tS.run w eo e0 q fun d S1 v th1 G1 H1 w1 e1 r1 eo1 q1 => ?_
  cases hb : b d ρ with
  | none => rw [hb] at q1; exact q1.elim
  | some ρ' => rw [hb] at q1; exact ⟨S1, th1, G1, H0, ρ, d, ρ', w1, eo1, r1, hb, fun σ' eo' k' l' => q1 σ' th1 G1 H1 w1 eo' (e0.trans e1) e1.gx⟩
/-- a, b = x, y with plain local names -/
def sPar (i : Nat) (b1 : Bool) (m1 : Envr → M D) (j : Nat) (b2 : Bool) (m2 : Envr → M D) : Envr → M Out := fun ρ => do
  let x ← m1 ρ
  let y ← m2 ρ
  pure (.nx ((ρ.set i (mkS b1 x)).set j (mkS b2 y)))
theorem rK.ext {b : Bool} {v : V} {d : D} (h : rK b X.K H0 th G H v d) (e : Ext th G H th1 G1 H1) : rK b X.K H0 th1 G1 H1 v d := by
  cases b with
  | false => exact e.rep h
  | true =>
    obtain ⟨a, rfl, h1, h2, h3, h4⟩ := h
    refine ⟨a, rfl, h1, ?_, e.nth h4.ne h3, e.repAt h3 h4⟩
    cases q : G1 a with
    | none => rfl
    | some o =>
      rcases e.new a (by rw [q]; simp) with z | z
      · exact absurd h2 z
      · exact absurd z h4.ne
theorem own_set {i : Nat} {b : Bool} {v : V} {d : D} {j : Nat} {d' : D} {a : Addr} (r : rK b X.K H0 th G H v d) (q : (ρ.set i (mkS b d))[j]? = some (.own d')) (hs : (σ.set i (some v))[j]? = some (some (.ref a))) (hl : ρ.length = σ.length) :
    (j ≠ i ∧ ρ[j]? = some (.own d') ∧ σ[j]? = some (some (.ref a))) ∨ H a ≠ none := by
  by_cases hj : i = j
  · subst hj
    have hi : i < ρ.length := by have := (List.getElem?_eq_some_iff.mp q).1; simpa using this
    rw [List.getElem?_set_self hi] at q
    rw [List.getElem?_set_self (by rw [← hl]; exact hi)] at hs
    cases b with
    | false => cases q
    | true =>
      obtain ⟨a', rfl, _, _, _, h4⟩ := r
      cases hs
      exact .inr h4.ne
  · rw [List.getElem?_set_ne hj] at q hs
    exact .inl ⟨Ne.symm hj, q, hs⟩
theorem ds_par {i j : Nat} {b1 b2 : Bool} {x y : Str} {a b : Expr} {px py pt : Pos} {kt k2 pt2} (hc : X.calm = true) (hN : X.N.Nodup) (ha : DX X (WK E) (rK b1) a ma) (hb : DX X (WK E) (rK b2) b mb) (hi : X.N[i]? = some x := by rfl) (hj : X.N[j]? = some y := by rfl) (hij : i ≠ j := by decide)
    (hx : X.env.scope.names.lookup x = some .local := by rfl) (hy : X.env.scope.names.lookup y = some .local := by rfl)
    (hw : swappedStores [.Tuple [.Name x px, .Name y py] kt pt] (.Tuple [a, b] k2 pt2) X.env = pure (some [x, y]) := by rfl)
    (hs : swapsWithSole [.Tuple [.Name x px, .Name y py] kt pt] (.Tuple [a, b] k2 pt2) pos.line X.env = pure false := by rfl)
    (h1 : starEach [a, b] X.env = (false, eval a X.env) :: starEach [b] X.env := by rfl) (h2 : starEach [b] X.env = (false, eval b X.env) :: starEach [] X.env := by rfl) :
    DS X E (.Assign [.Tuple [.Name x px, .Name y py] kt pt] (.Tuple [a, b] k2 pt2) pos) (sPar i b1 ma j b2 mb) :=
  PS.weak (ps_par hc hN hi hj hij hx hy (pa_cons ha (pa_cons hb pa_nil h2) h1) hw hs) fun D0 σ H ⟨S, th, G, H0, th0, G0, ρ, w, eo, e0, q⟩ => by
    refine tS.run w eo e0 q fun d S1 v th1 G1 H1 w1 e1 r1 eo1 q1 => ?_
    refine tS.run w1 eo1 (e0.trans e1) q1 fun f S2 u th2 G2 H2 w2 e2 r2 eo2 q2 => ?_
    refine ⟨v, u, rfl, ?_⟩
    have r1' := rK.ext r1 e2
    have eoA := eo2.setK i r1' (fun a ha => e0.back ha) fun l d' a _ hl hs' => eo.ownAt hl hs'
    refine q2 _ th2 G2 H2 w2 (eoA.setK j r2 (fun a ha => (e0.trans e1).back ha) fun l d' a hlj hl hs' => ?_) ((e0.trans e1).trans e2) (e1.gx.trans e2.gx)
    rcases own_set (b := b1) (d := d) r1 hl hs' eo.len with ⟨_, z1, z2⟩ | z
    · exact eo1.ownAt z1 z2
    · exact z
def sPar3 (i : Nat) (b1 : Bool) (m1 : Envr → M D) (j : Nat) (b2 : Bool) (m2 : Envr → M D) (l : Nat) (b3 : Bool) (m3 : Envr → M D) : Envr → M Out := fun ρ => do
  let x ← m1 ρ
  let y ← m2 ρ
  let z ← m3 ρ
  pure (.nx (((ρ.set i (mkS b1 x)).set j (mkS b2 y)).set l (mkS b3 z)))
theorem ds_par3 {i j l : Nat} {b1 b2 b3 : Bool} {x y z : Str} {a b c : Expr} {mc : Envr → M D} {px py pz pt : Pos} {kt k2 pt2} (hc : X.calm = true) (hN : X.N.Nodup) (ha : DX X (WK E) (rK b1) a ma) (hb : DX X (WK E) (rK b2) b mb) (hcc : DX X (WK E) (rK b3) c mc) (hi : X.N[i]? = some x := by rfl) (hj : X.N[j]? = some y := by rfl) (hl : X.N[l]? = some z := by rfl) (hij : i ≠ j := by decide) (hil : i ≠ l := by decide) (hjl : j ≠ l := by decide)
    (hx : X.env.scope.names.lookup x = some .local := by rfl) (hy : X.env.scope.names.lookup y = some .local := by rfl) (hz : X.env.scope.names.lookup z = some .local := by rfl)
    (hw : swappedStores [.Tuple [.Name x px, .Name y py, .Name z pz] kt pt] (.Tuple [a, b, c] k2 pt2) X.env = pure (some [x, y, z]) := by rfl)
    (hs : swapsWithSole [.Tuple [.Name x px, .Name y py, .Name z pz] kt pt] (.Tuple [a, b, c] k2 pt2) pos.line X.env = pure false := by rfl)
    (h1 : starEach [a, b, c] X.env = (false, eval a X.env) :: starEach [b, c] X.env := by rfl) (h2 : starEach [b, c] X.env = (false, eval b X.env) :: starEach [c] X.env := by rfl) (h3 : starEach [c] X.env = (false, eval c X.env) :: starEach [] X.env := by rfl) :
    DS X E (.Assign [.Tuple [.Name x px, .Name y py, .Name z pz] kt pt] (.Tuple [a, b, c] k2 pt2) pos) (sPar3 i b1 ma j b2 mb l b3 mc) :=
  PS.weak (ps_par3 hc hN hi hj hl hij hil hjl hx hy hz (pa_cons ha (pa_cons hb (pa_cons hcc pa_nil h3) h2) h1) hw hs) fun D0 σ H ⟨S, th, G, H0, th0, G0, ρ, w, eo, e0, q⟩ => by
    refine tS.run w eo e0 q fun d S1 v th1 G1 H1 w1 e1 r1 eo1 q1 => ?_
    refine tS.run w1 eo1 (e0.trans e1) q1 fun f S2 u th2 G2 H2 w2 e2 r2 eo2 q2 => ?_
    refine tS.run w2 eo2 ((e0.trans e1).trans e2) q2 fun g S3 t th3 G3 H3 w3 e3 r3 eo3 q3 => ?_
    refine ⟨v, u, t, rfl, ?_⟩
    have eoA := eo3.setK i (rK.ext (rK.ext r1 e2) e3) (fun a ha => e0.back ha) fun l d' a _ hl hs' => eo.ownAt hl hs'
    have eoB := eoA.setK j (rK.ext r2 e3) (fun a ha => (e0.trans e1).back ha) fun l d' a hlj hl hs' => by
      rcases own_set (b := b1) (d := d) r1 hl hs' eo.len with ⟨_, z1, z2⟩ | z
      · exact eo1.ownAt z1 z2
      · exact z
    refine q3 _ th3 G3 H3 w3 (eoB.setK l r3 (fun a ha => ((e0.trans e1).trans e2).back ha) fun n d' a hlj hl hs' => ?_) (((e0.trans e1).trans e2).trans e3) ((e1.gx.trans e2.gx).trans e3.gx)
    rcases own_set (b := b2) (d := f) r2 hl hs' (by simp [eo.len]) with ⟨_, z1, z2⟩ | z
    · rcases own_set (b := b1) (d := d) (rK.ext r1 e2) z1 z2 eo.len with ⟨_, y1, y2⟩ | z
      · exact eo2.ownAt y1 y2
      · exact z
    · exact z
/-- a list of one's own becomes data: no statement of the text -/
theorem dss_freeze (i : Nat) (hs : DSs X E sts n) : DSs X E sts (sSeq (sFreeze i) n) := PSs.weak hs fun D0 σ H ⟨S, th, G, H0, th0, G0, ρ, w, eo, e0, q⟩ => by
  unfold sSeq sFreeze at q
  cases hr : ρ[i]? with
  | none => simp only [hr] at q; exact q.elim
  | some sl => cases sl with
    | no => simp only [hr] at q; exact q.elim
    | dat d => simp only [hr] at q; exact q.elim
    | own d =>
      simp only [hr] at q
      obtain ⟨a, h1, h2, h3, h4, h5⟩ := eo.own i d hr
      obtain ⟨o, ho, hrep⟩ := h5.rep h3
      obtain ⟨w2, hrd⟩ := w.freeze ho h4 h3
      have hi : i < ρ.length := (List.getElem?_eq_some_iff.mp hr).1
      have gx : GX th G th (upd G a o) := ⟨fun _ _ z => z, fun b u z => by rw [upd_ne (ne_of_none z h3)]; exact z⟩
      have eo2 : EnvOk X.K th (upd G a o) H H0 σ (ρ.set i (.dat d)) := by
        refine ⟨by simp [eo.len], fun j d' z => ?_, fun j d' z => ?_, fun j l d1 d2 b nn z1 z2 hs => ?_⟩
        · by_cases hj : i = j
          · subst hj
            rw [List.getElem?_set_self hi] at z
            cases z
            exact ⟨_, h1, hrep⟩
          · rw [List.getElem?_set_ne hj] at z
            obtain ⟨v, y1, y2⟩ := eo.dat j d' z
            exact ⟨v, y1, y2.mono (fun _ _ z => z) (lst_upd h3) hrd⟩
        · by_cases hj : i = j
          · subst hj
            rw [List.getElem?_set_self hi] at z
            cases z
          · rw [List.getElem?_set_ne hj] at z
            obtain ⟨b, y1, y2, y3, y4, y5⟩ := eo.own j d' z
            have hba : b ≠ a := fun zz => eo.sep i j d d' a hj hr z h1 (by rw [← zz]; exact y1)
            refine ⟨b, y1, y2, by rw [upd_ne hba]; exact y3, y4, ?_⟩
            cases d' with
            | lst ds => obtain ⟨xs, p1, p2⟩ := y5; exact ⟨xs, p1, p2.mono (fun _ _ z => z) (lst_upd h3) hrd⟩
            | dic kvs =>
              rcases y5 with ⟨kk, p1, p2⟩ | ⟨kk, p1, p2⟩
              · exact .inl ⟨kk, p1, p2.mono (fun _ _ z => z) (lst_upd h3) hrd⟩
              · exact .inr ⟨kk, p1, p2.mono (fun _ _ z => z) (lst_upd h3) hrd⟩
            | non => exact y5.elim
            | bl _ => exact y5.elim
            | int _ => exact y5.elim
            | str _ => exact y5.elim
            | tup _ => exact y5.elim
            | obj _ => exact y5.elim
            | scr _ => exact y5.elim
        · by_cases hj : i = j
          · subst hj
            rw [List.getElem?_set_self hi] at z1
            cases z1
          · by_cases hl : i = l
            · subst hl
              rw [List.getElem?_set_self hi] at z2
              cases z2
            · rw [List.getElem?_set_ne hj] at z1
              rw [List.getElem?_set_ne hl] at z2
              exact eo.sep j l d1 d2 b nn z1 z2 hs
      refine ⟨S, th, upd G a o, H0, th0, G0, ρ.set i (.dat d), w2, eo2, freeze_ext e0 h2 ho h3, Res.wp.mono (show (n (ρ.set i (.dat d)) S).wp _ _ from q) (fun o S2 q2 => q2.gx gx) fun _ _ _ z => z⟩

/-! ### for -/
theorem ds_for {tg iter : Expr} {body : List Stmt} {is : List Nat} {bd : Bd} {it : Envr → M (List D)} (hp : PassesOwn (model X.prog X.w) X.A X.env X.xe) (hc : X.calm = true) (hi : DI X (WK E) tg iter it) (hg : DG X tg is bd) (hb : DSs X E body m) (hs : ∀ x, foldedSetIterable iter X.env x = pure x := by intro _; rfl) :
    DS X E (.For tg iter body [] pos) (sFor it bd m) := PS.weak (ps_for hp hc hi hg hb hs) fun D0 σ H ⟨S, th, G, H0, th0, G0, ρ, w, eo, e0, q⟩ => by
  unfold sFor at q
  rw [wp_bind] at q
  refine ⟨S, th, G, H0, ρ, w, eo, q.mono (fun ds S1 q1 J th1 G1 H1 w1 e1 hJ => ?_) fun _ _ _ z => z.back e0⟩
  refine ⟨fun i k σ' Hc => k = ds.length - i ∧ i ≤ ds.length ∧ ∃ Sc thc Gc ρc, Wd X.K X.mg Sc thc Gc Hc ∧ EnvOk X.K thc Gc Hc H0 σ' ρc ∧ Ext th0 G0 H0 thc Gc Hc ∧ GX th1 G1 thc Gc ∧ (forS bd m (ds.drop i) ρc Sc).wp (PostS X D0 H0 th0 G0 thc Gc) (PostX X E H0 th0 G0),
    ⟨ds.length, by simp, Nat.zero_le _, S1, th1, G1, ρ, w1, eo.ext e1, e0.trans e1, .refl, by rw [List.drop_zero]; exact q1.mono (fun o S2 z => z.gx e1.gx) fun _ _ _ z => z⟩, ?_⟩
  rintro i k σ' Hc ⟨rfl, hi', Sc, thc, Gc, ρc, wc, eoc, ec, gc, qc⟩
  obtain ⟨hgo, hstop, hyld⟩ := hJ Sc thc Gc Hc wc gc.t gc.g
  by_cases hlt : i < ds.length
  · refine .inr ⟨hgo i hlt, fun σ2 H2 => ∃ Sc thc Gc ρc, Wd X.K X.mg Sc thc Gc H2 ∧ EnvOk X.K thc Gc H2 H0 σ2 ρc ∧ Ext th0 G0 H0 thc Gc H2 ∧ GX th1 G1 thc Gc ∧ (forS bd m (ds.drop (i + 1)) ρc Sc).wp (PostS X D0 H0 th0 G0 thc Gc) (PostX X E H0 th0 G0),
      fun σ2 H2 hn => ⟨ds.length - (i + 1), by omega, rfl, hlt, hn⟩, fun x H' hy => ?_⟩
    obtain ⟨G', d, w', e', hd, rd⟩ := hyld i x H' hlt hy
    have hdrop : ds.drop i = d :: ds.drop (i + 1) := by
      rw [List.drop_eq_getElem_cons hlt, (List.getElem?_eq_some_iff.mp hd).2]
    rw [hdrop] at qc
    cases hb1 : bd d ρc with
    | none => simp only [forS, hb1] at qc; exact qc.elim
    | some ρ1 =>
      simp only [forS, hb1] at qc
      rw [wp_bind] at qc
      refine ⟨Sc, thc, G', H0, ρc, d, ρ1, w', eoc.ext e', rd, hb1, fun σ2 eo2 _ _ => ⟨Sc, thc, G', H0, th0, G0, ρ1, w', eo2, ec.trans e', qc.mono (fun o S2 q2 => ?_) fun _ _ _ z => z⟩⟩
      cases o with
      | nx ρ2 => exact fun σ3 th3 G3 H3 w3 eo3 e3 g3 => ⟨S2, th3, G3, ρ2, w3, eo3, e3, (gc.trans e'.gx).trans g3, Res.wp.mono (show (forS bd m (ds.drop (i + 1)) ρ2 S2).wp _ _ from q2) (fun o S4 z => z.gx (e'.gx.trans g3)) fun _ _ _ z => z⟩
      | ct ρ2 => exact fun σ3 th3 G3 H3 w3 eo3 e3 g3 => ⟨S2, th3, G3, ρ2, w3, eo3, e3, (gc.trans e'.gx).trans g3, Res.wp.mono (show (forS bd m (ds.drop (i + 1)) ρ2 S2).wp _ _ from q2) (fun o S4 z => z.gx (e'.gx.trans g3)) fun _ _ _ z => z⟩
      | bk ρ2 => exact fun σ3 th3 G3 H3 w3 eo3 e3 g3 => (show PostS X D0 H0 th0 G0 thc Gc (.nx ρ2) S2 from q2) σ3 th3 G3 H3 w3 eo3 e3 (e'.gx.trans g3)
      | rt d => exact fun v th3 G3 H3 w3 e3 r3 => (show PostS X D0 H0 th0 G0 thc Gc (.rt d) S2 from q2) v th3 G3 H3 w3 e3 r3
  · have ei : i = ds.length := by omega
    subst ei
    refine .inl ⟨hstop, ?_⟩
    rw [List.drop_length] at qc
    exact (show PostS X D0 H0 th0 G0 thc Gc (.nx ρc) Sc from qc) σ' thc Gc Hc wc eoc ec .refl
end
end FB

/-! append, stores by place, raise; defs and calls. -/
namespace FB
open PySem PySem.Spec PyProof.Rows L2
section
variable {X : Cx} {E : XK} {st : Stmt} {sts : List Stmt} {m n : Envr → M Out} {e o i : Expr} {me mo mi ma mb : Envr → M D} {S : Store} {th th1 th0 : List Addr} {G G1 G0 H H1 H0 : Hp} {σ : L2.St} {ρ : Envr} {pos : Pos} {R : RK}
/-- what a slot of one's own holds is changed -/
theorem EnvOk.chg (eo : EnvOk X.K th G H H0 σ ρ) {k : Nat} {d d' : D} {a : Addr} {oo : HO} (hr : ρ[k]? = some (.own d)) (hs : σ[k]? = some (some (.ref a))) (hd : RepAt X.K th G (upd H a oo) a d') : EnvOk X.K th G (upd H a oo) H0 σ (ρ.set k (.own d')) := by
  have hk : k < ρ.length := (List.getElem?_eq_some_iff.mp hr).1
  obtain ⟨a1, h1, h2, h3, h4, h5⟩ := eo.own k d hr
  rw [hs] at h1
  cases h1
  have ne : ∀ b, b ≠ a → upd H a oo b = H b := fun b hb => upd_ne hb
  refine ⟨by simp [eo.len], fun j d2 q => ?_, fun j d2 q => ?_, fun j l d1 d2 b nn q1 q2 hb => ?_⟩
  · by_cases hj : k = j
    · subst hj
      rw [List.getElem?_set_self hk] at q
      cases q
    · rw [List.getElem?_set_ne hj] at q
      exact eo.dat j d2 q
  · by_cases hj : k = j
    · subst hj
      rw [List.getElem?_set_self hk] at q
      cases q
      exact ⟨a, hs, h2, h3, h4, hd⟩
    · rw [List.getElem?_set_ne hj] at q
      obtain ⟨b, y1, y2, y3, y4, y5⟩ := eo.own j d2 q
      have hba : b ≠ a := fun z => eo.sep k j d d2 a hj hr q hs (by rw [← z]; exact y1)
      refine ⟨b, y1, y2, y3, y4, ?_⟩
      cases d2 with
      | lst ds => obtain ⟨xs, p1, p2⟩ := y5; exact ⟨xs, by rw [ne b hba]; exact p1, p2⟩
      | dic kvs =>
        rcases y5 with ⟨kk, p1, p2⟩ | ⟨kk, p1, p2⟩
        · exact .inl ⟨kk, by rw [ne b hba]; exact p1, p2⟩
        · exact .inr ⟨kk, by rw [ne b hba]; exact p1, p2⟩
      | non => exact y5.elim
      | bl _ => exact y5.elim
      | int _ => exact y5.elim
      | str _ => exact y5.elim
      | tup _ => exact y5.elim
      | obj _ => exact y5.elim
      | scr _ => exact y5.elim
  · have conv : ∀ {j : Nat} {f : D}, (ρ.set k (.own d'))[j]? = some (.own f) → ∃ f', ρ[j]? = some (.own f') := fun {j f} q => by
      by_cases hj : k = j
      · subst hj; exact ⟨d, hr⟩
      · rw [List.getElem?_set_ne hj] at q; exact ⟨f, q⟩
    obtain ⟨f1, g1⟩ := conv q1
    obtain ⟨f2, g2⟩ := conv q2
    exact eo.sep j l f1 f2 b nn g1 g2 hb
theorem Wd.chg (w : Wd X.K X.mg S th G H) {a : Addr} {oo : HO} (g : G a = none) (na : a ∉ th) : Wd X.K X.mg S th G (upd H a oo) := by
  refine ⟨fun b u h => ?_, w.len, w.nog, w.nd, fun n mo b h1 h2 => ?_⟩
  · rw [upd_ne (fun z => by rw [z, g] at h; cases h)]; exact w.sub b u h
  · have hb : b ≠ a := fun z => na (by rw [← z]; exact List.mem_of_getElem? h2)
    have q := w.obj n mo b h1 h2
    cases mo with
    | lst l => obtain ⟨us, p1, p2⟩ := q; exact ⟨us, by rw [upd_ne hb]; exact p1, p2⟩
    | ins C fs => obtain ⟨Ca, dx, us, p0, p1, p2⟩ := q; exact ⟨Ca, dx, us, p0, by rw [upd_ne hb]; exact p1, p2⟩
theorem Ext.chg (e : Ext th0 G0 H0 th G H) {a : Addr} {oo : HO} (n : H0 a = none) : Ext th0 G0 H0 th G (upd H a oo) := by
  refine ⟨e.tt, e.g, e.new, fun b u h na => ?_, fun b h => ?_⟩
  · rw [upd_ne (fun z => by rw [z, n] at h; cases h)]; exact e.keep b u h na
  · by_cases hb : b = a
    · rw [hb, upd_same]; simp
    · rw [upd_ne hb]; exact e.dom b h
/-- found.append(e), found a list of one's own -/
def sAppend (k : Nat) (me : Envr → M D) : Envr → M Out := fun ρ => match ρ[k]? with
  | some (.own (.lst ds)) => do
    let d ← me ρ
    if ds.length < sizeLine then pure (.nx (ρ.set k (.own (.lst (ds ++ [d]))))) else fail
  | _ => fail
theorem own_lst {k : Nat} {Qb : Out → Store → Prop} {Ex : Str → D → Store → Prop} {f : List D → M Out} (h : (match ρ[k]? with | some (.own (.lst ds)) => f ds | _ => fail : M Out) S |>.wp Qb Ex) : ∃ ds, ρ[k]? = some (.own (.lst ds)) ∧ (f ds S).wp Qb Ex := by
  cases hr : ρ[k]? with
  | none => rw [hr] at h; exact h.elim
  | some sl => cases sl with
    | no => rw [hr] at h; exact h.elim
    | dat d => rw [hr] at h; exact h.elim
    | own d => cases d with
      | lst ds => rw [hr] at h; exact ⟨ds, rfl, h⟩
      | _ => rw [hr] at h; exact h.elim
theorem ds_append {k : Nat} {x : Str} {p1 apos cpos : Pos} (he : DX X (WK E) rE e me) (hN : X.N[k]? = some x := by rfl) (hv : Vis X.env.scope x := by first | exact Or.inl rfl | exact Or.inr (Or.inl rfl) | exact Or.inr (Or.inr rfl)) (hd : (x == ("__debug__" : Str)) = false := by decide) (hcd : (x == ("__classdict__" : Str)) = false := by decide)
    (hbase : attributeBase (.Name x p1) "append" X.env (eval (.Name x p1) X.env) = eval (.Name x p1) X.env := by rfl)
    (hfew : ((backTo cpos (starEach [e] X.env)).all (fun x => !x.1) && (backToKw cpos (keywordEach [] X.env)).all (fun x => x.1.isSome) && decide ([e].length + ([] : List Keyword).length + (if ([] : List Keyword).isEmpty then 0 else 1) < 30)) = true := by rfl)
    (hline : (apos.endLine == cpos.line) = true := by rfl) (hs : starEach [e] X.env = (false, eval e X.env) :: starEach [] X.env := by rfl) (hplain : (backTo cpos (starEach [] X.env)).any (·.1) = false := by rfl)
    (hsw : swapsWith (.Call (.Attribute (.Name x p1) "append" apos) [e] [] cpos) none pos.line X.env = pure false := by rfl) :
    DS X E (.Expr (.Call (.Attribute (.Name x p1) "append" apos) [e] [] cpos) pos) (sAppend k me) :=
  PS.weak (ps_expr (pe_bm PySem.F.plainAttrs_list PySem.F.slot_list_append PySem.F.type_list_append mt_append (pe_var hN hv hd hcd) (pa_cons he pa_nil hs) hbase hfew hline hs hplain) hsw) fun D0 σ H ⟨S, th, G, H0, th0, G0, ρ, w, eo, e0, q⟩ => by
    obtain ⟨ds, hr, q1⟩ := own_lst q
    obtain ⟨a, h1, h2, h3, h4, xs, h5, h6⟩ := eo.own k _ hr
    refine ⟨.ref a, h1, .inl ⟨rfl, _, SqL.of h5⟩, ?_⟩
    refine tS.run w eo e0 q1 fun d S1 v th1 G1 H1 w1 e1 r1 eo1 q2 => ?_
    obtain ⟨a', h1', h2', h3', h4', xs', h5', h6'⟩ := eo1.own k _ hr
    rw [h1] at h1'
    cases h1'
    by_cases hz : ds.length < sizeLine
    · rw [if_pos hz] at q2
      refine ⟨a, xs', v, rfl, rfl, h5', by rw [h6'.length]; exact hz, ?_⟩
      exact q2 σ th1 G1 _ (w1.chg h3' h4') (eo1.chg hr h1 ⟨_, upd_same, h6'.append (RepL.one r1)⟩) ((e0.trans e1).chg h2) e1.gx
    · rw [if_neg hz] at q2; exact q2.elim

/-! ### objects of the store -/
theorem Wd.setO (w : Wd X.K X.mg S th G H) {k : Nat} {a : Addr} {mo : MO} {oo : HO} (ha : th[k]? = some a) (hn : ObjAt X.K X.mg th G (upd H a oo) a mo) : Wd X.K X.mg (S.set k mo) th G (upd H a oo) ∧ Ext th G H th G (upd H a oo) := by
  have hin : a ∈ th := List.mem_of_getElem? ha
  have ga := w.nog a hin
  have hk : k < th.length := (List.getElem?_eq_some_iff.mp ha).1
  have E : Ext th G H th G (upd H a oo) := ⟨⟨[], by simp, fun _ h => nomatch h⟩, fun _ _ h => h, fun _ h => .inl h, fun b u h n => by rw [upd_ne (fun z => n (by rw [z]; exact hin))]; exact h, fun b h => by
    by_cases hb : b = a
    · rw [hb, upd_same]; simp
    · rw [upd_ne hb]; exact h⟩
  refine ⟨⟨fun b u h => ?_, by rw [List.length_set]; exact w.len, w.nog, w.nd, fun j mo' b h1 h2 => ?_⟩, E⟩
  · rw [upd_ne (fun z => by rw [z, ga] at h; cases h)]; exact w.sub b u h
  · by_cases hj : k = j
    · subst hj
      rw [List.getElem?_set_self (by rw [← w.len]; exact hk)] at h1
      cases h1
      rw [ha] at h2
      cases h2
      exact hn
    · rw [List.getElem?_set_ne hj] at h1
      have hb : b ≠ a := fun z => by
        subst z
        obtain ⟨j1, e1⟩ := List.getElem?_eq_some_iff.mp h2
        obtain ⟨k1, e2⟩ := List.getElem?_eq_some_iff.mp ha
        exact hj ((List.getElem_inj w.nd).mp (e2.trans e1.symm))
      exact ObjAt.ext E (upd_ne hb) (w.obj j mo' b h1 h2)
/-- o[i] = e, o an object: a list -/
def setAt (o i d : D) : M Unit := fun S => match o, i with
  | .obj n, .int k => match S[n]? with
    | some (.lst ds) => match ixN ds.length k with
      | some j => .ok () (S.set n (.lst (ds.set j d)))
      | none => .bad
    | _ => .bad
  | _, _ => .bad
def sSetItem (me mo mi : Envr → M D) : Envr → M Out := fun ρ => do
  let d ← me ρ
  let o ← mo ρ
  let i ← mi ρ
  setAt o i d
  pure (.nx ρ)
theorem ds_setItem {p2 : Pos} (he : DX X (WK E) rE e me) (ho : DX X (WK E) rE o mo) (hi : DX X (WK E) rE i mi)
    (hs : swapsWithSole [.Subscript o i p2] e pos.line X.env = pure false := by rfl) (hw : swappedStores [.Subscript o i p2] e X.env = pure none := by rfl) (h1 : (assignEach [.Subscript o i p2] X.env).map (·.2) = [assign (.Subscript o i p2) X.env] := by rfl)
    (ha : ∀ v, assign (.Subscript o i p2) X.env v = (do
      let ov ← holding [v] (eval o X.env)
      let iv ← holding [v, ov] (eval i X.env)
      standAt p2
      holding [v, ov, iv] (setItem ov iv v)
      release [v, ov, iv] []) := by intro _; rfl) :
    DS X E (.Assign [.Subscript o i p2] e pos) (sSetItem me mo mi) := PS.weak (ps_asg he (pg_sub ho hi set_list ha) hs hw h1) fun D0 σ H ⟨S, th, G, H0, th0, G0, ρ, w, eo, e0, q⟩ => by
  refine tS.run w eo e0 q fun d S1 v th1 G1 H1 w1 e1 r1 eo1 q1 => ?_
  refine tS.run w1 eo1 (e0.trans e1) q1 fun o S2 u th2 G2 H2 w2 e2 r2 eo2 q2 => ?_
  refine tS.run w2 eo2 ((e0.trans e1).trans e2) q2 fun i S3 t th3 G3 H3 w3 e3 r3 eo3 q3 => ?_
  have r2' := e3.rep r2
  cases o with
  | obj n =>
    cases i with
    | int k =>
      rw [wp_bind] at q3
      simp only [setAt] at q3
      cases hS : S3[n]? with
      | none => simp only [hS] at q3; exact q3.elim
      | some mo =>
        cases mo with
        | ins C fs => simp only [hS] at q3; exact q3.elim
        | lst ds =>
          simp only [hS] at q3
          cases hj : ixN ds.length k with
          | none => simp only [hj] at q3; exact q3.elim
          | some j =>
            simp only [hj] at q3
            cases r2' with
            | obj hth =>
              cases r3
              obtain ⟨xs, hx, hxr⟩ := w3.obj n _ _ hS hth
              refine ⟨_, xs, k, j, rfl, rfl, hx, by rw [hxr.length]; exact hj, ?_⟩
              obtain ⟨w4, e4⟩ := w3.setO (mo := .lst (ds.set j d)) hth ⟨_, upd_same, hxr.set (e3.rep (e2.rep r1)) j⟩
              exact q3 σ th3 G3 _ w4 (eo3.ext e4) ((((e0.trans e1).trans e2).trans e3).trans e4) (((e1.gx.trans e2.gx).trans e3.gx).trans e4.gx)
    | _ => exact q3.elim
  | _ => exact q3.elim

/-! ### raise -/
theorem ds_raise {C : Addr} {x tx : Str} {j : Nat} {p p2 p3 : Pos} (hc : X.calm = true) (tk : Takes X (WK E)) (qC : PySem.W.excIn X.K C [.type "ValueError", .type "Exception", .type "BaseException", .type "object"] "ValueError.__new__" = true)
    (gC : X.mg x = some (.ref C)) (kC : PySem.W.keepIn X.K (.ref C) = true) (r : Raises X (.ref C)) (hg : Gl X x := by rfl) (hdb : (x == ("__debug__" : Str)) = false := by decide) :
    DS X E (.Raise (some (.Call (.Name x p) [.Constant (.str tx) j p2] [] p3)) none pos) (fun _ => throwM x .non) :=
  PS.weak (ps_raise hc tk (pmk_own PySem.F.excBase_ValueError qC gC kC r hg hdb)) fun D0 σ H ⟨S, th, G, H0, th0, G0, ρ, w, eo, e0, q⟩ => q _ _ th G H w e0 ⟨gC, .inl ⟨rfl, rfl⟩⟩
end

/-! ### defs -/
def startE (n : Nat) (ds : List D) : Envr := ds.map Sl.dat ++ List.replicate (n - ds.length) Sl.no
/-- a def's body, run at its arguments -/
def runF (n : Nat) (mb : Envr → M Out) : List D → M D := fun ds => do
  let o ← mb (startE n ds)
  match o with
  | .nx _ => pure .non
  | .rt d => pure d
  | _ => fail
/-- what a def promises -/
def spD (K : PySem.W.Frag) (mg : Str → Option Value) (m : List D → M D) : Sp := fun vs H Q E => ∃ S th G ds, Wd K mg S th G H ∧ RepL K th G vs ds ∧
  (m ds S).wp (fun d S' => ∀ v th' G' H', Wd K mg S' th' G' H' → Ext th G H th' G' H' → Rep K th' G' v d → Q v H') (fun c p S' => ∀ cls dx th' G' H', Wd K mg S' th' G' H' → Ext th G H th' G' H' → ExcAt K mg th' G' H' c p cls dx → E cls dx H')
structure FG (P : Program) (w : World) (K : PySem.W.Frag) (mg : Str → Option Value) (base : Heap) (k : Nat) (f : Addr) (fd : FuncData) (ps : List Str) (m : List D → M D) : Prop where
  run : ∀ (A : Around) (outer : List Env) (s : Shared) (H : Hp) (args : Args) (us : List Value) (vs : List V) (Q : VK) (E : XK), Room k A → A.guards = some [] → Env0 P w K mg base A outer s H → BindsTo s fd args (ps.zip us) → Vals vs us → vs.length = ps.length → spD K mg m vs H Q E →
    codeAny (model P w) A (.call (.ref f) args) (CR (L2.CX P w) outer P w H s Q E) s
section
variable {P : Program} {w : World} {K : PySem.W.Frag} {mg : Str → Option Value} {base : Heap}
theorem FG.mono {j k : Nat} {f : Addr} {fd : FuncData} {ps : List Str} {m : List D → M D} (F : FG P w K mg base j f fd ps m) (h : j ≤ k) : FG P w K mg base k f fd ps m :=
  ⟨fun A outer s H args us vs Q E hr => F.run A outer s H args us vs Q E (hr.mono h)⟩
theorem envOk_start {th : List Addr} {G H : Hp} {n : Nat} {vs : List V} {ds : List D} {N : List Str} (hn : N.length = n) (r : RepL K th G vs ds) : EnvOk K th G H H (L2.start N vs) (startE n ds) := by
  have hl := r.length
  have get : ∀ (i : Nat) d, (startE n ds)[i]? = some (.dat d) → ds[i]? = some d := fun i d h => by
    unfold startE at h
    by_cases hi : i < ds.length
    · rw [List.getElem?_append_left (by simpa using hi), List.getElem?_map] at h
      cases q : ds[i]? with
      | none => rw [q] at h; cases h
      | some d' => rw [q] at h; cases h; rfl
    · rw [List.getElem?_append_right (by simpa using hi), List.getElem?_replicate] at h
      split at h <;> cases h
  have noown : ∀ (i : Nat) d, (startE n ds)[i]? ≠ some (.own d) := fun i d h => by
    unfold startE at h
    by_cases hi : i < ds.length
    · rw [List.getElem?_append_left (by simpa using hi), List.getElem?_map] at h
      cases q : ds[i]? with
      | none => rw [q] at h; cases h
      | some d' => rw [q] at h; cases h
    · rw [List.getElem?_append_right (by simpa using hi), List.getElem?_replicate] at h
      split at h <;> cases h
  refine ⟨?_, fun i d h => ?_, fun i d h => absurd h (noown i d), fun i j d e a _ h => absurd h (noown i d)⟩
  · unfold startE L2.start
    rw [List.length_append, List.length_append, List.length_map, List.length_map, List.length_replicate, List.length_replicate, hl, hn]
  · obtain ⟨v, hv, rv⟩ := r.get (get i d h)
    refine ⟨v, ?_, rv⟩
    unfold L2.start
    rw [List.getElem?_append_left (by rw [List.length_map]; exact (List.getElem?_eq_some_iff.mp hv).1), List.getElem?_map, hv]
    rfl
/-- THE RULE for a def: its body's run -/
theorem fg_of {x qual : Str} {st : Stmt} {f : Addr} {fd : FuncData} {N ps : List Str} {k : Nat} {mb : Envr → M Out} (F : Fun K x qual st f fd) (Sc : FnScope N ps (defScope st))
    (hbody : ∀ (cdv : Value) (A : Around) (outer : List Env) (s : Shared) (H : Hp) (E : XK), Room k (A.deeper (envOfC qual (defScope st) s.heap.objs.size f cdv)) → (A.deeper (envOfC qual (defScope st) s.heap.objs.size f cdv)).guards = some [] →
      DSs (cxOf (L2.CX P w) P w K mg base N qual (defScope st) f cdv A outer s H E) E (defBody st) mb) : FG P w K mg base (k + 1) f fd ps (runF N.length mb) := by
  obtain ⟨oc, od, kV, doc, pm, an, cdv, ct, osl, rfl, lk, hcd⟩ := F.ex
  refine ⟨fun A outer s H args us vs Q E hr hgd e0 hb r hl hsp => ?_⟩
  have KX : K.In s.heap := e0.mod.kin.keeps fun b o e => (e0.bs b o e).1
  have lim : s.heap.NoLimit := e0.mod.nolimit.keeps fun b o e => (e0.bs b o e).1
  have hkind : ∀ y ∈ ps.zip us, (defScope st).names.lookup y.1 = some .local ∨ ((defScope st).names.lookup y.1 = some .cell ∧ ((cellsFrom (s.heap.objs.size + 1) (defScope st).names []).lookup y.1).isSome = true) := fun ⟨nm, v⟩ hy => by
    rcases Sc.par nm (List.of_mem_zip hy).1 with q | q
    · exact .inl q
    · exact .inr ⟨q, PySem.W.cellsFrom_some _ _ _ (.inl q)⟩
  refine codeAny_call_function hr.depth (KX _ _ lk) rfl Sc.co Sc.gen rfl (PySem.W.codeRec_of KX hcd) (hb _ _ _ _ ?_)
  refine wpAny_newFunctionEnv_cells Sc.kind hkind fun env he s1 xx => ?_
  subst he
  refine ⟨lim.keeps xx.toInCall.keep, codeAny_func ?_⟩
  obtain ⟨S, th, G, ds, wd, rl, hq⟩ := hsp
  have bd := hbody cdv A outer s H E (hr.deeper _) hgd
  have I : Inv (cxOf (L2.CX P w) P w K mg base N qual (defScope st) f cdv A outer s H E) [] (L2.start N vs) H s1 := inv_start Sc hr.hd e0 hl r xx
  unfold runF at hq
  rw [wp_bind] at hq
  refine wpAny_mono (bd.run [] s1 (L2.start N vs) H { nx := fun _ H' => Q .non H', rt := Q } I ⟨S, th, G, H, th, G, startE N.length ds, wd, envOk_start rfl rl, .refl, hq.mono (fun o S1 q1 => ?_) fun _ _ _ z => z⟩) (fun fl s' hs => ?_) fun e s' hs => hs
  · cases o with
    | nx ρ' => exact fun σ' th' G' H' w' _ e' _ => q1 .non th' G' H' w' e' .non
    | rt d => exact fun v th' G' H' w' e' r' => q1 v th' G' H' w' e' r'
    | bk ρ' => exact q1.elim
    | ct ρ' => exact q1.elim
  · have fin : ∀ {σ' : L2.St} {H' : Hp} {v : V} {u : Value}, Inv (cxOf (L2.CX P w) P w K mg base N qual (defScope st) f cdv A outer s H E) [] σ' H' s' → RelV v u → Q v H' → CE outer P w H s Q u s' :=
      fun {σ' H' v u} J rv q => ⟨v, H', J.os, J.bare, J.base, J.hok, rv, q⟩
    cases fl with
    | ret u =>
      obtain ⟨v, σ', H', J, rv, q⟩ := hs
      exact fin J rv q
    | next =>
      obtain ⟨σ', H', J, q⟩ := hs
      exact fin (v := V.non) (u := Value.none) J rfl q
    | brk => exact False.elim hs.choose_spec.choose_spec.2
    | cont => exact False.elim hs.choose_spec.choose_spec.2
end
section
variable {X : Cx} {W : WX} {S : Store} {th : List Addr} {G H H0 : Hp} {σ : L2.St} {ρ : Envr} {pos p : Pos} {x : Str} {e : Expr} {es : List Expr} {k : Nat} {f : Addr} {fd : FuncData} {ps : List Str} {m : List D → M D} {ms : Envr → M (List D)}
/-- a callee runs -/
theorem run_fg {pins : List (Addr × Obj)} {s : Shared} {Q : VK} {us : List Value} {vs : List V} {E : XK} (F : FG X.prog X.w X.K X.mg X.base k f fd ps m) (hr : Room k X.A) (hgd : X.A.guards = some []) (hb : Binds X.K fd ps []) (hx : PassesAt (L2.CX X.prog X.w) X σ E)
    (I : Inv X pins σ H s) (r : Vals vs us) (hl : vs.length = ps.length) (h : spD X.K X.mg m vs H Q E) : wpAny (model X.prog X.w) X.A (call (.ref f) us) (EP X pins σ Q) X.xe s := by
  have hl2 : us.length = ps.length := by rw [← r.length]; exact hl
  have b := hb s us I.kIn (by rw [List.append_nil]; exact hl2)
  rw [List.append_nil] at b
  refine wpAny_call (codeAny_mono (F.run X.A X.stack s H ⟨us, []⟩ us vs Q E hr hgd I.env0 b r hl h) fun r s' hq => ?_)
  cases r with
  | error e => exact hx pins H s e s' I hq
  | ok fl =>
    cases fl with
    | ret u => exact I.after hq
    | next => exact hq.elim
    | brk => exact hq.elim
    | cont => exact hq.elim
/-- f(..) -/
def eCall (n : Nat) (m : List D → M D) (ms : Envr → M (List D)) : Envr → M D := fun ρ => do
  let ds ← ms ρ
  if ds.length = n then m ds else fail
theorem d_call (F : FG X.prog X.w X.K X.mg X.base k f fd ps m) (hr : Room k X.A) (hgd : X.A.guards = some []) (hm : X.mg x = some (.ref f)) (hk : PySem.W.keepIn X.K (.ref f) = true) (hb : Binds X.K fd ps []) (tk : Takes X W) (ha : DA X W (e :: es) ms) (hg : Gl X x := by rfl)
    (hdb : (x == ("__debug__" : Str)) = false := by decide) (he : starEach (e :: es) X.env = (false, eval e X.env) :: starEach es X.env := by rfl) (hpl : (backTo pos (starEach es X.env)).any (·.1) = false := by rfl) :
    DX X W rE (.Call (.Name x p) (e :: es) [] pos) (eCall ps.length m ms) := ⟨fun pins s σ H Q I ⟨S, th, G, H0, ρ, w, eo, q⟩ => by
  unfold eCall at q
  rw [wp_bind] at q
  refine wpAny_Call_Name_kw (ld_glob I hg hm ?_ hdb)
  refine PySem.W.callWith_K (h₀ := X.base) I.ok.mod.kin hk (thn (ha.run pos pins s σ H (fun vs H1 => vs.length = ps.length ∧ spD X.K X.mg m vs H1 Q fun c d h => W c d σ h) I ⟨S, th, G, H0, ρ, w, eo, q.mono (fun ds S1 q1 vs th1 G1 H1 w1 e1 r1 => ?_) fun _ _ _ z => z⟩) fun us s1 ⟨vs, H1, I1, r, hl, q⟩ => ⟨I1.kIn, ?_⟩) he hpl
  · by_cases hz : ds.length = ps.length
    · rw [if_pos hz] at q1
      exact ⟨r1.length.trans hz, S1, th1, G1, ds, w1, r1, q1.mono (fun d S2 q2 v th2 G2 H2 w2 e2 r2 => q2 v th2 G2 H2 w2 (e1.trans e2) r2) fun c p S2 q2 cls dx th2 G2 H2 w2 e2 x2 => q2 cls dx th2 G2 H2 w2 (e1.trans e2) x2⟩
    · rw [if_neg hz] at q1; exact q1.elim
  · exact run_fg F hr hgd hb (passAt tk σ) I1 r hl q⟩
theorem takes_w0 : Takes X W0 := fun _ _ xx => by
  obtain ⟨_, _, _, _, _, _, _, _, _, _, _, _, _, _, _, _, z⟩ := xx
  exact z.elim
end
end FB

/-! isinstance, comprehensions kept in a name, list and tuple of a range, new objects of the store, int. -/
namespace FB
open PySem PySem.Spec PyProof.Rows L2
section
variable {X : Cx} {W : WX} {K : PySem.W.Frag} {S : Store} {th : List Addr} {G H H0 : Hp} {v : V} {d : D} {e a b c : Expr} {m ma mb mc : Envr → M D} {pos p p1 p2 : Pos} {σ : L2.St} {ρ : Envr}
/-! ### isinstance -/
def tyN : D → String
  | .non => "NoneType"
  | .bl _ => "bool"
  | .int _ => "int"
  | .str _ => "str"
  | .tup _ => "tuple"
  | .lst _ => "list"
  | .scr _ => "list"
  | .dic _ => "dict"
  | .obj _ => "object"
/-- what has a type of a built-in kind -/
def D.tyd : D → Bool
  | .dic _ => false
  | .obj _ => false
  | .scr _ => false
  | _ => true
theorem tyX_tup {a : Addr} {xs : List V} (h : SqT K H a xs) : TyX K H (.ref a) (.type "tuple") := by
  rcases h with (h | ⟨o, h⟩) | ⟨o, its, n, h1, h2, _⟩
  · exact .base (.tup h)
  · exact .fTuple h
  · exact .kTuple h1 h2
theorem tyX_of (r : RV K th G H v d) (h : d.tyd = true) : TyX K H v (.type (tyN d)) := by
  cases d with
  | non => cases r; exact .base .non
  | bl b => cases r; exact .base (.bl b)
  | int i => cases r; exact .base (.int i)
  | str x => cases r; exact .base (.str x)
  | tup ds => obtain ⟨a, xs, rfl, h1, _⟩ := r; exact tyX_tup h1
  | lst ds => obtain ⟨a, xs, rfl, h1, _⟩ := r; exact .base (.lst h1)
  | dic _ => cases h
  | obj _ => cases h
  | scr _ => cases h
def gIsi (T : String) (d : D) : Option D := if d.tyd = true then (kitB (tyN d) T).map D.bl else none
theorem d_isi {T : String} {x : Str} (ha : DX X W rS e m) (hg : Gl X "isinstance" := by rfl) (hm : X.mg "isinstance" = none) (hgT : Gl X x := by rfl) (hmT : X.mg x = none) (hv : bootBuiltins x = some (.type T) := by first | rfl | decide +kernel)
    (hn : x ≠ "__name__" := by decide) (hdb : (x == ("__debug__" : Str)) = false := by decide)
    (h1 : starEach [e, .Name x p1] X.env = (false, eval e X.env) :: starEach [.Name x p1] X.env := by rfl) (h1b : starEach [.Name x p1] X.env = (false, eval (.Name x p1) X.env) :: starEach [] X.env := by rfl) (h2 : (backTo pos (starEach [.Name x p1] X.env)).any (·.1) = false := by rfl)
    (hvI : bootBuiltins ("isinstance" : Str) = some (.builtin "isinstance") := by first | rfl | decide +kernel) :
    DX X W rE (.Call (.Name "isinstance" p) [e, .Name x p1] [] pos) (fun ρ => do let d ← m ρ; getO fun S => gIsi T (vw S d)) :=
  PE.weak (pe_callB (x := "isinstance") call_isi hg hm hvI (pa_cons ha (pa_cons (pe_bltn (v := .ty T) hgT hmT hv rfl hn hdb) pa_nil h1b) h1) (by decide) (by decide) h1 h2) fun σ H Q ⟨S, th, G, H0, ρ, w, eo, q⟩ => by
    refine tD.run w eo q fun d S1 v th1 G1 H1 w1 e1 r1 eo1 q1 => ?_
    obtain ⟨z, hz, q2⟩ := getO_wp q1
    unfold gIsi at hz
    by_cases ht : (vw S1 d).tyd = true
    · rw [if_pos ht] at hz
      cases hk : kitB (tyN (vw S1 d)) T with
      | none => rw [hk] at hz; cases hz
      | some r =>
        rw [hk] at hz
        cases hz
        exact ⟨v, .ty T, .type (tyN (vw S1 d)), .type T, r, rfl, .ty T, tyX_of (vw_rep w1 r1) ht, kit_ty hk, q2 _ th1 G1 H1 w1 e1 (.bl r)⟩
    · rw [if_neg ht] at hz; cases hz

/-! ### a fresh thing as data, said of the reading -/
theorem tD_FtoE {Q : VK} (q : tD X W rE m σ H Q) : tD X W rF m σ H Q := by
  obtain ⟨S, th, G, H0, ρ, w, eo, q⟩ := q
  exact ⟨S, th, G, H0, ρ, w, eo, q.mono (fun d S1 q v th1 G1 H1 w1 e1 ⟨a, h1, h2, h3, h4, h5⟩ => by
    subst h1
    obtain ⟨o, ho, hr⟩ := h5.rep h3
    obtain ⟨w2, _⟩ := w1.freeze ho h4 h3
    exact q _ th1 _ H1 w2 (freeze_ext e1 h2 ho h3) hr) fun _ _ _ z => z⟩
theorem tD_FtoK (bb : Bool) {Q : VK} (q : tD X W (rK bb) m σ H Q) : tD X W rF m σ H Q := by
  cases bb with
  | false => exact tD_FtoE q
  | true => exact q

/-! ### y = [.. for ..], y a local name -/
theorem ds_setLc (bb : Bool) {E : XK} {i : Nat} {y : Str} {py : Pos} {elt tg iter : Expr} {ifs : List Expr} {scope : Scope} {own : List (Str × Nat)} {spos : Pos} {it : Envr → M (List D)} {is : List Nat} {bd : Bd} {t : Envr → M Bool} {el : Envr → M D} (hc : X.calm = true) (hN : X.N.Nodup) (hi : DI X (WK E) tg iter it) (ok : BlkOk X.N X.env.scope scope own)
    (hg : ∀ (s : Shared) (H : Hp) (C : Addr) (cl : List (Str × Addr)) (fp : List Addr), DG (X.blk s H scope (compEnvC scope cl C X.env) fp) tg is bd)
    (ht : ∀ (s : Shared) (H : Hp) (C : Addr) (cl : List (Str × Addr)) (fp : List Addr), DTs (X.blk s H scope (compEnvC scope cl C X.env) fp) W0 ifs t)
    (he : ∀ (s : Shared) (H : Hp) (C : Addr) (cl : List (Str × Addr)) (fp : List Addr), DX (X.blk s H scope (compEnvC scope cl C X.env) fp) W0 rE elt el)
    (hy : X.N[i]? = some y := by rfl) (hyl : X.env.scope.names.lookup y = some .local := by rfl) (hsw : swapsWith (.ListComp elt [⟨tg, iter, ifs, 0⟩] scope pos) (some (.Name y py)) spos.line X.env = pure true := by exact sw_true rfl rfl rfl rfl)
    (hsub : ∀ j ∈ is, j ∈ own.map Prod.snd := by decide) (hs : ∀ x, foldedSetIterable iter X.env x = pure x := by intro _; rfl) :
    DS X E (.Assign [.Name y py] (.ListComp elt [⟨tg, iter, ifs, 0⟩] scope pos) spos) (fun ρ => do let d ← eLc it (own.map Prod.snd) bd (lcBody t el) ρ; pure (.nx (ρ.set i (mkS bb d)))) :=
  PS.weak (ps_setLc hc hN hy hyl hsw hi ok (g := tG X is bd) hg (tt := tDT X W0 t) ht (te := tD X W0 rE el) he hs) fun D0 σ H q => lc_items hsub (tD_FtoK bb (show tD X (WK E) (rK bb) _ σ H _ from tAsg_of q))

/-! ### list(range(..)), tuple(range(..)) -/
def rgOk2 (a b : Int) : Bool := rgOk a b && decide ((b - a).toNat ≤ 2 ^ 24)
theorem rgOk2_iff {a b : Int} (h : rgOk2 a b = true) : RgOk a b := by
  unfold rgOk2 at h
  rw [Bool.and_eq_true] at h
  obtain ⟨c1, c2, c3, c4⟩ := rgOk_iff h.1
  exact ⟨c1, c2, c3, c4, of_decide_eq_true h.2⟩
theorem rgD_rep (K : PySem.W.Frag) (th : List Addr) (G : Hp) (a b : Int) : RepL K th G (rgV a b) (rgD a b) := by
  unfold rgV rgD
  generalize (b - a).toNat = n
  have key : ∀ l : List Nat, RepL K th G (l.map fun i => V.int (a + (i : Nat))) (l.map fun i => D.int (a + (i : Nat))) := fun l => by
    induction l with
    | nil => exact .nil
    | cons x l ih => exact .cons (.int _) ih
  exact key _
def rgL (x y : D) : M (List D) := do
  let i ← asI x
  let j ← asI y
  if rgOk2 i j = true then pure (rgD i j) else fail
theorem rgL_wp {d e : D} {Qb : List D → Store → Prop} {E : Str → D → Store → Prop} (h : (rgL d e S).wp Qb E) : ∃ i j, d = .int i ∧ e = .int j ∧ RgOk i j ∧ Qb (rgD i j) S := by
  unfold rgL at h
  rw [wp_bind] at h
  obtain ⟨i, rfl, h1⟩ := asI_wp h
  rw [wp_bind] at h1
  obtain ⟨j, rfl, h2⟩ := asI_wp h1
  by_cases c : rgOk2 i j = true
  · rw [if_pos c] at h2; exact ⟨i, j, rfl, rfl, rgOk2_iff c, h2⟩
  · rw [if_neg c] at h2; exact h2.elim
/-- an expression that makes a range object -/
def PR (X : Cx) (W : WX) (e : Expr) (n : Envr → M (List D)) : Prop := ∃ te, PRg X e te ∧ ∀ (k : Int → Int → Hp → Prop) σ H S th G H0 ρ (Q : Store → List Addr → Hp → Hp → List D → Prop), Wd X.K X.mg S th G H → EnvOk X.K th G H H0 σ ρ →
  (n ρ S).wp (fun ds S1 => ∀ i j th1 G1 H1, ds = rgD i j → RgOk i j → Wd X.K X.mg S1 th1 G1 H1 → Ext th G H th1 G1 H1 → k i j H1) (PostX X (fun c d h => W c d σ h) H th G) → te σ H k
theorem pr_1 (ha : DX X W rE a m) (hg : Gl X "range" := by rfl) (hm : X.mg "range" = none) (na : starEach [a] X.env = (false, eval a X.env) :: starEach [] X.env := by rfl) : PR X W (.Call (.Name "range" p) [a] [] pos) (fun ρ => do let x ← m ρ; rgL (.int 0) x) := by
  refine ⟨_, prg_1 hg hm ha na, fun k σ H S th G H0 ρ _ w eo q => ?_⟩
  refine tD.run w eo q fun d S1 v th1 G1 H1 w1 e1 r1 eo1 q1 => ?_
  obtain ⟨i, j, e0, rfl, c, q2⟩ := rgL_wp q1
  cases e0
  cases r1
  exact ⟨j, rfl, q2 0 j th1 G1 H1 rfl c w1 e1⟩
theorem pr_2 (ha : DX X W rE a ma) (hb : DX X W rE b mb) (hg : Gl X "range" := by rfl) (hm : X.mg "range" = none) (na : starEach [a, b] X.env = (false, eval a X.env) :: starEach [b] X.env := by rfl)
    (nb : starEach [b] X.env = (false, eval b X.env) :: starEach [] X.env := by rfl) (hp : (backTo pos (starEach [b] X.env)).any (·.1) = false := by rfl) : PR X W (.Call (.Name "range" p) [a, b] [] pos) (fun ρ => do let x ← ma ρ; let y ← mb ρ; rgL x y) := by
  refine ⟨_, prg_2 hg hm ha hb na nb hp, fun k σ H S th G H0 ρ _ w eo q => ?_⟩
  refine tD.run w eo q fun d S1 v th1 G1 H1 w1 e1 r1 eo1 q1 => ?_
  refine ⟨S1, th1, G1, H0, ρ, w1, eo1, ?_⟩
  rw [wp_bind] at q1
  refine q1.mono (fun e S2 q2 y th2 G2 H2 w2 e2 r2 => ?_) fun _ _ _ z => z.back e1
  obtain ⟨i, j, rfl, rfl, c, q3⟩ := rgL_wp q2
  cases r1
  cases r2
  exact ⟨i, j, rfl, rfl, q3 i j th2 G2 H2 rfl c w2 (e1.trans e2)⟩
theorem d_listRg {n : Envr → M (List D)} (hc : X.calm = true) (h : PR X W e n) (hg : Gl X "list" := by rfl) (hm : X.mg "list" = none) (na : starEach [e] X.env = (false, eval e X.env) :: starEach [] X.env := by rfl) :
    DX X W rF (.Call (.Name "list" p) [e] [] pos) (fun ρ => do let ds ← n ρ; pure (.lst ds)) := by
  obtain ⟨te, h1, h2⟩ := h
  refine PE.weak (pe_listRg hc hg hm h1 na) fun σ H Q ⟨S, th, G, H0, ρ, w, eo, q⟩ => ?_
  rw [wp_bind] at q
  refine h2 _ σ H S th G H0 ρ (fun _ _ _ _ _ => True) w eo (q.mono (fun ds S1 q1 i j th1 G1 H1 ed c w1 e1 => ⟨c, fun pp hp => ?_⟩) fun _ _ _ z => z)
  subst ed
  obtain ⟨w2, e2⟩ := w1.laidH (o := .lst (rgV i j)) hp
  exact q1 _ th1 _ _ w2 (e1.trans e2) ⟨pp, rfl, e1.back hp, w1.gfree hp, fun z => w1.thDom z hp, _, upd_same, rgD_rep _ _ _ i j⟩
theorem d_tupRg {n : Envr → M (List D)} (hc : X.calm = true) (h : PR X W e n) (hg : Gl X "tuple" := by rfl) (hm : X.mg "tuple" = none) (na : starEach [e] X.env = (false, eval e X.env) :: starEach [] X.env := by rfl) :
    DX X W rE (.Call (.Name "tuple" p) [e] [] pos) (fun ρ => do let ds ← n ρ; pure (.tup ds)) := by
  obtain ⟨te, h1, h2⟩ := h
  refine PE.weak (pe_tupRg hc hg hm h1 na) fun σ H Q ⟨S, th, G, H0, ρ, w, eo, q⟩ => ?_
  rw [wp_bind] at q
  refine h2 _ σ H S th G H0 ρ (fun _ _ _ _ _ => True) w eo (q.mono (fun ds S1 q1 i j th1 G1 H1 ed c w1 e1 => ⟨c, fun pp hp => ?_⟩) fun _ _ _ z => z)
  subst ed
  obtain ⟨w2, e2⟩ := w1.laidG (o := .tup (rgV i j)) hp
  exact q1 _ th1 _ _ w2 (e1.trans e2) (.tup (.inl (.inl upd_same)) (e2.repL (rgD_rep _ _ _ i j)))

/-! ### range with a step -/
def rgU (a c : Int) (n : Nat) : List D := (List.range n).map fun i => D.int (a + (i : Nat) * c)
theorem itok_rangeC (a c : Int) (n : Nat) : ItOk X (Itc a c n) th G (rgU a c n) := fun S1 th1 G1 H1 w ht hG => by
  have hl : (rgU a c n).length = n := by unfold rgU; rw [List.length_map, List.length_range]
  refine ⟨fun i hi => by rw [hl] at hi; exact hi, by rw [hl]; exact Nat.le_refl _, fun i x H' hi hy => ?_⟩
  obtain ⟨rfl, rfl⟩ := hy
  refine ⟨G1, .int (a + i * c), w, Ext.refl, ?_, .int _⟩
  rw [hl] at hi
  unfold rgU
  rw [List.getElem?_map, List.getElem?_range hi]
  rfl
/-- range(a, b, -1) -/
def range3 (x y z : D) : M (List D) := do
  let i ← asI x
  let j ← asI y
  let c ← asI z
  if c = -1 ∧ rgOk i j = true then pure (rgU i (-1) (i - j).toNat) else fail
theorem di_range3 {tg : Expr} {ms : Envr → M (List D)} (ha : DA X W [a, b, c] ms) (hg : Gl X "range" := by rfl) (hm : X.mg "range" = none)
    (hs : starEach [a, b, c] X.env = (false, eval a X.env) :: starEach [b, c] X.env := by rfl) (hpl : (backTo pos (starEach [b, c] X.env)).any (·.1) = false := by rfl) :
    DI X W tg (.Call (.Name "range" p) [a, b, c] [] pos) (fun ρ => do let ds ← ms ρ; match ds with | [x, y, z] => range3 x y z | _ => fail) := PI.weak (pi_range3 hg hm ha hs hpl) fun σ H Q ⟨S, th, G, H0, ρ, w, eo, q⟩ => by
  refine ⟨S, th, G, H0, ρ, w, eo, ?_⟩
  rw [wp_bind] at q
  refine q.mono (fun ds S1 q1 vs th1 G1 H1 w1 e1 r1 => ?_) fun _ _ _ z => z
  match ds, q1 with
  | [], q1 => exact q1.elim
  | [_], q1 => exact q1.elim
  | [_, _], q1 => exact q1.elim
  | _ :: _ :: _ :: _ :: _, q1 => exact q1.elim
  | [x, y, z], q1 =>
    dsimp only at q1
    unfold range3 at q1
    rw [wp_bind] at q1
    obtain ⟨i, rfl, q2⟩ := asI_wp q1
    rw [wp_bind] at q2
    obtain ⟨j, rfl, q3⟩ := asI_wp q2
    rw [wp_bind] at q3
    obtain ⟨k, rfl, q4⟩ := asI_wp q3
    by_cases hk : k = -1 ∧ rgOk i j = true
    · rw [if_pos hk] at q4
      obtain ⟨rfl, hr⟩ := hk
      obtain ⟨c1, c2, c3, c4⟩ := rgOk_iff hr
      cases r1 with
      | cons ra rr => cases rr with
        | cons rb rr => cases rr with
          | cons rc rr =>
            cases rr
            cases ra
            cases rb
            cases rc
            exact ⟨i, j, -1, (i - j).toNat, rfl, RgC.neg c1 c2 c3 c4, q4 _ th1 G1 H1 w1 e1 (itok_rangeC _ _ _)⟩
    · rw [if_neg hk] at q4; exact q4.elim

/-! ### [..] as an object of the store -/
theorem Wd.push (w : Wd X.K X.mg S th G H) {a : Addr} {ds : List D} {xs : List V} (hn : H a = none) (r : RepL X.K th G xs ds) : Wd X.K X.mg (S ++ [.lst ds]) (th ++ [a]) G (upd H a (.lst xs)) ∧ Ext th G H (th ++ [a]) G (upd H a (.lst xs)) := by
  have ga := w.gfree hn
  have nth : a ∉ th := fun z => w.thDom z hn
  have E : Ext th G H (th ++ [a]) G (upd H a (.lst xs)) := ⟨⟨[a], rfl, fun b hb => by rw [List.mem_singleton.mp hb]; exact hn⟩, fun _ _ h => h, fun _ h => .inl h, fun b u h _ => by rw [upd_ne (ne_of_none h hn)]; exact h, fun b h => by
    by_cases hb : b = a
    · rw [hb, upd_same]; simp
    · rw [upd_ne hb]; exact h⟩
  refine ⟨⟨fun b u h => by rw [upd_ne (ne_of_none h ga)]; exact w.sub b u h, by simp [w.len], fun b hb => ?_, ?_, fun n mo b h1 h2 => ?_⟩, E⟩
  · rcases List.mem_append.mp hb with z | z
    · exact w.nog b z
    · rw [List.mem_singleton.mp z]; exact ga
  · rw [List.nodup_append]
    refine ⟨w.nd, by simp, fun x hx y hy => ?_⟩
    rw [List.mem_singleton.mp hy]
    exact fun z => nth (z ▸ hx)
  · by_cases hlt : n < th.length
    · rw [List.getElem?_append_left (by rw [← w.len]; exact hlt)] at h1
      rw [List.getElem?_append_left hlt] at h2
      have hb : b ≠ a := fun z => nth (z ▸ List.mem_of_getElem? h2)
      exact ObjAt.ext E (upd_ne hb) (w.obj n mo b h1 h2)
    · rw [List.getElem?_append_right (by rw [← w.len]; omega)] at h1
      rw [List.getElem?_append_right (by omega)] at h2
      have e0 : n - th.length = 0 := by
        by_cases z : n - th.length = 0
        · exact z
        · rw [List.getElem?_eq_none (by simp; omega)] at h2; cases h2
      rw [← w.len, e0] at h1
      rw [e0] at h2
      cases h1
      cases h2
      exact ⟨xs, upd_same, E.repL r⟩
def newO (ds : List D) : M D := fun S => .ok (.obj S.length) (S ++ [.lst ds])
theorem d_new {es : List Expr} {ms : Envr → M (List D)} (h : DA X W es ms) : DX X W rE (.List es pos) (fun ρ => do
    let ds ← ms ρ
    if ds.length ≤ sizeLine then newO ds else fail) := PE.weak (pe_lst h) fun σ H Q ⟨S, th, G, H0, ρ, w, eo, q⟩ => by
  refine ⟨S, th, G, H0, ρ, w, eo, ?_⟩
  rw [wp_bind] at q
  refine q.mono (fun ds S1 q1 vs th1 G1 H1 w1 e1 r1 => ?_) fun _ _ _ z => z
  by_cases hz : ds.length ≤ sizeLine
  · rw [if_pos hz] at q1
    refine ⟨by rw [r1.length]; exact hz, fun pp hp => ?_⟩
    obtain ⟨w2, e2⟩ := w1.push hp r1
    exact q1 _ (th1 ++ [pp]) G1 _ w2 (e1.trans e2) (.obj (by rw [← w1.len]; exact List.getElem?_concat_length))
  · rw [if_neg hz] at q1; exact q1.elim

/-! ### int(..) -/
def gInt : D → Option D
  | .int i => some (.int i)
  | .bl k => some (.int (if k then 1 else 0))
  | _ => none
theorem c_int : CallD1 X rE (.type "int") gInt := fun pins s σ H xs us Q I r ⟨S, th, G, x, d, z, e, w, rv, hz, q⟩ => call_int1 pins s σ H xs us Q I r (by
  subst e
  cases d <;> try (cases hz; done)
  · cases hz
    cases rv
    exact .inr ⟨_, rfl, q.same w (.int _)⟩
  · cases hz
    cases rv
    exact .inl ⟨_, rfl, q.same w (.int _)⟩)
end
end FB

/-! The law's own call, for the promises of this layer. -/
namespace FB
open PySem PySem.Spec PyProof.Rows L2
section
variable {P : Program} {w : World} {K : PySem.W.Frag} {mg mb : Str → Option Value} {k : Nat} {fa a : Addr} {fd : FuncData} {x : Str} {m : List D → M D} {s1 : Shared} {vs : List Value} {ns : List Int}
/-- what the law's call must do -/
abbrev LawDone (P : Program) (w : World) (fa a : Addr) (s1 : Shared) : Prop := codeAny (model P w) callerA (.call (.ref fa) ⟨[.ref a], []⟩) (fun r s' => r = .ok (.ret (.bool true)) ∧ OldK s1.heap s'.heap ∧ s'.os = s1.os ∧ AllBare s'.gens) s1
/-- nothing stands in the abstract heap but (at most) the script -/
structure Lone (H : Hp) (a : Addr) : Prop where
  one : ∀ b u, H b = some u → b = a ∧ ∃ o xs, u = .frz o (.lst xs)
theorem lone_none {H : Hp} (L : Lone H a) {b : Addr} (h : b ≠ a) : H b = none := by
  cases e : H b with
  | none => rfl
  | some u => exact absurd (L.one b u e).1 h
theorem law_from {H : Hp} (L : Lone H a) (hS : SqL K H a (ns.map V.int)) (hok : HOk P w H s1.heap) (hK : H a ≠ none → K.lookup a = none)
    (KX : K.In s1.heap) (hns : s1.heap.Ns mainGlobals mg) (hb : s1.heap.Ns builtinsNs mb) (hbb : ∀ y : Str, y ≠ "__name__" → mb y = bootBuiltins y) (hlim : s1.heap.NoLimit) (hg : s1.gens = #[])
    (ha : s1.heap.get? a = some { cls := .type "list", data := .seq vs.toArray }) (hr : Room k callerA)
    (F : ∀ base : Heap, K.In base → base.Ns mainGlobals mg → FG P w K mg base k fa fd [x] m) (hbind : ∀ (s : Shared) (u : Value), BindsTo s fd ⟨[u], []⟩ [(x, u)]) (hm : ∃ S, m [.scr ns] [] = .ok (.bl true) S) : LawDone P w fa a s1 := by
  obtain ⟨S9, hm⟩ := hm
  have seen : ∀ {b : Addr} {o : Obj}, s1.heap.get? b = some o → H b = none → (hidT s1.heap H).get? b = some o := fun e n => hidT_get e n
  have plain : ∀ {b : Addr} {y : Str → Option Value}, s1.heap.Ns b y → (hidT s1.heap H).Ns b y := by
    intro b y hN
    obtain ⟨o, es, ep, e, d, r⟩ := hN
    refine ⟨o, es, ep, seen e (lone_none L fun z => ?_), d, r⟩
    subst z
    rw [ha] at e
    cases e
    exact nomatch (show Data.seq vs.toArray _ = Data.dict es ep from d)
  have kb : K.In (hidT s1.heap H) := fun b o e => seen (KX b o e) (by
    by_cases z : b = a
    · subst z
      cases q : H b with
      | none => rfl
      | some u => have z2 := hK (by rw [q]; simp); rw [e] at z2; cases z2
    · exact lone_none L z)
  obtain ⟨mc, l1, l2⟩ := hlim
  have start0 : Env0 P w K mg (hidT s1.heap H) callerA [] s1 H :=
    { frames := rfl, mod := ⟨kb, plain hns, ⟨mb, plain hb, hbb⟩, ⟨mc, plain l1, l2⟩⟩, bs := fun b o e => of_hidT e, bsz := Nat.le_of_eq (hidT_size _ _), funs := trivial, frf := fun b z => absurd z (by simp [frs]), hok := hok, bare := .of_eq hg }
  have wd : Wd K mg [] [] H H := ⟨fun _ _ z => z, rfl, fun b z => absurd z (by simp), List.nodup_nil, fun n mo b z _ => by simp at z⟩
  have sp : spD K mg m [.ref a] H (fun v _ => v = .bl true) (fun _ _ _ => False) := by
    refine ⟨[], [], H, [.scr ns], wd, .cons (.scr hS) .nil, ?_⟩
    rw [hm]
    intro v th' G' H' _ _ r
    cases r
    rfl
  refine codeAny_mono ((F _ kb (plain hns)).run callerA [] s1 H ⟨[.ref a], []⟩ [.ref a] [.ref a] _ _ hr rfl start0 (hbind s1 (.ref a)) (.cons rfl .nil) rfl sp) fun r s' h => ?_
  match r, h with
  | .error e, h => obtain ⟨_, _, _, _, _, _, _, _, _, _, _, _, _, _, _, z⟩ := h
  | .ok .next, h => exact (show False from h).elim
  | .ok .brk, h => exact (show False from h).elim
  | .ok .cont, h => exact (show False from h).elim
  | .ok (.ret u), h =>
    obtain ⟨v, H', os, bare, un, hok', r', q⟩ := h
    obtain rfl : v = .bl true := q
    obtain rfl : u = Value.bool true := r'
    refine ⟨rfl, OldK.of_keep fun b o e => ?_, os, bare⟩
    cases q : H b with
    | none => exact un.keep b o e q (by simp [frs]) (by simp)
    | some u =>
      obtain ⟨_, ob, xs, rfl⟩ := L.one b u q
      have t1 := (hok b _ q).1
      have t2 := (hok' b _ (un.frzs b ob _ q)).1
      rw [e] at t1
      cases t1
      exact t2
theorem law_callG (KX : K.In s1.heap) (hns : s1.heap.Ns mainGlobals mg) (hb : s1.heap.Ns builtinsNs mb) (hbb : ∀ y : Str, y ≠ "__name__" → mb y = bootBuiltins y) (hlim : s1.heap.NoLimit) (hg : s1.gens = #[])
    (ha : s1.heap.get? a = some { cls := .type "list", data := .seq vs.toArray }) (hi : IntsAre vs ns) (hl : ns.length ≤ sizeLine) (hr : Room k callerA)
    (F : ∀ base : Heap, K.In base → base.Ns mainGlobals mg → FG P w K mg base k fa fd [x] m) (hbind : ∀ (s : Shared) (u : Value), BindsTo s fd ⟨[u], []⟩ [(x, u)]) (hm : ∃ S, m [.scr ns] [] = .ok (.bl true) S) : LawDone P w fa a s1 := by
  have rv := vals_ints hi
  by_cases hk : K.lookup a = none
  · generalize hH : (fun b => if b = a then some (HO.frz { cls := .type "list", data := .seq vs.toArray } (.lst (ns.map V.int))) else none : Hp) = H
    have hat : H a = some (.frz { cls := .type "list", data := .seq vs.toArray } (.lst (ns.map V.int))) := by rw [← hH]; exact if_pos rfl
    have hno : ∀ b, b ≠ a → H b = none := fun b z => by rw [← hH]; exact if_neg z
    refine law_from (H := H) ⟨fun b u z => ?_⟩ (.inl (.inr ⟨_, hat⟩)) (fun b u z => ?_) (fun _ => hk) KX hns hb hbb hlim hg ha hr F hbind hm
    · by_cases e : b = a
      · subst e
        rw [hat] at z
        cases z
        exact ⟨rfl, _, _, rfl⟩
      · rw [hno b e] at z; cases z
    · by_cases e : b = a
      · subst e
        rw [hat] at z
        cases z
        exact ⟨ha, by rw [List.length_map]; exact hl, vs, _, rv, ha⟩
      · rw [hno b e] at z; cases z
  · cases hk2 : K.lookup a with
    | none => exact absurd hk2 hk
    | some o =>
      have e := KX a o hk2
      rw [ha] at e
      cases e
      refine law_from (H := fun _ => none) ⟨fun b u z => by cases z⟩ (.inr ⟨_, vs.toArray, _, hk2, rfl, rfl, rfl, ?_, by simpa using rv⟩) (fun b u z => by cases z) (fun z => absurd rfl z) KX hns hb hbb hlim hg ha hr F hbind hm
      rw [List.size_toArray, hi.length]
      exact hl
/-- the goal behind the head -/
theorem walk_ofG {l : PySem.W.OpenLaw} {n k : Nat} {q : Program} {loose : List Str} {XP : (Str → Option Value) → Heap → Prop} {YP : World → Heap → Prop} {d : DefRec} {K : Params → PySem.W.Frag} {m : List D → M D} {x : Str}
    (hn : l.most = some n) (hn2 : n ≤ sizeLine) (hdf : d.params.defaults = []) (hr : Room k callerA)
    (hY : ∀ (w : World) (h : Heap), YP w h → (K w.params).In h)
    (F : ∀ (w : World) (mg : Str → Option Value) (fa : Addr) (h : Heap), (K w.params).In h → h.Ns mainGlobals mg → mg d.name = some (.ref fa) →
      ∃ fd : FuncData, (∀ (s : Shared) (u : Value), BindsTo s fd ⟨[u], []⟩ [(x, u)]) ∧
        ∀ base : Heap, (K w.params).In base → base.Ns mainGlobals mg → FG l.prog w (K w.params) mg base k fa fd [x] m)
    (hm : ∀ ns : List Int, ns.length ≤ n → ∃ S, m [.scr ns] [] = .ok (.bl true) S) :
    PySem.W.WalkO q loose XP YP l.row.toRowW d [] (fun f vs => PySem.call f vs) := by
  refine Att.attach_call hn hdf fun w s₀ s1 mg mb fa o pm cd doc a vs ns G Y ho hd hcd hmg hobj hints hlen hg => ?_
  obtain ⟨fd, hb, hF⟩ := F w mg fa _ (hY w _ Y) G.T.g hmg
  exact law_callG (hY w _ Y) G.T.g G.T.b G.T.builtins G.T.nolimit hg hobj hints (Nat.le_trans hlen hn2) hr hF hb (hm ns hlen)
end
end FB

/-! The words of a mirror, and each rule said in them. -/
namespace FB
open PySem PySem.Spec PyProof.Rows L2
/-! ### the words -/
def eF1 (g : D → Option D) (a : Envr → M D) : Envr → M D := fun ρ => do
  let x ← a ρ
  getO fun S => g (vw S x)
def eF2 (g : D → D → Option D) (a b : Envr → M D) : Envr → M D := fun ρ => do
  let x ← a ρ
  let y ← b ρ
  getO fun S => g (vw S x) (vw S y)
def eTup (ms : Envr → M (List D)) : Envr → M D := fun ρ => do
  let ds ← ms ρ
  if ds.length ≤ sizeLine then pure (.tup ds) else fail
def eLst (ms : Envr → M (List D)) : Envr → M D := fun ρ => do
  let ds ← ms ρ
  if ds.length ≤ sizeLine then pure (.lst ds) else fail
def eNew (ms : Envr → M (List D)) : Envr → M D := fun ρ => do
  let ds ← ms ρ
  if ds.length ≤ sizeLine then newO ds else fail
def eAnd (a b : Envr → M D) : Envr → M D := fun ρ => do
  let x ← a ρ
  let t ← asB x
  if t then b ρ else pure (.bl false)
def eOr (a b : Envr → M D) : Envr → M D := fun ρ => do
  let x ← a ρ
  let t ← asB x
  if t then pure (.bl true) else b ρ
def eNot (a : Envr → M D) : Envr → M D := fun ρ => do
  let x ← a ρ
  let t ← asB x
  pure (.bl (!t))
def eChn (g g' : D → D → Option D) (a b c : Envr → M D) : Envr → M D := fun ρ => do
  let x ← a ρ
  let y ← b ρ
  let z ← getO fun S => onV g S x y
  let t ← asB z
  if t then (do let u ← c ρ; getO fun S => onV g' S y u) else pure (.bl false)
def eIf (t : Envr → M Bool) (a b : Envr → M D) : Envr → M D := fun ρ => do
  let x ← t ρ
  if x then a ρ else b ρ
def oN : Envr → M (Option Int) := fun _ => pure none
def oS (m : Envr → M D) : Envr → M (Option Int) := fun ρ => do
  let x ← m ρ
  let i ← asI x
  pure (some i)
def eSl (g : D → Option Int → Option Int → Option D) (a : Envr → M D) (l h : Envr → M (Option Int)) : Envr → M D := fun ρ => do
  let x ← a ρ
  let l ← l ρ
  let u ← h ρ
  getO fun S => g (vw S x) l u
def tV (m : Envr → M D) : Envr → M Bool := fun ρ => do
  let x ← m ρ
  asB x
def tNot (t : Envr → M Bool) : Envr → M Bool := fun ρ => do
  let x ← t ρ
  pure (!x)
def tAnd (t u : Envr → M Bool) : Envr → M Bool := fun ρ => do
  let x ← t ρ
  if x then u ρ else pure false
def tOr (t u : Envr → M Bool) : Envr → M Bool := fun ρ => do
  let x ← t ρ
  if x then pure true else u ρ
def tTrue : Envr → M Bool := fun _ => pure true
def iSeq (m : Envr → M D) : Envr → M (List D) := fun ρ => do
  let x ← m ρ
  itemsD x
def iR1 (m : Envr → M D) : Envr → M (List D) := fun ρ => do
  let x ← m ρ
  range1 x
def iR2 (a b : Envr → M D) : Envr → M (List D) := fun ρ => do
  let x ← a ρ
  let y ← b ρ
  range2 x y
def iR3 (ms : Envr → M (List D)) : Envr → M (List D) := fun ρ => do
  let ds ← ms ρ
  match ds with
  | [x, y, z] => range3 x y z
  | _ => fail
def rR1 (m : Envr → M D) : Envr → M (List D) := fun ρ => do
  let x ← m ρ
  rgL (.int 0) x
def rR2 (a b : Envr → M D) : Envr → M (List D) := fun ρ => do
  let x ← a ρ
  let y ← b ρ
  rgL x y
def eLstR (n : Envr → M (List D)) : Envr → M D := fun ρ => do
  let ds ← n ρ
  pure (.lst ds)
def eTupR (n : Envr → M (List D)) : Envr → M D := fun ρ => do
  let ds ← n ρ
  pure (.tup ds)
def sRetN : Envr → M Out := fun _ => pure (.rt .non)
def sBrk : Envr → M Out := fun ρ => pure (.bk ρ)
def sRaise (c : Str) : Envr → M Out := fun _ => throwM c .non
/-- a comprehension's block, checked -/
def blkB (N : List Str) (sc scope : Scope) (own : List (Str × Nat)) : Bool :=
  scope.kind == .function && (scope.names.all fun y => scope.names.lookup y.1 == some y.2) && (own.all fun p => N[p.2]? == some p.1) &&
  (scope.names.all fun y => !(y.2 == .free) || (sc.names.lookup y.1 == some .cell || sc.names.lookup y.1 == some .free)) &&
  (scope.names.all fun y => !(y.2 == .local || y.2 == .cell) || ((own.map (·.1)).contains y.1 || !N.contains y.1))
theorem blk_of {N : List Str} {sc scope : Scope} {own : List (Str × Nat)} (h : blkB N sc scope own = true) : BlkOk N sc scope own := by
  unfold blkB at h
  simp only [Bool.and_eq_true, List.all_eq_true, beq_iff_eq, Bool.or_eq_true, Bool.not_eq_true', beq_eq_false_iff_ne, List.contains_eq_mem, decide_eq_true_eq, decide_eq_false_iff_not] at h
  obtain ⟨⟨⟨⟨h1, h2⟩, h3⟩, h4⟩, h5⟩ := h
  refine ⟨h1, h2, h3, fun y hy e => ?_, fun y hy e => ?_⟩
  · rcases h4 y hy with z | z
    · exact absurd e z
    · exact z
  · rcases h5 y hy with z | z | z
    · exfalso
      simp only [Bool.or_eq_false_iff, beq_eq_false_iff_ne] at z
      exact e.elim z.1 z.2
    · exact .inl z
    · exact .inr z
section
variable {X : Cx} {W : WX} {R : RK} {E : XK} {e a b c tg iter elt : Expr} {es rest : List Expr} {ma mb mc : Envr → M D} {ms ns : Envr → M (List D)} {t u : Envr → M Bool} {g g' : D → D → Option D} {g1 : D → Option D} {pos p p1 p2 : Pos} {x : Str}
theorem x_op {op : Operator} (ho : OpD X rE (binaryOp op) (onV g)) (ha : DX X W rS a ma) (hb : DX X W rS b mb) : DX X W rE (.BinOp a op b pos) (eF2 g ma mb) := d_bin rE.bk ho ha hb
theorem x_opL {op : Operator} (ho : OpD X rF (binaryOp op) (onV g)) (ha : DX X W rS a ma) (hb : DX X W rS b mb) : DX X W rF (.BinOp a op b pos) (eF2 g ma mb) := d_bin rF.bk ho ha hb
theorem x_cmp {op : CmpOp} (ho : OpD X rE (compareOp op) (onV g)) (ha : DX X W rS a ma) (hb : DX X W rS b mb) (hm : behindInMarks op b = false := by first | exact nomark _ | with_unfolding_all rfl) : DX X W rE (.Compare a [op] [b] pos) (eF2 g ma mb) := d_cmp rE.bk ho ha hb hm
theorem x_un {op : UnaryOp} (ho : UnD X rE (unaryOp op) g1) (ha : DX X W rS a ma) : DX X W rE (.UnaryOp op a pos) (eF1 g1 ma) := d_un rE.bk ho ha
theorem x_and (ha : DX X W rE a ma) (hb : DX X W rE (.BoolOp .And (b :: rest) pos) mb) : DX X W rE (.BoolOp .And (a :: b :: rest) pos) (eAnd ma mb) := d_and ha hb
theorem x_or (ha : DX X W rE a ma) (hb : DX X W rE (.BoolOp .Or (b :: rest) pos) mb) : DX X W rE (.BoolOp .Or (a :: b :: rest) pos) (eOr ma mb) := d_or ha hb
theorem x_one {op} (h : DX X W rE a ma) : DX X W rE (.BoolOp op [a] pos) ma := d_one h
theorem x_not (ha : DX X W rE a ma) : DX X W rE (.UnaryOp .Not a pos) (eNot ma) := d_not ha
theorem x_chn {op op' : CmpOp} (ho : OpD X rE (compareOp op) (onV g)) (ho' : OpD X rE (compareOp op') (onV g')) (ha : DX X W rS a ma) (hb : DX X W rS b mb) (hc : DX X W rS c mc) (hm : lastMarks [op, op'] [b, c] = false := by with_unfolding_all rfl) : DX X W rE (.Compare a [op, op'] [b, c] pos) (eChn g g' ma mb mc) := d_chain ho ho' ha hb hc hm
theorem x_if (hc : DT X W c t) (ha : DX X W rE a ma) (hb : DX X W rE b mb) : DX X W rE (.IfExp c a b pos) (eIf t ma mb) := d_if rE.bk hc ha hb
theorem x_ifL (hc : DT X W c t) (ha : DX X W rF a ma) (hb : DX X W rF b mb) : DX X W rF (.IfExp c a b pos) (eIf t ma mb) := d_if rF.bk hc ha hb
theorem x_ix (ha : DX X W rS a ma) (hb : DX X W rS b mb) (hs : PlainIx b := by intro _ _; rfl) : DX X W rE (.Subscript a b pos) (eF2 gIx ma mb) := d_ix ha hb hs
theorem x_on : DO X W none oN := do_none
theorem x_os (h : DX X W rE e ma) : DO X W (some e) (oS ma) := do_some h
theorem x_sl {ml mh : Envr → M (Option Int)} {lo hi : Option Expr} (ha : DX X W rS a ma) (hl : DO X W lo ml) (hu : DO X W hi mh) : DX X W rE (.Subscript a (.Slice lo hi none p2) pos) (eSl gSl ma ml mh) := d_slice ha hl hu
theorem x_slL {ml mh : Envr → M (Option Int)} {lo hi : Option Expr} (ha : DX X W rS a ma) (hl : DO X W lo ml) (hu : DO X W hi mh) : DX X W rF (.Subscript a (.Slice lo hi none p2) pos) (eSl gSlL ma ml mh) := d_sliceL ha hl hu
theorem x_tup {x1} (h : DA X W es ms) : DX X W rE (.Tuple es x1 pos) (eTup ms) := d_tup h
theorem x_lst (h : DA X W es ms) : DX X W rF (.List es pos) (eLst ms) := d_lst h
theorem x_new (h : DA X W es ms) : DX X W rE (.List es pos) (eNew ms) := d_new h
theorem x_b1 {id : String} (hc : CallD1 X rE (.builtin id) g1) (hm : X.mg x = none) (ha : DX X W rS a ma) (hg : Gl X x := by rfl) (hv : bootBuiltins x = some (.builtin id) := by first | rfl | kernel_rfl) (hn : x ≠ "__name__" := by decide) (hdb : (x == ("__debug__" : Str)) = false := by decide)
    (h1 : starEach [a] X.env = (false, eval a X.env) :: starEach [] X.env := by rfl) (h2 : (backTo pos (starEach [] X.env)).any (·.1) = false := by rfl) : DX X W rE (.Call (.Name x p) [a] [] pos) (eF1 g1 ma) := d_callB1 rE.bk hc ha hg hm hv hn hdb h1 h2
theorem x_t1 {T : String} (hR : RK.Back R) (hc : CallD1 X R (.type T) g1) (hm : X.mg x = none) (ha : DX X W rS a ma) (hg : Gl X x := by rfl) (hv : bootBuiltins x = some (.type T) := by first | rfl | kernel_rfl) (hn : x ≠ "__name__" := by decide) (hdb : (x == ("__debug__" : Str)) = false := by decide)
    (h1 : starEach [a] X.env = (false, eval a X.env) :: starEach [] X.env := by rfl) (h2 : (backTo pos (starEach [] X.env)).any (·.1) = false := by rfl) : DX X W R (.Call (.Name x p) [a] [] pos) (eF1 g1 ma) := d_callT1 hR hc ha hg hm hv hn hdb h1 h2
theorem x_b2 {id : String} (hc : CallD2 X rE (.builtin id) g) (hm : X.mg x = none) (ha : DX X W rS a ma) (hb : DX X W rS b mb) (hg : Gl X x := by rfl) (hv : bootBuiltins x = some (.builtin id) := by first | rfl | kernel_rfl) (hn : x ≠ "__name__" := by decide) (hdb : (x == ("__debug__" : Str)) = false := by decide)
    (h1 : starEach [a, b] X.env = (false, eval a X.env) :: starEach [b] X.env := by rfl) (h1b : starEach [b] X.env = (false, eval b X.env) :: starEach [] X.env := by rfl) (h2 : (backTo pos (starEach [b] X.env)).any (·.1) = false := by rfl) :
    DX X W rE (.Call (.Name x p) [a, b] [] pos) (eF2 g ma mb) := d_callB2 rE.bk hc ha hb hg hm hv hn hdb h1 h1b h2
theorem x_isi {T : String} (ha : DX X W rS e ma) (hm : X.mg "isinstance" = none) (hmT : X.mg x = none) (hg : Gl X "isinstance" := by rfl) (hgT : Gl X x := by rfl) (hv : bootBuiltins x = some (.type T) := by first | rfl | kernel_rfl)
    (hn : x ≠ "__name__" := by decide) (hdb : (x == ("__debug__" : Str)) = false := by decide)
    (h1 : starEach [e, .Name x p1] X.env = (false, eval e X.env) :: starEach [.Name x p1] X.env := by rfl) (h1b : starEach [.Name x p1] X.env = (false, eval (.Name x p1) X.env) :: starEach [] X.env := by rfl) (h2 : (backTo pos (starEach [.Name x p1] X.env)).any (·.1) = false := by rfl)
    (hvI : bootBuiltins ("isinstance" : Str) = some (.builtin "isinstance") := by first | rfl | kernel_rfl) : DX X W rE (.Call (.Name "isinstance" p) [e, .Name x p1] [] pos) (eF1 (gIsi T) ma) := d_isi ha hg hm hgT hmT hv hn hdb h1 h1b h2 hvI
theorem t_val (h : DX X W rE e ma) (he : ∀ whole, isTrue e X.env whole = (do let v ← whole; standAt e.pos; holding [v] (truthy v)) := by intro _; rfl) : DT X W e (tV ma) := dt_val h he
theorem t_cmp {op : CmpOp} (ho : OpD X rE (compareOp op) (onV g)) (ha : DX X W rS a ma) (hb : DX X W rS b mb) (hm : behindInMarks op b = false := by first | exact nomark _ | with_unfolding_all rfl) : DT X W (.Compare a [op] [b] pos) (tV (eF2 g ma mb)) := dt_cmp ho ha hb hm
theorem t_chn {op op' : CmpOp} (ho : OpD X rE (compareOp op) (onV g)) (ho' : OpD X rE (compareOp op') (onV g')) (ha : DX X W rS a ma) (hb : DX X W rS b mb) (hc : DX X W rS c mc) (hm : lastMarks [op, op'] [b, c] = false := by with_unfolding_all rfl) : DT X W (.Compare a [op, op'] [b, c] pos) (tV (eChn g g' ma mb mc)) := dt_chain ho ho' ha hb hc hm
theorem t_not (h : DT X W a t) : DT X W (.UnaryOp .Not a pos) (tNot t) := dt_not h
theorem w_and1 (h : DT X W a t) : DW X W (.BoolOp .And [a] pos) t := dw_and1 h
theorem w_or1 (h : DT X W a t) : DW X W (.BoolOp .Or [a] pos) t := dw_or1 h
theorem w_and (h : DT X W a t) (hb : DW X W (.BoolOp .And (b :: rest) pos) u) : DW X W (.BoolOp .And (a :: b :: rest) pos) (tAnd t u) := dw_and h hb
theorem w_or (h : DT X W a t) (hb : DW X W (.BoolOp .Or (b :: rest) pos) u) : DW X W (.BoolOp .Or (a :: b :: rest) pos) (tOr t u) := dw_or h hb
theorem t_w (h : DW X W a t) : DT X W a t := dt_w h
theorem i_seq (h : DX X W rE e ma) : DI X W tg e (iSeq ma) := di_seq h
theorem i_r1 (ha : DX X W rE a ma) (hm : X.mg "range" = none) (hg : Gl X "range" := by rfl) (hs : starEach [a] X.env = [(false, eval a X.env)] := by rfl) (hs1 : starEach [a] X.env = (false, eval a X.env) :: starEach [] X.env := by rfl) : DI X W tg (.Call (.Name "range" p) [a] [] pos) (iR1 ma) := di_range1 ha hg hm hs hs1
theorem i_r2 (ha : DX X W rE a ma) (hb : DX X W rE b mb) (hm : X.mg "range" = none) (hg : Gl X "range" := by rfl) (hs : starEach [a, b] X.env = [(false, eval a X.env), (false, eval b X.env)] := by rfl) (hs2 : starEach [b] X.env = [(false, eval b X.env)] := by rfl)
    (hs3 : starEach [a, b] X.env = (false, eval a X.env) :: starEach [b] X.env := by rfl) (hs4 : starEach [b] X.env = (false, eval b X.env) :: starEach [] X.env := by rfl) : DI X W tg (.Call (.Name "range" p) [a, b] [] pos) (iR2 ma mb) := di_range2 ha hb hg hm hs hs2 hs3 hs4
theorem i_r3 (ha : DA X W [a, b, c] ms) (hm : X.mg "range" = none) (hg : Gl X "range" := by rfl) (hs : starEach [a, b, c] X.env = (false, eval a X.env) :: starEach [b, c] X.env := by rfl) (hpl : (backTo pos (starEach [b, c] X.env)).any (·.1) = false := by rfl) : DI X W tg (.Call (.Name "range" p) [a, b, c] [] pos) (iR3 ms) := di_range3 ha hg hm hs hpl
theorem r_1 (ha : DX X W rE a ma) (hm : X.mg "range" = none) (hg : Gl X "range" := by rfl) (na : starEach [a] X.env = (false, eval a X.env) :: starEach [] X.env := by rfl) : PR X W (.Call (.Name "range" p) [a] [] pos) (rR1 ma) := pr_1 ha hg hm na
theorem r_2 (ha : DX X W rE a ma) (hb : DX X W rE b mb) (hm : X.mg "range" = none) (hg : Gl X "range" := by rfl) (na : starEach [a, b] X.env = (false, eval a X.env) :: starEach [b] X.env := by rfl)
    (nb : starEach [b] X.env = (false, eval b X.env) :: starEach [] X.env := by rfl) (hp : (backTo pos (starEach [b] X.env)).any (·.1) = false := by rfl) : PR X W (.Call (.Name "range" p) [a, b] [] pos) (rR2 ma mb) := pr_2 ha hb hg hm na nb hp
theorem x_listRg (hc : X.calm = true) (hm : X.mg "list" = none) (h : PR X W e ns) (hg : Gl X "list" := by rfl) (na : starEach [e] X.env = (false, eval e X.env) :: starEach [] X.env := by rfl) : DX X W rF (.Call (.Name "list" p) [e] [] pos) (eLstR ns) := d_listRg hc h hg hm na
theorem x_tupRg (hc : X.calm = true) (hm : X.mg "tuple" = none) (h : PR X W e ns) (hg : Gl X "tuple" := by rfl) (na : starEach [e] X.env = (false, eval e X.env) :: starEach [] X.env := by rfl) : DX X W rE (.Call (.Name "tuple" p) [e] [] pos) (eTupR ns) := d_tupRg hc h hg hm na
theorem s_retN : DS X E (.Return none pos) sRetN := ds_retN
theorem s_brk : DS X E (.Break pos) sBrk := ds_break
theorem ts_nil : DTs X W [] tTrue := dts_nil
end
end FB

/-! Words for what is walked and for comprehensions; calls. -/
namespace FB
open PySem PySem.Spec PyProof.Rows L2
def iEn (m : Envr → M D) : Envr → M (List D) := fun ρ => do
  let x ← m ρ
  let ds ← itemsD x
  pure (enumD 0 ds)
def iZ2 (a b : Envr → M D) : Envr → M (List D) := fun ρ => do
  let x ← a ρ
  let y ← b ρ
  let xs ← itemsD x
  let ys ← itemsD y
  pure (zipD xs ys)
def iZ3 (a b c : Envr → M D) : Envr → M (List D) := fun ρ => do
  let x ← a ρ
  let y ← b ρ
  let z ← c ρ
  let xs ← itemsD x
  let ys ← itemsD y
  let zs ← itemsD z
  pure (zip3D xs ys zs)
def cB (t : Envr → M Bool) (m : Envr → M (List D)) : Envr → M (List D) := fun ρ => do
  let ok ← t ρ
  if ok then m ρ else pure []
def cE (el : Envr → M D) : Envr → M (List D) := fun ρ => do
  let y ← el ρ
  pure [y]
def cN (it : Envr → M (List D)) (b : Bd) (body : Envr → M (List D)) : Envr → M (List D) := fun ρ => do
  let ds ← it ρ
  forC b body ds ρ
section
variable {X : Cx} {W : WX} {R : RK} {E : XK} {e a b c tg iter elt : Expr} {es rest : List Expr} {ma mb mc el : Envr → M D} {ms ns it : Envr → M (List D)} {t u : Envr → M Bool} {pos p p1 p2 cpos tpos : Pos} {x y : Str} {elts ifs : List Expr} {kk i : Nat} {scope : Scope} {own : List (Str × Nat)} {is : List Nat} {bd : Bd}
theorem i_en (ha : DX X W rE e ma) (hm : X.mg "enumerate" = none) (hg : Gl X "enumerate" := by rfl) (hs : starEach [e] X.env = [(false, eval e X.env)] := by rfl) (hs1 : starEach [e] X.env = (false, eval e X.env) :: starEach [] X.env := by rfl) :
    DI X W (.Tuple elts kk tpos) (.Call (.Name "enumerate" p) [e] [] pos) (iEn ma) := di_enum ha hg hm hs hs1
theorem i_z2 (ha : DX X W rE a ma) (hb : DX X W rE b mb) (hm : X.mg "zip" = none) (hg : Gl X "zip" := by rfl)
    (hs : starEach [a, b] X.env = (false, eval a X.env) :: starEach [b] X.env := by rfl) (hs1 : starEach [b] X.env = (false, eval b X.env) :: starEach [] X.env := by rfl) (hpl : (backTo pos (starEach [b] X.env)).any (·.1) = false := by rfl) :
    DI X W (.Tuple elts kk tpos) (.Call (.Name "zip" p) [a, b] [] pos) (iZ2 ma mb) := di_zip2 ha hb hg hm hs hs1 hpl
theorem i_z3 (ha : DX X W rE a ma) (hb : DX X W rE b mb) (hcc : DX X W rE c mc) (hm : X.mg "zip" = none) (hg : Gl X "zip" := by rfl)
    (hs : starEach [a, b, c] X.env = (false, eval a X.env) :: starEach [b, c] X.env := by rfl) (hs1 : starEach [b, c] X.env = (false, eval b X.env) :: starEach [c] X.env := by rfl) (hs2 : starEach [c] X.env = (false, eval c X.env) :: starEach [] X.env := by rfl) (hpl : (backTo pos (starEach [b, c] X.env)).any (·.1) = false := by rfl) :
    DI X W (.Tuple elts kk tpos) (.Call (.Name "zip" p) [a, b, c] [] pos) (iZ3 ma mb mc) := di_zip3 ha hb hcc hg hm hs hs1 hs2 hpl
theorem x_lc (own : List (Str × Nat)) (hc : X.calm = true) (hN : X.N.Nodup) (hi : DI X W tg iter it) 
    (hg : ∀ (s : Shared) (H : Hp) (C : Addr) (cl : List (Str × Addr)) (fp : List Addr), DG (X.blk s H scope (compEnvC scope cl C X.env) fp) tg is bd)
    (ht : ∀ (s : Shared) (H : Hp) (C : Addr) (cl : List (Str × Addr)) (fp : List Addr), DTs (X.blk s H scope (compEnvC scope cl C X.env) fp) W0 ifs t)
    (he : ∀ (s : Shared) (H : Hp) (C : Addr) (cl : List (Str × Addr)) (fp : List Addr), DX (X.blk s H scope (compEnvC scope cl C X.env) fp) W0 rE elt el)
    (ok : blkB X.N X.env.scope scope own = true := by kernel_rfl)
    (hsub : ∀ j ∈ is, j ∈ own.map Prod.snd := by decide) (hs : ∀ x, foldedSetIterable iter X.env x = pure x := by intro _; rfl) :
    DX X W rF (.ListComp elt [⟨tg, iter, ifs, 0⟩] scope pos) (eLc it (own.map Prod.snd) bd (lcBody t el)) := d_lc hc hN hi (blk_of ok) hg ht he hsub hs
theorem s_lc (bb : Bool) (own : List (Str × Nat)) {py spos : Pos} (hc : X.calm = true) (hN : X.N.Nodup) (hi : DI X (WK E) tg iter it)
    (hg : ∀ (s : Shared) (H : Hp) (C : Addr) (cl : List (Str × Addr)) (fp : List Addr), DG (X.blk s H scope (compEnvC scope cl C X.env) fp) tg is bd)
    (ht : ∀ (s : Shared) (H : Hp) (C : Addr) (cl : List (Str × Addr)) (fp : List Addr), DTs (X.blk s H scope (compEnvC scope cl C X.env) fp) W0 ifs t)
    (he : ∀ (s : Shared) (H : Hp) (C : Addr) (cl : List (Str × Addr)) (fp : List Addr), DX (X.blk s H scope (compEnvC scope cl C X.env) fp) W0 rE elt el)
    (ok : blkB X.N X.env.scope scope own = true := by kernel_rfl)
    (hy : X.N[i]? = some y := by rfl) (hyl : X.env.scope.names.lookup y = some .local := by rfl) (hsw : swapsWith (.ListComp elt [⟨tg, iter, ifs, 0⟩] scope pos) (some (.Name y py)) spos.line X.env = pure true := by exact sw_true rfl rfl rfl rfl)
    (hsub : ∀ j ∈ is, j ∈ own.map Prod.snd := by decide) (hs : ∀ x, foldedSetIterable iter X.env x = pure x := by intro _; rfl) :
    DS X E (.Assign [.Name y py] (.ListComp elt [⟨tg, iter, ifs, 0⟩] scope pos) spos) (if bb then sSetO i (eLc it (own.map Prod.snd) bd (lcBody t el)) else sSet i (eLc it (own.map Prod.snd) bd (lcBody t el))) := by
  have h := ds_setLc (i := i) (y := y) (py := py) (pos := pos) (spos := spos) bb hc hN hi (blk_of ok) hg ht he hy hyl hsw hsub hs
  cases bb <;> exact h
/-! several clauses -/
section
variable {tg1 iter1 : Expr} {ifs1 : List Expr} {gens : List Comprehension} {k : Nat} {it acc : Value} {env : Env}
theorem compTurn_next (h0 : gens[k]? = some ⟨tg, iter, ifs, 0⟩) (h1 : gens[k + 1]? = some ⟨tg1, iter1, ifs1, 0⟩) : compTurn (.ListComp elt gens scope cpos) k it acc env = (do
      standAt iter.pos
      match ← pyNext it with
      | none => pure (.done .next)
      | some v =>
        letOwnedTupleGo tg it v
        assign tg env v
        let mut ok := true
        for c in ifs do
          if ok then ok ← isTrue c env (eval c env)
        if ok then (do
          let x ← eval iter1 env
          standAt iter1.pos
          let x ← foldedSetIterable iter1 env x
          let _ ← runOwn (.compStart (.ListComp elt gens scope cpos) (k + 1) (← holding [x] (pyIter x)) acc env) env)
        again (.compLoop (.ListComp elt gens scope cpos) k it acc env)) := by
  unfold compTurn
  simp only [h0, h1, bind_assoc]
  rfl
end
section
variable {gens : List Comprehension} {k : Nat} {vs vs' : List Nat} {p0 : Pos}
theorem l_last (hc : X.calm = true) (hx : ∀ u s, X.xe u s → False) (hg : DG X tg is bd) (htm : bd.Tame) (hts : DTs X W0 ifs t) (he : DX X W0 rE elt el)
    (ht : ∀ it Dd : Addr, compTurn (.ListComp elt gens scope cpos) k (.ref it) (.ref Dd) X.env = (do
      standAt p0
      match ← pyNext (.ref it) with
      | none => pure (.done .next)
      | some v =>
        letOwnedTupleGo tg (.ref it) v
        assign tg X.env v
        let mut ok := true
        for c in ifs do
          if ok then ok ← isTrue c X.env (eval c X.env)
        if ok then (do let _ ← call (.builtin "list.append") [.ref Dd, ← eval elt X.env])
        again (.compLoop (.ListComp elt gens scope cpos) k (.ref it) (.ref Dd) X.env)) := by intro _ _; rfl)
    (hsub : ∀ j, j ∈ is → j ∈ vs := by decide) : LoopOk X (.ListComp elt gens scope cpos) k tg vs bd (cB t (cE el)) :=
  loop_ok (BODY := fun Dd => do let _ ← call (.builtin "list.append") [.ref Dd, ← eval elt X.env]) (vs' := []) hc hx ht hg htm hts (body_elt hx he) hsub (fun j hj => nomatch hj)
theorem l_next {tg1 iter1 : Expr} {ifs1 : List Expr} {it1 : Envr → M (List D)} {b1 : Bd} {body1 : Envr → M (List D)} (vs1 : List Nat) (hk0 : gens[k]? = some ⟨tg, iter, ifs, 0⟩) (hk : gens[k + 1]? = some ⟨tg1, iter1, ifs1, 0⟩) (hc : X.calm = true) (hx : ∀ u s, X.xe u s → False) (hg : DG X tg is bd) (htm : bd.Tame) (hts : DTs X W0 ifs t)
    (hi : DI X W0 tg1 iter1 it1) (hL : LoopOk X (.ListComp elt gens scope cpos) (k + 1) tg1 vs1 b1 body1) (hs : ∀ x, foldedSetIterable iter1 X.env x = pure x := by intro _; rfl)
    (hsub : ∀ j, j ∈ is → j ∈ vs := by decide) (hsub2 : ∀ j, j ∈ vs1 → j ∈ vs ∧ j ∉ is := by decide) : LoopOk X (.ListComp elt gens scope cpos) k tg vs bd (cB t (cN it1 b1 body1)) :=
  loop_ok (vs' := vs1) (p0 := iter.pos) hc hx (fun _ _ => compTurn_next hk0 hk) hg htm hts (body_next hx hk hi hL hs) hsub hsub2
theorem x_lcN {rest : List Comprehension} {body : Envr → M (List D)} (own : List (Str × Nat)) (hc : X.calm = true) (hN : X.N.Nodup) (hi : DI X W tg iter it)
    (hL : ∀ (s : Shared) (H : Hp) (C : Addr) (cl : List (Str × Addr)) (fp : List Addr), LoopOk (X.blk s H scope (compEnvC scope cl C X.env) fp) (.ListComp elt (⟨tg, iter, ifs, 0⟩ :: rest) scope cpos) 0 tg (own.map Prod.snd) bd body)
    (ok : blkB X.N X.env.scope scope own = true := by kernel_rfl) (hs : ∀ x, foldedSetIterable iter X.env x = pure x := by intro _; rfl) : DX X W rF (.ListComp elt (⟨tg, iter, ifs, 0⟩ :: rest) scope cpos) (eLcN it (own.map Prod.snd) bd body) :=
  d_lcN hc hN hi (blk_of ok) hL hs
end
/-! calls -/
theorem x_call {k j : Nat} {f : Addr} {fd : FuncData} {ps : List Str} {m : List D → M D} (hr : Room k X.A) (F : FG X.prog X.w X.K X.mg X.base j f fd ps m) (hj : j ≤ k) (hgd : X.A.guards = some []) (hm : X.mg x = some (.ref f)) (hk : PySem.W.keepIn X.K (.ref f) = true) (hb : Binds X.K fd ps []) (tk : Takes X W) (ha : DA X W (e :: es) ms) (hg : Gl X x := by rfl)
    (hdb : (x == ("__debug__" : Str)) = false := by decide) (he : starEach (e :: es) X.env = (false, eval e X.env) :: starEach es X.env := by rfl) (hpl : (backTo pos (starEach es X.env)).any (·.1) = false := by rfl) :
    DX X W rE (.Call (.Name x p) (e :: es) [] pos) (eCall ps.length m ms) := d_call F (hr.mono hj) hgd hm hk hb tk ha hg hdb he hpl
end
end FB
namespace FB
open PySem PySem.Spec PyProof.Rows L2
theorem room65 {k : Nat} {A : Around} (r : Room k A) : A.units + 65 < cLine := by have := r.un; omega
/-- a def of the text, where the module holds it -/
structure FnAt (K : PySem.W.Frag) (mg : Str → Option Value) (x : Str) (st : Stmt) (f : Addr) (fd : FuncData) (ps : List Str) : Prop where
  gm : mg x = some (.ref f)
  u : Fun K x x st f fd
  b : Binds K fd ps []
/-- a class of refusals -/
structure ExAt (K : PySem.W.Frag) (mg : Str → Option Value) (x : Str) (C : Addr) : Prop where
  gm : mg x = some (.ref C)
  q : PySem.W.excIn K C [.type "ValueError", .type "Exception", .type "BaseException", .type "object"] "ValueError.__new__" = true
  k : PySem.W.keepIn K (.ref C) = true
  e : PySem.W.subIn K (.ref C) (.type "BaseException") = some true
  t : PySem.W.typeIn K (.ref C) = some (.type "type")
section
variable {X : Cx} {W : WX} {E : XK} {e : Expr} {es : List Expr} {ms : Envr → M (List D)} {pos p p2 p3 : Pos} {x : Str}
theorem x_fn {k j : Nat} {st : Stmt} {f : Addr} {fd : FuncData} {ps : List Str} {m : List D → M D} (hr : Room k X.A) (hgd : X.A.guards = some []) (U : FnAt X.K X.mg x st f fd ps) (F : FG X.prog X.w X.K X.mg X.base j f fd ps m) (tk : Takes X W) (ha : DA X W (e :: es) ms) (hj : j ≤ k := by decide) (hg : Gl X x := by rfl)
    (hdb : (x == ("__debug__" : Str)) = false := by decide) (he : starEach (e :: es) X.env = (false, eval e X.env) :: starEach es X.env := by rfl) (hpl : (backTo pos (starEach es X.env)).any (·.1) = false := by rfl) :
    DX X W rE (.Call (.Name x p) (e :: es) [] pos) (eCall ps.length m ms) := d_call F (hr.mono hj) hgd U.gm U.u.kp U.b tk ha hg hdb he hpl
theorem s_raise {C : Addr} {tx : Str} {j : Nat} (hc : X.calm = true) (tk : Takes X (WK E)) (U : ExAt X.K X.mg x C) (hg : Gl X x := by rfl) (hdb : (x == ("__debug__" : Str)) = false := by decide) :
    DS X E (.Raise (some (.Call (.Name x p) [.Constant (.str tx) j p2] [] p3)) none pos) (sRaise x) := ds_raise hc tk U.q U.gm U.k (raises_own U.e U.t) hg hdb
theorem x_glob {v : V} {u : Value} {d : D} (hm : X.mg x = some u ∧ RelV v u ∧ ∀ th G, Rep X.K th G v d) (hg : Gl X x := by rfl) (hd : (x == ("__debug__" : Str)) = false := by decide) : DX X W rE (.Name x pos) (eC d) := d_glob hg hm.1 hm.2.1 hm.2.2 hd
end
end FB

/-! Keys (tuples of ints); sorted of lists; sets of keys: comprehension, sorted. -/
namespace FB
open PySem PySem.Spec PyProof.Rows L2
/-! ### keys -/
def keyI : D → Option (List Int)
  | .tup ds => ints? ds
  | _ => none
def keysI : List D → Option (List (List Int))
  | [] => some []
  | d :: ds => match keyI d, keysI ds with
    | some k, some ks => some (k :: ks)
    | _, _ => none
def tupI (k : List Int) : D := .tup (k.map D.int)
theorem keyI_eq {d : D} {k : List Int} (h : keyI d = some k) : d = tupI k := by
  cases d <;> try (cases h; done)
  exact congrArg D.tup (ints?_eq h)
@[simp] theorem keyI_tupI (k : List Int) : keyI (tupI k) = some k := ints?_map k
theorem keysI_cons {d : D} {ds : List D} {ks : List (List Int)} (h : keysI (d :: ds) = some ks) : ∃ k ks', ks = k :: ks' ∧ keyI d = some k ∧ keysI ds = some ks' := by
  unfold keysI at h
  cases h1 : keyI d with
  | none => simp [h1] at h
  | some k =>
    cases h2 : keysI ds with
    | none => simp [h1, h2] at h
    | some ks' =>
      simp [h1, h2] at h
      exact ⟨k, ks', h.symm, rfl, rfl⟩
theorem keysI_mk {d : D} {ds : List D} {k : List Int} {ks : List (List Int)} (h1 : keyI d = some k) (h2 : keysI ds = some ks) : keysI (d :: ds) = some (k :: ks) := by
  unfold keysI
  rw [h1, h2]
theorem keysI_eq : ∀ {ds : List D} {ks : List (List Int)}, keysI ds = some ks → ds = ks.map tupI
  | [], _, h => by cases h; rfl
  | d :: ds, _, h => by
    obtain ⟨k, ks', rfl, h1, h2⟩ := keysI_cons h
    rw [keyI_eq h1, keysI_eq h2]
    rfl
@[simp] theorem keysI_map : ∀ ks : List (List Int), keysI (ks.map tupI) = some ks
  | [] => rfl
  | k :: ks => keysI_mk (keyI_tupI k) (keysI_map ks)
theorem keysI_app {as bs : List D} {ks : List (List Int)} (h : keysI (as ++ bs) = some ks) : ∃ k1 k2, ks = k1 ++ k2 ∧ keysI as = some k1 ∧ keysI bs = some k2 := by
  have e := keysI_eq h
  obtain ⟨k1, k2, rfl, e1, e2⟩ := List.map_eq_append_iff.mp e.symm
  exact ⟨k1, k2, rfl, by rw [← e1]; exact keysI_map _, by rw [← e2]; exact keysI_map _⟩
theorem keysI_put {as bs : List D} {k1 k2 : List (List Int)} (h1 : keysI as = some k1) (h2 : keysI bs = some k2) : keysI (as ++ bs) = some (k1 ++ k2) := by
  rw [keysI_eq h1, keysI_eq h2, ← List.map_append]
  exact keysI_map _
/-- each key once, in the order in which they come -/
def addK (acc : List (List Int)) (k : List Int) : List (List Int) := if k ∈ acc then acc else acc ++ [k]
def dedupK (ks : List (List Int)) : List (List Int) := ks.foldl addK []
theorem dedupK_snoc (ks : List (List Int)) (k : List Int) : dedupK (ks ++ [k]) = addK (dedupK ks) k := by
  unfold dedupK
  rw [List.foldl_append]
  rfl
theorem addK_len (acc : List (List Int)) (k : List Int) : acc.length ≤ (addK acc k).length := by
  unfold addK
  split
  · exact Nat.le_refl _
  · rw [List.length_append]; omega
theorem foldK_len : ∀ (ks acc : List (List Int)), acc.length ≤ (ks.foldl addK acc).length
  | [], _ => Nat.le_refl _
  | k :: ks, acc => Nat.le_trans (addK_len acc k) (foldK_len ks _)
theorem dedupK_len (as bs : List (List Int)) : (dedupK as).length ≤ (dedupK (as ++ bs)).length := by
  unfold dedupK
  rw [List.foldl_append]
  exact foldK_len bs _
def leK (a b : List Int) : Bool := decide (a ≤ b)
def sortK (ks : List (List Int)) : List (List Int) := ks.mergeSort leK
def leI (a b : Int) : Bool := decide (a ≤ b)
def sortI (ns : List Int) : List Int := ns.mergeSort leI
theorem leK_trans (a b c : List Int) (h1 : leK a b = true) (h2 : leK b c = true) : leK a c = true := decide_eq_true (List.le_trans (of_decide_eq_true h1) (of_decide_eq_true h2))
theorem leK_total (a b : List Int) : (leK a b || leK b a) = true := by
  rcases List.le_total a b with h | h
  · simp [leK, h]
  · simp [leK, h]
theorem leK_anti {a b : List Int} (h1 : leK a b = true) (h2 : leK b a = true) : a = b := List.le_antisymm (of_decide_eq_true h1) (of_decide_eq_true h2)
/-- a sorted one that holds the same is this one -/
theorem sortK_of {ks ls : List (List Int)} (p : ls.Perm ks) (s : ls.Pairwise fun a b => leK a b = true) : ls = sortK ks :=
  List.Perm.eq_of_pairwise (fun _ _ _ _ => leK_anti) s (List.pairwise_mergeSort leK_trans leK_total ks) (p.trans (List.mergeSort_perm ks leK).symm)
theorem leI_trans (a b c : Int) (h1 : leI a b = true) (h2 : leI b c = true) : leI a c = true := decide_eq_true (Int.le_trans (of_decide_eq_true h1) (of_decide_eq_true h2))
theorem leI_total (a b : Int) : (leI a b || leI b a) = true := by
  rcases Int.le_total a b with h | h
  · simp [leI, h]
  · simp [leI, h]
theorem sortI_of {ks ls : List Int} (p : ls.Perm ks) (s : ls.Pairwise (· ≤ ·)) : ls = sortI ks :=
  List.Perm.eq_of_pairwise (le := fun a b => leI a b = true) (fun _ _ _ _ h1 h2 => Int.le_antisymm (of_decide_eq_true h1) (of_decide_eq_true h2)) (s.imp fun h => decide_eq_true h) (List.pairwise_mergeSort leI_trans leI_total ks) (p.trans (List.mergeSort_perm ks leI).symm)

section
variable {X : Cx} {W : WX} {K : PySem.W.Frag} {S : Store} {th th1 : List Addr} {G G1 H H0 H1 : Hp} {v : V} {d : D} {e elt tg iter : Expr} {m : Envr → M D} {pos p cpos : Pos} {σ : L2.St} {ρ : Envr} {scope : Scope}
/-- a key's tuple -/
theorem rep_key {k : List Int} (r : Rep K th G v (tupI k)) : ∃ a, v = .ref a ∧ SqT K G a (k.map V.int) := by
  cases r with
  | tup h1 h2 => exact ⟨_, rfl, by rw [← h2.ints]; exact h1⟩
theorem key_rep {k : List Int} {a : Addr} (h : SqT K G a (k.map V.int)) : Rep K th G (.ref a) (tupI k) := by
  refine .tup h ?_
  have key : ∀ k : List Int, RepL K th G (k.map V.int) (k.map D.int) := fun k => by
    induction k with
    | nil => exact .nil
    | cons i k ih => exact .cons (.int i) ih
  exact key k
/-- values that are tuples of these ints -/
def KeyAt (K : PySem.W.Frag) (G : Hp) (u : Value) (k : List Int) : Prop := ∃ a, u = .ref a ∧ SqT K G a (k.map V.int)
theorem keys_each : ∀ {xs : List V} {us : List Value} {ks : List (List Int)}, RepL K th G xs (ks.map tupI) → Vals xs us → PySem.W.EachIs (KeyAt K G) us ks
  | _, _, [], h, r => by
    cases h
    cases r
    exact .nil
  | _, _, k :: ks, h, r => by
    cases h with
    | cons h1 h2 =>
      cases r with
      | cons r1 r2 =>
        obtain ⟨a, rfl, hs⟩ := rep_key h1
        exact .cons ⟨a, r1, hs⟩ (keys_each h2 r2)
theorem each_keys : ∀ {us : List Value} {ks : List (List Int)}, PySem.W.EachIs (KeyAt K G) us ks → ∃ xs, Vals xs us ∧ RepL K th G xs (ks.map tupI)
  | _, _, .nil => ⟨[], .nil, .nil⟩
  | _, _, .cons (b := k) ⟨a, e, hs⟩ t => by
    obtain ⟨xs, h1, h2⟩ := each_keys t
    exact ⟨.ref a :: xs, .cons e h1, .cons (key_rep hs) h2⟩
theorem pys_ints : ∀ k : List Int, D.pys (k.map D.int) = k.map PyData.int
  | [] => by simp [D.pys]
  | i :: k => by
    rw [List.map_cons, List.map_cons, D.pys, pys_ints k]
    simp [D.py]
theorem okn_ints (n : Nat) : ∀ k : List Int, (k.map D.int).all (D.okn n) = true
  | [] => rfl
  | i :: k => by
    rw [List.map_cons, List.all_cons, okn_ints n k]
    cases n <;> rfl
theorem key_reads {pins : List (Addr × Obj)} {s : Shared} {u : Value} {k : List Int} (I : Inv X pins σ H s) (w : ∀ a u, Rd G a u → Rd H a u) (h : KeyAt X.K G u k) : ∃ as, Reads s.heap u (.tuple (k.map PyData.int)) as := by
  obtain ⟨a, rfl, hs⟩ := h
  refine Dp.reads I _ (.ref a) _ (.tup (sqT_mono w hs) ?_) rfl
  have key : ∀ k : List Int, DpAll X.K H (k.map V.int) (k.map PyData.int) := fun k => by
    induction k with
    | nil => exact .nil
    | cons i k ih => exact .cons (.int i) ih
  exact key k
theorem each_imp {α β : Type} {R R' : α → β → Prop} (h : ∀ a b, R a b → R' a b) : ∀ {as : List α} {bs : List β}, PySem.W.EachIs R as bs → PySem.W.EachIs R' as bs
  | _, _, .nil => .nil
  | _, _, .cons r t => .cons (h _ _ r) (each_imp h t)
theorem dataLe_keys : PySem.W.dataLe false (fun k : List Int => PyData.tuple (k.map .int)) = leK := by
  funext a b
  show (!PySem.W.dataLt (.tuple (b.map .int)) (.tuple (a.map .int))) = _
  rw [PySem.W.dataLt_tuple]
  have h := PySem.W.dataLt_ints b a
  unfold PySem.W.rowLt at h
  rw [h]
  unfold leK
  by_cases hb : b < a
  · have h' : ¬ a ≤ b := fun r => List.not_lt.mpr r hb
    simp [hb, h']
  · have h' : a ≤ b := List.not_lt.mp hb
    simp [hb, h']
/-! ### sorted of a list -/
def gSorted : D → Option D
  | .lst ds => match ints? ds with
    | some ns => some (.lst ((sortI ns).map D.int))
    | none => match keysI ds with
      | some ks => if (ks.all fun k => !k.isEmpty) = true then some (.lst ((sortK ks).map tupI)) else none
      | none => none
  | _ => none
theorem repL_ints' (K : PySem.W.Frag) (th : List Addr) (G : Hp) : ∀ k : List Int, RepL K th G (k.map V.int) (k.map D.int)
  | [] => .nil
  | i :: k => .cons (.int i) (repL_ints' K th G k)
theorem c_sorted (hu : X.A.units + 65 < cLine) : CallD1 X rF (.builtin "sorted") gSorted := fun pins s σ H xs us Q I r ⟨S, th, G, x, d, z, e, w, rv, hz, q⟩ => by
  subst e
  cases d <;> try (cases hz; done)
  rename_i ds
  obtain ⟨a, vs, rfl, h1, h2⟩ := rv
  simp only [gSorted] at hz
  cases hi : ints? ds with
  | some ns =>
    rw [hi] at hz
    cases hz
    have ed := ints?_eq hi
    subst ed
    have ev := h2.ints
    subst ev
    refine cr_sortedI pins s σ H _ us Q I r ⟨a, ns, rfl, SqL.of h1, fun ns' pp hp hs hn => ?_⟩
    rw [sortI_of hp hs]
    exact Post.lstF w q (repL_ints' _ _ _ _) pp hn
  | none =>
    rw [hi] at hz
    cases hk : keysI ds with
    | none => rw [hk] at hz; cases hz
    | some ks =>
      rw [hk] at hz
      dsimp only at hz
      by_cases hne : (ks.all fun k => !k.isEmpty) = true
      · rw [if_pos hne] at hz
        cases hz
        have ed := keysI_eq hk
        subst ed
        obtain ⟨its, rv, hl, hsz⟩ := I.list (SqL.of h1)
        rw [Vals.ref1 r]
        have hrd : ∀ a u, Rd G a u → Rd H a u := fun _ _ => w.rd
        have E := keys_each h2 rv
        have hlen : ks.length ≤ sizeLine := by rw [← E.length, ← rv.length]; exact hsz
        refine PySem.W.sorted_data (R := KeyAt X.K G) (enc := fun k : List Int => PyData.tuple (k.map .int)) hl.isList E (each_imp (fun u k h => key_reads I hrd h) E) (PySem.W.AllAlike.of fun b b' => by show PySem.W.alike (.tuple _) (.tuple _) = true; rw [PySem.W.alike]; exact PySem.W.alike_ints b b')
          (.inl fun dd hd => ?_) hlen (fun b _ => ?_) fun out ho hO => ?_
        · obtain ⟨k, hkm, rfl⟩ := List.mem_map.mp hd
          have := List.all_eq_true.mp hne k hkm
          cases k with
          | nil => simp at this
          | cons i k => exact ⟨_, _, rfl⟩
        · show X.A.units + 2 + (PyData.depthAll (b.map .int) + 1) < cLine
          rw [PySem.W.depth_ints]
          omega
        · rw [dataLe_keys] at hO
          obtain ⟨ys, hv, hr⟩ := each_keys (th := th) hO
          obtain ⟨ep, he'⟩ := PyProof.Rows.sortedAll_at s.heap its out.toArray
          have hyl : ys.length ≤ sizeLine := by rw [hv.length, ho]; exact hlen
          exact ⟨.ref _, upd H (s.heap.objs.size + 1) (.lst ys), I.laid (t' := s.toks) (fun _ _ => PyProof.Rows.sortedAll_old) (Nat.le_succ _) ⟨hyl, out, ep, hv, he'⟩, rfl, Post.lstF w q hr _ (I.hok.fresh (Nat.le_succ _))⟩
      · rw [if_neg hne] at hz; cases hz
end
end FB

/-! Sets of keys: comprehension, sorted. -/
namespace FB
open PySem PySem.Spec PyProof.Rows L2
section
variable {X : Cx} {W : WX} {S : Store} {th th1 : List Addr} {G G1 H H0 H1 : Hp} {v : V} {d : D} {e elt tg iter : Expr} {m : Envr → M D} {pos p cpos : Pos} {σ : L2.St} {ρ : Envr} {scope : Scope} {pins : List (Addr × Obj)} {s : Shared}
/-- a set of keys, one's own -/
def rSet (P : Program) (w : World) : RK := fun K H0 th G H v d => ∃ (a : Addr) (L : List (Addr × List Int)) (ks : List (List Int)), v = .ref a ∧ H0 a = none ∧ G a = none ∧ a ∉ th ∧ H a = some (SetTO P w a L) ∧ (∀ p ∈ L, SqT K G p.1 (p.2.map V.int)) ∧ (L.map (·.2)).Perm (dedupK ks) ∧ d = .lst ((dedupK ks).map tupI)
def accS (X : Cx) : AccK X where
  At := fun th G H Dd ys => ∃ (L : List (Addr × List Int)) (ks : List (List Int)), H Dd = some (SetTO X.prog X.w Dd L) ∧ (∀ p ∈ L, SqT X.K G p.1 (p.2.map V.int)) ∧ keysI ys = some ks ∧ (L.map (·.2)).Perm (dedupK ks)
  ok := fun ys => ∃ ks, keysI ys = some ks ∧ (dedupK ks).length < 63
  ne := fun ⟨_, _, h, _⟩ => by rw [h]; simp
  ext := fun ⟨L, ks, h, hL, hk, hp⟩ e n => ⟨L, ks, e.keep _ _ h n, fun p hp => sqT_mono e.rd (hL p hp), hk, hp⟩
  pre := fun ⟨ks, hk, hl⟩ => by
    obtain ⟨k1, k2, rfl, h1, h2⟩ := keysI_app hk
    exact ⟨k1, h1, Nat.lt_of_le_of_lt (dedupK_len k1 k2) hl⟩
/-- a key more -/
theorem addT_ok {E : Value → Shared → Prop} {Dd x : Addr} {L : List (Addr × List Int)} {k : List Int} {Q : Value → Shared → Prop} (I : Inv X pins σ H s) (hD : H Dd = some (SetTO X.prog X.w Dd L)) (hL : ∀ p ∈ L, SqT X.K H p.1 (p.2.map V.int)) (hx : SqT X.K H x (k.map V.int)) (hu : X.A.units + 1 < cLine) (hfew : L.length + 1 < 64)
    (h : ∀ s' L', (k ∈ L.map (·.2) → L' = L) → (k ∉ L.map (·.2) → L'.Perm ((x, k) :: L)) → Inv X pins σ (upd H Dd (SetTO X.prog X.w Dd L')) s' → Q .none s') : wpAny (model X.prog X.w) X.A (call (.builtin "set.add") [.ref Dd, .ref x]) Q E s := by
  have R0 : SetT0 X.prog X.w s.heap Dd L := (I.hok Dd _ hD).1
  obtain ⟨es, ep, t, R⟩ := R0.full fun p hp => I.isT (hL p hp)
  have hxT := I.isT hx
  obtain ⟨o, ho, hex, hd⟩ := R.ob
  have hT : s.TypeIs (.ref Dd) "set" := ⟨o, ho, hex.1⟩
  refine wpAny_call_entry F.slot_set_add hT F.entry_set_add ?_ (F.args_set_add_2 _ _)
  unfold Builtin.«set.add» Builtin.Frozenset.oneOther
  simp only [List.isEmpty_nil, bind_assoc]
  unfold Builtin.Frozenset.addrOf setAdd
  refine wpAny_bind (wpAny_pure ?_)
  try dsimp only
  refine wpAny_bind (wpAny_pure ?_)
  try dsimp only
  refine wpAny_bind ?_
  refine wpAny_holding ?_
  refine wpAny_bind (wpAny_pyHash_tuple (by show X.A.units + 1 < cLine; exact hu) hxT ?_)
  refine add_at (s := { s with toks := s.toks + (k.length + 1) }) R hxT (by show X.A.units + 1 < cLine; exact hu) hfew fun b h' L' es' ep' t' hsb hS2 c1 c2 => ?_
  have R2 := hS2.t0
  obtain ⟨_, _, _, ⟨o2, ho2, _⟩, _⟩ := R2.ex
  exact wpAny_pure ⟨_, rfl, h _ L' c1 c2 (I.write (e := Dd) (t' := s.toks + (k.length + 1)) (by rw [hD]; trivial) (.inl rfl) (fun b u hb hu => (hsb.2 b hb).trans hu) ⟨_, ho2⟩ (setTO_new R2))⟩
theorem body_set {el : Envr → M D} {vs : List Nat} (hu : X.A.units + 1 < cLine) (hx : ∀ u s, X.xe u s → False) (he : DX X W0 rE elt el) :
    BodyOkA X (accS X) (fun Dd => do let v ← eval elt X.env; standAt elt.pos; let _ ← call (.builtin "set.add") [.ref Dd, v]) vs (cE el) := by
  intro pins s σ H S th G H0 ρ Dd ys Q L hw q
  unfold cE at q
  rw [wp_bind] at q
  refine wpAny_bind (wpAny_mono (he.run pins s σ H (fun v H1 => ∃ S1 th1 G1 y, Wd X.K X.mg S1 th1 G1 H1 ∧ Ext th G H th1 G1 H1 ∧ Rep X.K th1 G1 v y ∧ ((pure [y] : M (List D)) S1).wp _ _) L.inv
    ⟨S, th, G, H0, ρ, L.wd, L.env, q.mono (fun y S1 q1 v th1 G1 H1 w1 e1 r1 => ⟨S1, th1, G1, y, w1, e1, r1, q1⟩) fun _ _ _ z => z.elim⟩) (fun u s1 ⟨v, H1, I1, rv, S1, th1, G1, y, w1, e1, r1, q1⟩ => ?_) fun u s z => hx u s z)
  have hne := (accS X).ne L.lst
  have q1 : (accS X).ok (ys ++ [y]) ∧ _ := q1
  obtain ⟨⟨kk, hkk, hlen⟩, q2⟩ := q1
  obtain ⟨LL, ks, hD, hLT, hks, hp⟩ := (accS X).ext L.lst e1 L.tD
  obtain ⟨k1, k2, rfl, h1, h2⟩ := keysI_app hkk
  rw [hks] at h1
  cases h1
  obtain ⟨k, k0, rfl, hk, hk0⟩ := keysI_cons h2
  cases hk0
  have ey := keyI_eq hk
  subst ey
  obtain ⟨x, rfl, hxs⟩ := rep_key r1
  obtain rfl : u = Value.ref x := rv
  have hrd : ∀ a u, Rd G1 a u → Rd H1 a u := fun _ _ => w1.rd
  have gD1 : G1 Dd = none := by
    cases g : G1 Dd with
    | none => rfl
    | some o =>
      rcases e1.new Dd (by rw [g]; simp) with z | z
      · exact absurd L.gD z
      · exact absurd z hne
  have nD1 : Dd ∉ th1 := e1.nth hne L.tD
  have hLlen : LL.length + 1 < 64 := by
    have z := hp.length_eq
    rw [List.length_map] at z
    rw [dedupK_snoc] at hlen
    have := addK_len (dedupK ks) k
    omega
  refine wpAny_bind (wpAny_standAt (wpAny_bind (addT_ok I1 hD (fun p hp => sqT_mono hrd (hLT p hp)) (sqT_mono hrd hxs) hu hLlen fun s2 L' c1 c2 I2 => wpAny_pure ?_)))
  have ne : ∀ b, b ≠ Dd → upd H1 Dd (SetTO X.prog X.w Dd L') b = H1 b := fun b hb => upd_ne hb
  have eD : ExtD Dd th G H th1 G1 (upd H1 Dd (SetTO X.prog X.w Dd L')) := ⟨e1.tt, e1.g, e1.new, fun b o hb h n => by rw [ne b hb]; exact e1.keep b o h n, fun b h => by
    by_cases hb : b = Dd
    · rw [hb, upd_same]; simp
    · rw [ne b hb]; exact e1.dom b h⟩
  refine q2 s2 _ th1 G1 ⟨I2, ⟨fun b o h => ?_, w1.len, w1.nog, w1.nd, fun n mo b h1 h2 => ?_⟩, L.env.extD L.no eD, L.no, ⟨L', ks ++ [k], upd_same, fun p hp' => ?_, hkk, ?_⟩, gD1, nD1⟩ eD
  · rw [ne b (fun z => by rw [z, gD1] at h; cases h)]; exact w1.sub b o h
  · have hb : b ≠ Dd := fun z => nD1 (by rw [← z]; exact List.mem_of_getElem? h2)
    have qq := w1.obj n mo b h1 h2
    cases mo with
    | lst l => obtain ⟨us, p1, p2⟩ := qq; exact ⟨us, by rw [ne b hb]; exact p1, p2⟩
    | ins C fs => obtain ⟨Ca, dx, us, p0, p1, p2⟩ := qq; exact ⟨Ca, dx, us, p0, by rw [ne b hb]; exact p1, p2⟩
  · by_cases hm : k ∈ LL.map (·.2)
    · rw [c1 hm] at hp'; exact hLT p hp'
    · rcases List.mem_cons.mp ((c2 hm).mem_iff.mp hp') with z | z
      · rw [z]; exact hxs
      · exact hLT p z
  · rw [dedupK_snoc]
    unfold addK
    by_cases hm : k ∈ LL.map (·.2)
    · rw [c1 hm, if_pos (hp.mem_iff.mp hm)]; exact hp
    · rw [if_neg (fun z => hm (hp.mem_iff.mpr z))]
      refine ((c2 hm).map (·.2)).trans ?_
      exact (List.Perm.cons k hp).trans (List.perm_append_singleton k _).symm
def mkS2 (ys : List D) : M D := match keysI ys with
  | some ks => if (dedupK ks).length < 63 then pure (.lst ((dedupK ks).map tupI)) else fail
  | none => fail
theorem mkS2_wp {ys : List D} {Qb : D → Store → Prop} {E : Str → D → Store → Prop} (h : (mkS2 ys S).wp Qb E) : ∃ ks, keysI ys = some ks ∧ (dedupK ks).length < 63 ∧ Qb (.lst ((dedupK ks).map tupI)) S := by
  unfold mkS2 at h
  cases hk : keysI ys with
  | none => rw [hk] at h; exact h.elim
  | some ks =>
    rw [hk] at h
    dsimp only at h
    by_cases c : (dedupK ks).length < 63
    · rw [if_pos c] at h; exact ⟨ks, rfl, c, h⟩
    · rw [if_neg c] at h; exact h.elim
def eSc (it : Envr → M (List D)) (own : List Nat) (bd : Bd) (body : Envr → M (List D)) : Envr → M D := fun ρ => do
  let ds ← it ρ
  let ys ← noX (forC bd body ds (noOwn (wipeE ρ own)))
  mkS2 ys
/-- {elt for .. in ..} -/
theorem d_sc {W : WX} {iter : Expr} {ifs : List Expr} {own : List (Str × Nat)} {it : Envr → M (List D)} {bd : Bd} {body : Envr → M (List D)} (hc : X.calm = true) (hN : X.N.Nodup) (hi : DI X W tg iter it) (ok : BlkOk X.N X.env.scope scope own)
    (hL : ∀ (s : Shared) (H : Hp) (C : Addr) (cl : List (Str × Addr)) (fp : List Addr), LoopOkA (X.blk s H scope (compEnvC scope cl C X.env) fp) (accS (X.blk s H scope (compEnvC scope cl C X.env) fp)) (.SetComp elt [⟨tg, iter, ifs, 0⟩] scope cpos) 0 tg (own.map Prod.snd) bd body)
    (hs : ∀ x, foldedSetIterable iter X.env x = pure x := by intro _; rfl) : DX X W (rSet X.prog X.w) (.SetComp elt [⟨tg, iter, ifs, 0⟩] scope cpos) (eSc it (own.map Prod.snd) bd body) := by
  refine ⟨fun pins s σ H Q I ⟨S, th, G, H0, ρ, w, eo, q⟩ => ?_⟩
  unfold eSc at q
  rw [wp_bind] at q
  rw [PpSet.eval_SetComp]
  have hfree : ∀ y ∈ scope.names, y.2 = .free → ∃ c, X.env.cells.lookup y.1 = some c := fun y hy e => by
    rcases ok.free y hy e with z | z
    · exact I.ok.has _ (.inl z)
    · exact I.ok.has _ (.inr z)
  refine wpAny_comprehension_free (use := none) rfl hs (closure_ok hfree) ok.kind (fun y hy e => by rw [ok.uniq y hy, e]) (thn (hi.run pins s σ H (fun J H1 => ∃ S1 th1 G1 ds, Wd X.K X.mg S1 th1 G1 H1 ∧ Ext th G H th1 G1 H1 ∧ ItOk X J th1 G1 ds ∧
      ((do let ys ← noX (forC bd body ds (noOwn (wipeE ρ (own.map Prod.snd)))); mkS2 ys) S1).wp (Post X (rSet X.prog X.w) H th G Q) (PostX X (fun c d h => W c d σ h) H th G)) I
    ⟨S, th, G, H0, ρ, w, eo, q.mono (fun ds S1 q1 J th1 G1 H1 w1 e1 hJ => ⟨S1, th1, G1, ds, w1, e1, hJ, q1⟩) fun _ _ _ z => z⟩) fun xv s1 hx1 => thn hx1 fun itv s2 h2 => ?_)
  obtain ⟨a0, fp, tn, J, H2, rfl, I2, T, st2, f2, S1, th1, G1, ds, w1, e1, hJ, q1⟩ := h2
  rw [wp_bind] at q1
  have q2 := noX_wp q1
  refine PpSet.newSet_ok (newEnv_comp ?_)
  generalize hDd : s2.heap.objs.size = Dd
  have nDd : H2 Dd = none := I2.hok.fresh (Nat.le_of_eq hDd)
  -- the list that is to be filled
  generalize hs3 : ({ s2 with heap := s2.heap.push { cls := .type "set", dict := none, data := .set #[] 0 (.fresh 0 0 (!X.w.params.followText "set-order")) } } : Shared) = s3
  have hp3 : s3.heap = s2.heap.push { cls := .type "set", dict := none, data := .set #[] 0 (.fresh 0 0 (!X.w.params.followText "set-order")) } := by rw [← hs3]
  have I3 : Inv X pins σ (upd H2 Dd (SetTO X.prog X.w Dd [])) s3 := by
    rw [← hs3]
    refine I2.laid (t' := s2.toks) (fun b o z => Heap.get?_push_of_some _ z) (Nat.le_of_eq hDd) ?_
    rw [← hDd]
    exact setTO_new (setTR_fresh (Heap.get?_push_size _ rfl)).t0
  have below : ∀ b ∈ fp, b < s2.heap.objs.size := fun b hb => by
    obtain ⟨o, z, _⟩ := T.obj _ _ st2 b hb
    exact Heap.lt_size z
  have f3 : ∀ b ∈ fp, FpOk X pins (upd H2 Dd (SetTO X.prog X.w Dd [])) b ∧ b < s3.heap.objs.size := fun b hb => by
    refine ⟨⟨?_, (f2 b hb).2⟩, by rw [hp3, Heap.size_push]; exact Nat.lt_succ_of_lt (below b hb)⟩
    rw [upd_ne (by rw [← hDd]; exact Nat.ne_of_lt (below b hb))]
    exact (f2 b hb).1
  have I4 := block_start I3 ok hN f3
  have LL := hL s3 (upd H2 Dd (SetTO X.prog X.w Dd [])) s3.heap.objs.size (cellsFrom (s3.heap.objs.size + 1) scope.names (cloFrom X.env.cells scope.names [])) fp
  have st3 : tn 0 s3.heap := T.keep _ _ _ st2 fun b _ o z => by rw [hp3]; exact Heap.get?_push_of_some _ z
  have st4 : tn 0 (pushCells (s3.heap.push { cls := .type "dict", data := .dict #[] }) scope.names) := T.keep _ _ _ st3 fun b _ o z => pushCells_keeps _ _ _ _ (Heap.get?_push_of_some _ z)
  have cL : (compEnvC scope (cellsFrom (s3.heap.objs.size + 1) scope.names (cloFrom X.env.cells scope.names [])) s3.heap.objs.size X.env).locals = s3.heap.objs.size := rfl
  obtain ⟨w3, e3⟩ := w1.laidH (o := SetTO X.prog X.w Dd []) nDd
  have eo3 : EnvOk X.K th1 G1 (upd H2 Dd (SetTO X.prog X.w Dd [])) H0 (wipe σ (own.map Prod.snd)) (noOwn (wipeE ρ (own.map Prod.snd))) := (((eo.ext e1).ext e3).wipe _).noOwn
  have acc0 : (accS X).At th1 G1 (upd H2 Dd (SetTO X.prog X.w Dd [])) Dd [] := ⟨[], [], upd_same, fun z hz => by simp at hz, rfl, List.Perm.refl _⟩
  have loop := LL [] _ (wipe σ (own.map Prod.snd)) (upd H2 Dd (SetTO X.prog X.w Dd [])) S1 th1 G1 H0 (noOwn (wipeE ρ (own.map Prod.snd))) Dd [] a0 fp tn J ds
    (compPost (model X.prog X.w) X.A X.xe none (EP X pins σ Q) (.ref Dd) s3.heap.objs.size)
    ⟨I4, w3, eo3, noOwn_NoOwn _, acc0, w1.gfree nDd, fun z => w1.thDom z nDd⟩ (wipe_wipe σ _) T st4
    (fun b hb => ⟨(f3 b hb).1.1, (I4.ok.exf b hb).1, I4.ok.exfs b hb, .inl hb, fun x c z => (I4.ok.exf b hb).2 x c z, fun p hp => absurd (show p ∈ ([] : List (Addr × Obj)) ++ [] from hp) (by simp)⟩)
    (fun S5 th5 G5 H5 w5 ht5 hg5 => hJ S5 th5 G5 H5 w5 ht5 hg5)
    (q2.mono (fun zs S2 q3 => by
      obtain ⟨ks, hks, hz, q4⟩ := mkS2_wp q3
      refine ⟨⟨ks, hks, hz⟩, fun s6 H6 th6 G6 L6 e6 => ?_⟩
      obtain ⟨L, ks2, hL2, hT, hk2, hp⟩ := L6.lst
      rw [List.nil_append, hks] at hk2
      cases hk2
      have e6' : Ext th1 G1 H2 th6 G6 H6 := ⟨by
          obtain ⟨more, hm, hn⟩ := e6.tt
          exact ⟨more, hm, fun c hcm => e3.back (hn c hcm)⟩, e6.g, fun c hcm => (e6.new c hcm).imp id e3.back, fun c o hco n => e6.keep c o (fun z => by rw [z, nDd] at hco; cases hco) (e3.keep c o hco n) n, fun c hcm => e6.dom c (e3.dom c hcm)⟩
      have I7 : Inv X pins σ H6 s6 := I3.call' (ch := fp) L6.inv.os L6.inv.base L6.inv.hok L6.inv.bare fun b hb => ⟨(f3 b hb).1.2.2.2.1, (f3 b hb).1.2.1, (f3 b hb).1.2.2.2.2.1, (f3 b hb).1.2.2.2.2.2⟩
      have nC : H6 s3.heap.objs.size = none := L6.inv.free
      obtain ⟨mm, hn, _⟩ := L6.inv.loc
      have hn : s6.heap.Ns s3.heap.objs.size mm := hn
      refine ⟨mm, hn, fun h'' sb => ?_⟩
      obtain ⟨g0, g1, g2, g3, g4, g5⟩ := I3.fpOk (H' := H6) (Nat.le_refl _) nC
      exact ⟨.ref Dd, H6, I7.turned (t' := s6.toks) (fun b o hb z => (sb.2 b hb).trans z) g0 g1 g3 g4 g5, rfl, q4 _ th6 G6 H6 L6.wd (e1.trans e6') ⟨Dd, L, _, rfl, e1.back nDd, L6.gD, L6.tD, hL2, hT, hp, rfl⟩⟩) fun _ _ _ z => z)
  exact PpSet.codeAny_compStart_set loop (T.self X.A 0 _ _ _ st4 loop)
end
end FB

/-! sorted of sets of keys; the words for sets. -/
namespace FB
open PySem PySem.Spec PyProof.Rows L2
/-- keys of one length, of numbers that are not below nought nor too great -/
def bdI (k : List Int) : Bool := k.all fun i => decide (0 ≤ i) && decide (i < 2 ^ 62)
def okS : List (List Int) → Bool
  | [] => true
  | k :: ks => decide (1 ≤ k.length) && (k :: ks).all fun l => decide (l.length = k.length) && bdI l
theorem bdI_bd {k : List Int} (h : bdI k = true) : TS.Bd (2 ^ 62) k := fun i hi => by
  have q := List.all_eq_true.mp h i hi
  rw [Bool.and_eq_true] at q
  exact ⟨of_decide_eq_true q.1, of_decide_eq_true q.2⟩
theorem okS_iff {ks : List (List Int)} (h : okS ks = true) : ∃ d, 1 ≤ d ∧ ∀ k ∈ ks, k.length = d ∧ TS.Bd (2 ^ 62) k := by
  cases ks with
  | nil => exact ⟨1, Nat.le_refl _, fun k hk => by simp at hk⟩
  | cons k ks =>
    unfold okS at h
    rw [Bool.and_eq_true] at h
    refine ⟨k.length, of_decide_eq_true h.1, fun l hl => ?_⟩
    have q := List.all_eq_true.mp h.2 l hl
    rw [Bool.and_eq_true] at q
    exact ⟨of_decide_eq_true q.1, bdI_bd q.2⟩
theorem le_of_code {B : Int} : ∀ {a b : List Int}, a.length = b.length → TS.Bd B a → TS.Bd B b → TS.code B a ≤ TS.code B b → leK a b = true
  | [], [], _, _, _, _ => decide_eq_true (List.not_lt.mp (by simp))
  | [], _ :: _, h, _, _, _ => by simp at h
  | _ :: _, [], h, _, _, _ => by simp at h
  | x :: a, y :: b, h, h1, h2, hc => by
    have hl : a.length = b.length := by simpa using h
    by_cases hxy : x = y
    · subst hxy
      have hc2 : TS.code B a ≤ TS.code B b := Int.not_lt.mp fun z => absurd hc (Int.not_le.mpr ((TS.code_same hl.symm).mpr z))
      have ih := le_of_code hl h1.tail h2.tail hc2
      have ih : a ≤ b := of_decide_eq_true ih
      refine decide_eq_true (List.not_lt.mp fun z => ?_)
      rw [List.cons_lt_cons_iff] at z
      rcases z with z | ⟨_, z⟩
      · exact Int.lt_irrefl _ z
      · exact List.not_lt.mpr ih z
    · refine decide_eq_true (List.not_lt.mp fun z => ?_)
      rw [List.cons_lt_cons_iff] at z
      rcases z with z | ⟨z, _⟩
      · exact absurd hc (Int.not_le.mpr (TS.code_lt hl.symm h2.tail h1.tail z))
      · exact hxy z.symm
def gSortS : D → Option D
  | .lst ds => match keysI ds with
    | some ks => if okS ks = true then some (.lst ((sortK ks).map tupI)) else none
    | none => none
  | _ => none
section
variable {X : Cx} {W : WX} {S : Store} {th th1 : List Addr} {G G1 H H0 H1 : Hp} {v : V} {d : D} {e elt tg iter : Expr} {ifs : List Expr} {m el : Envr → M D} {t : Envr → M Bool} {it : Envr → M (List D)} {bd : Bd} {is vs : List Nat} {pos p cpos : Pos} {σ : L2.St} {ρ : Envr} {scope : Scope} {pins : List (Addr × Obj)} {s : Shared}
theorem repL_refs {L : List (Addr × List Int)} (h : ∀ p ∈ L, SqT X.K G p.1 (p.2.map V.int)) : RepL X.K th G (L.map fun q => V.ref q.1) ((L.map (·.2)).map tupI) := by
  induction L with
  | nil => exact .nil
  | cons p L ih => exact .cons (key_rep (h p List.mem_cons_self)) (ih fun q hq => h q (List.mem_cons_of_mem _ hq))
/-- sorted(a set of keys) -/
theorem x_sortS (hc : X.calm = true) (hm : X.mg "sorted" = none) (ha : DX X W (rSet X.prog X.w) e m) (hg : Gl X "sorted" := by rfl) (hv : bootBuiltins ("sorted" : Str) = some (.builtin "sorted") := by first | rfl | kernel_rfl)
    (h1 : starEach [e] X.env = (false, eval e X.env) :: starEach [] X.env := by rfl) (h2 : (backTo pos (starEach [] X.env)).any (·.1) = false := by rfl) : DX X W rF (.Call (.Name "sorted" p) [e] [] pos) (eF1 gSortS m) :=
  PE.weak (pe_callB (cr_sortedT hc) hg hm hv (pa_cons ha pa_nil h1) (by decide) (by decide) h1 h2) fun σ H Q ⟨S, th, G, H0, ρ, w, eo, q⟩ => by
    refine tD.run w eo q fun d S1 v th1 G1 H1 w1 e1 r1 eo1 q1 => ?_
    obtain ⟨a, L, ks, rfl, n1, n2, n3, hL, hT, hp, rfl⟩ := r1
    obtain ⟨z, hz, q2⟩ := getO_wp q1
    change gSortS (.lst ((dedupK ks).map tupI)) = some z at hz
    simp only [gSortS, keysI_map] at hz
    by_cases hk : okS (dedupK ks) = true
    · rw [if_pos hk] at hz
      cases hz
      obtain ⟨dd, hd, hall⟩ := okS_iff hk
      have hrd : ∀ a u, Rd G1 a u → Rd H1 a u := fun _ _ => w1.rd
      have hin : ∀ p ∈ L, p.2.length = dd ∧ TS.Bd (2 ^ 62) p.2 := fun p hpm => hall _ (hp.mem_iff.mp (List.mem_map_of_mem hpm))
      refine ⟨a, L, dd, 2 ^ 62, rfl, hL, fun p hp => sqT_mono hrd (hT p hp), hd, hin, fun L' pp pm nd hlt pw hn => ?_⟩
      have hT' : ∀ p ∈ L', SqT X.K G1 p.1 (p.2.map V.int) := fun p hp => hT p (pm.mem_iff.mp hp)
      have es : L'.map (·.2) = sortK (dedupK ks) := sortK_of ((pm.map (·.2)).trans hp) (List.pairwise_map.mpr (pw.imp_of_mem fun {q r} hq hr hle => le_of_code (by rw [(hin q (pm.mem_iff.mp hq)).1, (hin r (pm.mem_iff.mp hr)).1]) (hin q (pm.mem_iff.mp hq)).2 (hin r (pm.mem_iff.mp hr)).2 hle))
      have hr := repL_refs (th := th1) hT'
      rw [es] at hr
      obtain ⟨w2, e2⟩ := w1.laidH (o := .lst (L'.map fun q => V.ref q.1)) hn
      exact q2 _ th1 G1 _ w2 (e1.trans e2) ⟨pp, rfl, e1.back hn, w1.gfree hn, fun z => w1.thDom z hn, _, upd_same, e2.repL hr⟩
    · rw [if_neg hk] at hz; cases hz
theorem x_sort (hu : X.A.units + 65 < cLine) (hm : X.mg "sorted" = none) (ha : DX X W rS e m) (hg : Gl X "sorted" := by rfl) (hv : bootBuiltins ("sorted" : Str) = some (.builtin "sorted") := by first | rfl | kernel_rfl)
    (h1 : starEach [e] X.env = (false, eval e X.env) :: starEach [] X.env := by rfl) (h2 : (backTo pos (starEach [] X.env)).any (·.1) = false := by rfl) : DX X W rF (.Call (.Name "sorted" p) [e] [] pos) (eF1 gSorted m) :=
  d_callB1 rF.bk (c_sorted hu) ha hg hm hv (by decide) (by decide) h1 h2
theorem x_sc (own : List (Str × Nat)) (hc : X.calm = true) (hu : X.A.units + 1 < cLine) (hN : X.N.Nodup) (hi : DI X W tg iter it)
    (hg : ∀ (s : Shared) (H : Hp) (C : Addr) (cl : List (Str × Addr)) (fp : List Addr), DG (X.blk s H scope (compEnvC scope cl C X.env) fp) tg is bd) (htm : bd.Tame)
    (ht : ∀ (s : Shared) (H : Hp) (C : Addr) (cl : List (Str × Addr)) (fp : List Addr), DTs (X.blk s H scope (compEnvC scope cl C X.env) fp) W0 ifs t)
    (he : ∀ (s : Shared) (H : Hp) (C : Addr) (cl : List (Str × Addr)) (fp : List Addr), DX (X.blk s H scope (compEnvC scope cl C X.env) fp) W0 rE elt el)
    (ok : blkB X.N X.env.scope scope own = true := by kernel_rfl)
    (hsub : ∀ j, j ∈ is → j ∈ own.map Prod.snd := by decide) (hs : ∀ x, foldedSetIterable iter X.env x = pure x := by intro _; rfl) :
    DX X W (rSet X.prog X.w) (.SetComp elt [⟨tg, iter, ifs, 0⟩] scope cpos) (eSc it (own.map Prod.snd) bd (cB t (cE el))) :=
  d_sc hc hN hi (blk_of ok) (fun s H C cl fp => loop_okA (BODY := fun Dd => do let v ← eval elt (X.blk s H scope (compEnvC scope cl C X.env) fp).env; standAt elt.pos; let _ ← call (.builtin "set.add") [.ref Dd, v]) (vs' := []) (p0 := iter.pos) hc (fun _ _ z => z) (fun _ _ => PpSet.compTurn_set ..) (fun _ _ => ⟨rfl, rfl⟩) (hg s H C cl fp) htm (ht s H C cl fp) (body_set hu (fun _ _ z => z) (he s H C cl fp)) hsub (fun j hj => by simp at hj)) hs
end
end FB

/-! What the module holds. -/
namespace FB
open PySem PySem.Spec PyProof.Rows L2
section
variable {K : PySem.W.Frag} {h : Heap} {mg : Str → Option Value} {x : Str}
theorem fnAt_mk {st : Stmt} {f : Addr} {oc : Value} {od an : Option Addr} {osl : Array (Option Value)} {kV doc pm cdv ct : Value} {ps : List Str} (X : K.In h) (G : h.Ns mainGlobals mg) (a : PySem.W.nsIn K mainGlobals x = some (some (.ref f)))
    (l : K.lookup f = some ⟨oc, od, .func (PySem.W.fnOf x x (defArgs st) (defBody st) (defScope st) .none kV doc pm an cdv ct), osl⟩) (c : PySem.W.codeIn K cdv x = true) (k : PySem.W.keepIn K (.ref f) = true)
    (hb : ∀ (kV doc pm : Value) (an : Option Addr) (cdv ct : Value) (us : List Value), us.length = ps.length → bindArgs (PySem.W.fnOf x x (defArgs st) (defBody st) (defScope st) .none kV doc pm an cdv ct) ⟨us, []⟩ = pure (ps.zip us)) :
    ∃ f fd, FnAt K mg x st f fd ps := ⟨f, _, PySem.W.mg_of X G a, fun_mk l c k, (fun_mk l c k).binds hb⟩
/-- the law's own def -/
theorem fnLaw_mk {st : Stmt} {f : Addr} {oc : Value} {od an : Option Addr} {osl : Array (Option Value)} {kV doc pm cdv ct : Value} {y : Str} (X : K.In h) (G : h.Ns mainGlobals mg) (a : PySem.W.nsIn K mainGlobals x = some (some (.ref f)))
    (l : K.lookup f = some ⟨oc, od, .func (PySem.W.fnOf x x (defArgs st) (defBody st) (defScope st) .none kV doc pm an cdv ct), osl⟩) (c : PySem.W.codeIn K cdv x = true) (k : PySem.W.keepIn K (.ref f) = true)
    (hb : ∀ (kV doc pm : Value) (an : Option Addr) (cdv ct : Value) (us : List Value), us.length = [y].length → bindArgs (PySem.W.fnOf x x (defArgs st) (defBody st) (defScope st) .none kV doc pm an cdv ct) ⟨us, []⟩ = pure ([y].zip us)) :
    ∃ f fd, FnAt K mg x st f fd [y] ∧ ∀ (s : Shared) (u : Value), BindsTo s fd ⟨[u], []⟩ [(y, u)] := ⟨f, _, ⟨PySem.W.mg_of X G a, fun_mk l c k, (fun_mk l c k).binds hb⟩, fun s u => .of_eq (hb kV doc pm an cdv ct [u] rfl)⟩
/-- a thing of the written part as data -/
def KRep (K : PySem.W.Frag) (u : Value) (d : D) : Prop := ∃ v, RelV v u ∧ ∀ th G, Rep K th G v d
theorem kr_int {i : Int} {t : Tok} : KRep K (.int i t) (.int i) := ⟨.int i, ⟨t, rfl⟩, fun _ _ => .int i⟩
theorem kr_str {s : Str} {t : Tok} : KRep K (.str s t) (.str s) := ⟨.str s, ⟨t, rfl⟩, fun _ _ => .str s⟩
theorem kr_bl {b : Bool} : KRep K (.bool b) (.bl b) := ⟨.bl b, rfl, fun _ _ => .bl b⟩
theorem kr_non : KRep K .none .non := ⟨.non, rfl, fun _ _ => .non⟩
def KRepL (K : PySem.W.Frag) : List Value → List D → Prop := Paired (KRep K)
theorem krl_nil : KRepL K [] [] := .nil
theorem krl_cons {u : Value} {d : D} {us : List Value} {ds : List D} (h : KRep K u d) (t : KRepL K us ds) : KRepL K (u :: us) (d :: ds) := .cons h t
theorem krl_vals : ∀ {us : List Value} {ds : List D}, KRepL K us ds → ∃ vs, Vals vs us ∧ ∀ th G, RepL K th G vs ds
  | _, _, .nil => ⟨[], .nil, fun _ _ => .nil⟩
  | _, _, .cons ⟨v, r, q⟩ t => by
    obtain ⟨vs, h1, h2⟩ := krl_vals t
    exact ⟨v :: vs, .cons r h1, fun th G => .cons (q th G) (h2 th G)⟩
theorem kr_tup {a : Addr} {dd : Option Addr} {us : List Value} {n : Nat} {sl : Array (Option Value)} {ds : List D} (l : K.lookup a = some ⟨.type "tuple", dd, .seq us.toArray n, sl⟩) (t : KRepL K us ds) (hz : ds.length ≤ sizeLine := by decide) : KRep K (.ref a) (.tup ds) := by
  have hz : us.length ≤ sizeLine := by rw [PySem.Paired.length t]; exact hz
  obtain ⟨vs, h1, h2⟩ := krl_vals t
  exact ⟨.ref a, rfl, fun th G => .tup (.inr ⟨_, us.toArray, n, l, rfl, rfl, by simpa using hz, by simpa using h1⟩) (h2 th G)⟩
theorem const_mk {u : Value} {d : D} (X : K.In h) (G : h.Ns mainGlobals mg) (a : PySem.W.nsIn K mainGlobals x = some (some u)) (r : KRep K u d) : ∃ v u, mg x = some u ∧ RelV v u ∧ ∀ th G, Rep K th G v d := by
  obtain ⟨v, r1, r2⟩ := r
  exact ⟨v, u, PySem.W.mg_of X G a, r1, r2⟩
theorem exAt_mk {C : Addr} (X : K.In h) (G : h.Ns mainGlobals mg) (a : PySem.W.nsIn K mainGlobals x = some (some (.ref C))) (q : PySem.W.excIn K C [.type "ValueError", .type "Exception", .type "BaseException", .type "object"] "ValueError.__new__" = true)
    (k : PySem.W.keepIn K (.ref C) = true) (e : PySem.W.subIn K (.ref C) (.type "BaseException") = some true) (t : PySem.W.typeIn K (.ref C) = some (.type "type")) : ∃ C, ExAt K mg x C := ⟨C, PySem.W.mg_of X G a, q, k, e, t⟩
end
end FB

/-! The words, evaluated: equations for simp; comprehensions and loops over typed lists. -/
namespace FB
open PySem PySem.Spec PyProof.Rows L2
section
variable {S : Store} {ρ : Envr} {d x y : D} {xs ys : List D} {i j : Int} {a b c : Envr → M D} {ms n : Envr → M (List D)} {t u : Envr → M Bool} {k : Nat}

@[simp] theorem vw_non : vw S D.non = D.non := (rfl)
@[simp] theorem vw_bl {z : Bool} : vw S (D.bl z) = (D.bl z) := (rfl)
@[simp] theorem vw_int : vw S (D.int i) = (D.int i) := (rfl)
@[simp] theorem vw_str {z : Str} : vw S (D.str z) = (D.str z) := (rfl)
@[simp] theorem vw_tup : vw S (D.tup xs) = (D.tup xs) := (rfl)
@[simp] theorem vw_lst : vw S (D.lst xs) = (D.lst xs) := (rfl)
@[simp] theorem vw_dic {z : List (D × D)} : vw S (D.dic z) = (D.dic z) := (rfl)
@[simp] theorem vw_scr {z : List Int} : vw S (D.scr z) = (D.scr z) := (rfl)
@[simp] theorem eV_ap : eV k ρ = (match ρ[k]? with | some (.dat d) => pure d | _ => fail) := (rfl)
@[simp] theorem eO_ap : eO k ρ = (match ρ[k]? with | some (.own d) => pure d | _ => fail) := (rfl)
@[simp] theorem eC_ap : eC d ρ = pure d := (rfl)
@[simp] theorem aNil_ap : aNil ρ = pure [] := (rfl)
@[simp] theorem aCons_ap : aCons a ms ρ = (a ρ >>= fun d => ms ρ >>= fun ds => pure (d :: ds)) := (rfl)
@[simp] theorem eTup_ap : eTup ms ρ = (ms ρ >>= fun ds => if ds.length ≤ sizeLine then pure (.tup ds) else fail) := (rfl)
@[simp] theorem eLst_ap : eLst ms ρ = (ms ρ >>= fun ds => if ds.length ≤ sizeLine then pure (.lst ds) else fail) := (rfl)
@[simp] theorem eNew_ap : eNew ms ρ = (ms ρ >>= fun ds => if ds.length ≤ sizeLine then newO ds else fail) := (rfl)
@[simp] theorem eAnd_ap : eAnd a b ρ = (a ρ >>= fun x => asB x >>= fun t => if t then b ρ else pure (.bl false)) := (rfl)
@[simp] theorem eOr_ap : eOr a b ρ = (a ρ >>= fun x => asB x >>= fun t => if t then pure (.bl true) else b ρ) := (rfl)
@[simp] theorem eNot_ap : eNot a ρ = (a ρ >>= fun x => asB x >>= fun t => pure (.bl (!t))) := (rfl)
@[simp] theorem eIf_ap : eIf t a b ρ = (t ρ >>= fun x => if x then a ρ else b ρ) := (rfl)
@[simp] theorem oN_ap : oN ρ = pure none := (rfl)
@[simp] theorem oS_ap : oS a ρ = (a ρ >>= fun x => asI x >>= fun i => pure (some i)) := (rfl)
@[simp] theorem tV_ap : tV a ρ = (a ρ >>= fun x => asB x) := (rfl)
@[simp] theorem tNot_ap : tNot t ρ = (t ρ >>= fun x => pure (!x)) := (rfl)
@[simp] theorem tAnd_ap : tAnd t u ρ = (t ρ >>= fun x => if x then u ρ else pure false) := (rfl)
@[simp] theorem tOr_ap : tOr t u ρ = (t ρ >>= fun x => if x then pure true else u ρ) := (rfl)
@[simp] theorem tTrue_ap : tTrue ρ = pure true := (rfl)
@[simp] theorem iSeq_ap : iSeq a ρ = (a ρ >>= fun x => itemsD x) := (rfl)
@[simp] theorem iR1_ap : iR1 a ρ = (a ρ >>= fun x => range1 x) := (rfl)
@[simp] theorem iR2_ap : iR2 a b ρ = (a ρ >>= fun x => b ρ >>= fun y => range2 x y) := (rfl)
@[simp] theorem rR1_ap : rR1 a ρ = (a ρ >>= fun x => rgL (.int 0) x) := (rfl)
@[simp] theorem rR2_ap : rR2 a b ρ = (a ρ >>= fun x => b ρ >>= fun y => rgL x y) := (rfl)
@[simp] theorem eLstR_ap : eLstR n ρ = (n ρ >>= fun ds => pure (.lst ds)) := (rfl)
@[simp] theorem eTupR_ap : eTupR n ρ = (n ρ >>= fun ds => pure (.tup ds)) := (rfl)
@[simp] theorem iEn_ap : iEn a ρ = (a ρ >>= fun x => itemsD x >>= fun ds => pure (enumD 0 ds)) := (rfl)
@[simp] theorem iZ2_ap : iZ2 a b ρ = (a ρ >>= fun x => b ρ >>= fun y => itemsD x >>= fun xs => itemsD y >>= fun ys => pure (zipD xs ys)) := (rfl)
@[simp] theorem iZ3_ap : iZ3 a b c ρ = (a ρ >>= fun x => b ρ >>= fun y => c ρ >>= fun z => itemsD x >>= fun xs => itemsD y >>= fun ys => itemsD z >>= fun zs => pure (zip3D xs ys zs)) := (rfl)
@[simp] theorem eF1_ap {g : D → Option D} : eF1 g a ρ = (a ρ >>= fun x => getO fun S => g (vw S x)) := (rfl)
@[simp] theorem eF2_ap {g : D → D → Option D} : eF2 g a b ρ = (a ρ >>= fun x => b ρ >>= fun y => getO fun S => g (vw S x) (vw S y)) := (rfl)
@[simp] theorem eChn_ap {g g' : D → D → Option D} : eChn g g' a b c ρ = (a ρ >>= fun x => b ρ >>= fun y => (getO fun S => g (vw S x) (vw S y)) >>= fun z => asB z >>= fun t => if t then (c ρ >>= fun u => getO fun S => g' (vw S y) (vw S u)) else pure (.bl false)) := (rfl)
@[simp] theorem eSl_ap {g : D → Option Int → Option Int → Option D} {l h : Envr → M (Option Int)} : eSl g a l h ρ = (a ρ >>= fun x => l ρ >>= fun l => h ρ >>= fun u => getO fun S => g (vw S x) l u) := (rfl)
@[simp] theorem eCall_ap {m : List D → M D} : eCall k m ms ρ = (ms ρ >>= fun ds => if ds.length = k then m ds else fail) := (rfl)
@[simp] theorem asB_bl {z : Bool} : asB (.bl z) = pure z := (rfl)
@[simp] theorem asI_int : asI (.int i) = pure i := (rfl)
@[simp] theorem itemsD_lst : itemsD (.lst xs) = pure xs := (rfl)
@[simp] theorem itemsD_tup : itemsD (.tup xs) = pure xs := (rfl)
@[simp] theorem range1_int : range1 (.int i) = if rgOk 0 i = true then pure (rgD 0 i) else fail := (rfl)
@[simp] theorem range2_int : range2 (.int i) (.int j) = if rgOk i j = true then pure (rgD i j) else fail := (rfl)
@[simp] theorem rgL_int : rgL (.int i) (.int j) = if rgOk2 i j = true then pure (rgD i j) else fail := (rfl)
@[simp] theorem sNil_ap : sNil ρ = pure (.nx ρ) := (rfl)
@[simp] theorem sSeq_ap {m n : Envr → M Out} : sSeq m n ρ = (m ρ >>= fun o => match o with | .nx ρ' => n ρ' | o => pure o) := (rfl)
@[simp] theorem sExpr_ap : sExpr a ρ = (a ρ >>= fun _ => pure (.nx ρ)) := (rfl)
@[simp] theorem sRet_ap : sRet a ρ = (a ρ >>= fun d => pure (.rt d)) := (rfl)
@[simp] theorem sRetN_ap : sRetN ρ = pure (.rt .non) := (rfl)
@[simp] theorem sBrk_ap : sBrk ρ = pure (.bk ρ) := (rfl)
@[simp] theorem sRaise_ap {z : Str} : sRaise z ρ = throwM z .non := (rfl)
@[simp] theorem sIf_ap {m n : Envr → M Out} : sIf t m n ρ = (t ρ >>= fun b => if b then m ρ else n ρ) := (rfl)
@[simp] theorem sSet_ap : sSet k a ρ = (a ρ >>= fun d => pure (.nx (ρ.set k (.dat d)))) := (rfl)
@[simp] theorem sSetO_ap : sSetO k a ρ = (a ρ >>= fun d => pure (.nx (ρ.set k (.own d)))) := (rfl)
@[simp] theorem sAsg_ap {z : Bd} : sAsg z a ρ = (a ρ >>= fun d => match z d ρ with | some ρ' => pure (.nx ρ') | none => fail) := (rfl)
@[simp] theorem sFreeze_ap : sFreeze k ρ = (match ρ[k]? with | some (.own d) => pure (.nx (ρ.set k (.dat d))) | _ => fail) := (rfl)
@[simp] theorem sFor_ap {z : Bd} {m : Envr → M Out} : sFor n z m ρ = (n ρ >>= fun ds => forS z m ds ρ) := (rfl)
@[simp] theorem sPar_ap {b1 b2 : Bool} {l : Nat} : sPar k b1 a l b2 b ρ = (a ρ >>= fun x => b ρ >>= fun y => pure (.nx ((ρ.set k (mkS b1 x)).set l (mkS b2 y)))) := (rfl)
@[simp] theorem sPar3_ap {b1 b2 b3 : Bool} {l q : Nat} : sPar3 k b1 a l b2 b q b3 c ρ = (a ρ >>= fun x => b ρ >>= fun y => c ρ >>= fun z => pure (.nx (((ρ.set k (mkS b1 x)).set l (mkS b2 y)).set q (mkS b3 z)))) := (rfl)
@[simp] theorem mkS_f : mkS false d = .dat d := (rfl)
@[simp] theorem mkS_t : mkS true d = .own d := (rfl)
@[simp] theorem sAppend_ap : sAppend k a ρ = (match ρ[k]? with | some (.own (.lst ds)) => (a ρ >>= fun d => if ds.length < sizeLine then pure (.nx (ρ.set k (.own (.lst (ds ++ [d]))))) else fail) | _ => fail) := (rfl)
@[simp] theorem bName_ap : bName k d ρ = some (ρ.set k (.dat d)) := (rfl)
@[simp] theorem bTup_ap {z : Bds} : bTup z (.tup xs) ρ = z xs ρ := (rfl)
@[simp] theorem bNil_ap : bNil [] ρ = some ρ := (rfl)
@[simp] theorem bCons_ap {z : Bd} {zs : Bds} : bCons z zs (d :: xs) ρ = (z d ρ).bind fun ρ1 => zs xs ρ1 := (rfl)
theorem runF_ap {mb : Envr → M Out} : runF k mb xs = (mb (startE k xs) >>= fun o => match o with | .nx _ => pure .non | .rt d => pure d | _ => fail) := (rfl)
@[simp] theorem wipeE_nil : wipeE ρ [] = ρ := (rfl)
@[simp] theorem wipeE_cons {v : Nat} {vs : List Nat} : wipeE ρ (v :: vs) = (wipeE ρ vs).set v .no := (rfl)
/-! operations -/
@[simp] theorem gAdd_int : gAdd (.int i) (.int j) = some (.int (i + j)) := (rfl)
@[simp] theorem gAdd_tup : gAdd (.tup xs) (.tup ys) = if xs.length + ys.length ≤ sizeLine then some (.tup (xs ++ ys)) else none := (rfl)
@[simp] theorem gAdd_lst : gAdd (.lst xs) (.lst ys) = if xs.length + ys.length ≤ sizeLine then some (.lst (xs ++ ys)) else none := (rfl)
@[simp] theorem gAddL_lst : gAddL (.lst xs) (.lst ys) = if xs.length + ys.length ≤ sizeLine then some (.lst (xs ++ ys)) else none := (rfl)
@[simp] theorem gSub_int : gSub (.int i) (.int j) = some (.int (i - j)) := (rfl)
@[simp] theorem gMul_int : gMul (.int i) (.int j) = if (-(2 ^ 64) < i ∧ i < 2 ^ 64) ∨ (-(2 ^ 64) < j ∧ j < 2 ^ 64) then some (.int (i * j)) else none := (rfl)
@[simp] theorem gDiv_int : gDiv (.int i) (.int j) = if 0 < j ∧ j < 1073741824 then some (.int (i / j)) else none := (rfl)
@[simp] theorem gMod_int : gMod (.int i) (.int j) = if 0 < j then some (.int (i % j)) else none := (rfl)
@[simp] theorem gLt_int : gLt (.int i) (.int j) = some (.bl (decide (i < j))) := (rfl)
@[simp] theorem gLe_int : gLe (.int i) (.int j) = some (.bl (decide (i ≤ j))) := (rfl)
@[simp] theorem gGt_int : gGt (.int i) (.int j) = some (.bl (decide (j < i))) := (rfl)
@[simp] theorem gGe_int : gGe (.int i) (.int j) = some (.bl (decide (j ≤ i))) := (rfl)
@[simp] theorem gIsN_non : gIsN d .non = some (.bl d.isNon) := by cases d <;> rfl
@[simp] theorem gNotN_non : gNotN d .non = some (.bl (!d.isNon)) := by cases d <;> rfl
@[simp] theorem gNeg_int : gNeg (.int i) = some (.int (-i)) := (rfl)
@[simp] theorem gAbs_int : gAbs (.int i) = some (.int (if i < 0 then -i else i)) := (rfl)
@[simp] theorem gMax2_int : gMax2 (.int i) (.int j) = some (.int (max i j)) := (rfl)
@[simp] theorem gMin2_int : gMin2 (.int i) (.int j) = some (.int (min i j)) := (rfl)
@[simp] theorem gLen_tup : gLen (.tup xs) = some (.int xs.length) := (rfl)
@[simp] theorem gLen_lst : gLen (.lst xs) = some (.int xs.length) := (rfl)
@[simp] theorem gLen_scr {ns : List Int} : gLen (.scr ns) = some (.int ns.length) := (rfl)
@[simp] theorem gTuple_lst : gTuple (.lst xs) = some (.tup xs) := (rfl)
@[simp] theorem gTuple_tup : gTuple (.tup xs) = some (.tup xs) := (rfl)
@[simp] theorem gList_lst : gList (.lst xs) = some (.lst xs) := (rfl)
@[simp] theorem gList_tup : gList (.tup xs) = some (.lst xs) := (rfl)
@[simp] theorem gInt_int : gInt (.int i) = some (.int i) := (rfl)
@[simp] theorem gInt_bl {z : Bool} : gInt (.bl z) = some (.int (if z then 1 else 0)) := (rfl)
@[simp] theorem gIx_tup : gIx (.tup xs) (.int i) = atI xs i := (rfl)
@[simp] theorem gIx_lst : gIx (.lst xs) (.int i) = atI xs i := (rfl)
@[simp] theorem gIx_scr {ns : List Int} : gIx (.scr ns) (.int i) = (atI ns i).map .int := (rfl)
@[simp] theorem gSl_tup {l h : Option Int} : gSl (.tup xs) l h = some (.tup (cutD xs l h)) := (rfl)
@[simp] theorem gSl_lst {l h : Option Int} : gSl (.lst xs) l h = some (.lst (cutD xs l h)) := (rfl)
@[simp] theorem gSlL_lst {l h : Option Int} : gSlL (.lst xs) l h = some (.lst (cutD xs l h)) := (rfl)
@[simp] theorem gAll_bools {bs : List Bool} : gAll (.lst (bs.map D.bl)) = some (.bl (bs.all id)) := by simp [gAll]
@[simp] theorem gAny_bools {bs : List Bool} : gAny (.lst (bs.map D.bl)) = some (.bl (bs.any id)) := by simp [gAny]
@[simp] theorem isNon_non : D.non.isNon = true := (rfl)
@[simp] theorem isNon_tup : (D.tup xs).isNon = false := (rfl)
@[simp] theorem isNon_int : (D.int i).isNon = false := (rfl)
@[simp] theorem isNon_lst : (D.lst xs).isNon = false := (rfl)
theorem kit_int_int : kitB "int" "int" = some true := by decide +kernel
@[simp] theorem isi_int_int : gIsi "int" (.int i) = some (.bl true) := by
  show (kitB "int" "int").map D.bl = _
  rw [kit_int_int]
  rfl
theorem kit_int_bool : kitB "int" "bool" = some false := by decide +kernel
@[simp] theorem isi_int_bool : gIsi "bool" (.int i) = some (.bl false) := by
  show (kitB "int" "bool").map D.bl = _
  rw [kit_int_bool]
  rfl
theorem kit_int_tuple : kitB "int" "tuple" = some false := by decide +kernel
@[simp] theorem isi_int_tuple : gIsi "tuple" (.int i) = some (.bl false) := by
  show (kitB "int" "tuple").map D.bl = _
  rw [kit_int_tuple]
  rfl
theorem kit_int_str : kitB "int" "str" = some false := by decide +kernel
@[simp] theorem isi_int_str : gIsi "str" (.int i) = some (.bl false) := by
  show (kitB "int" "str").map D.bl = _
  rw [kit_int_str]
  rfl
theorem kit_bl_int : kitB "bool" "int" = some true := by decide +kernel
@[simp] theorem isi_bl_int {z : Bool} : gIsi "int" (.bl z) = some (.bl true) := by
  show (kitB "bool" "int").map D.bl = _
  rw [kit_bl_int]
  rfl
theorem kit_bl_bool : kitB "bool" "bool" = some true := by decide +kernel
@[simp] theorem isi_bl_bool {z : Bool} : gIsi "bool" (.bl z) = some (.bl true) := by
  show (kitB "bool" "bool").map D.bl = _
  rw [kit_bl_bool]
  rfl
theorem kit_bl_tuple : kitB "bool" "tuple" = some false := by decide +kernel
@[simp] theorem isi_bl_tuple {z : Bool} : gIsi "tuple" (.bl z) = some (.bl false) := by
  show (kitB "bool" "tuple").map D.bl = _
  rw [kit_bl_tuple]
  rfl
theorem kit_bl_str : kitB "bool" "str" = some false := by decide +kernel
@[simp] theorem isi_bl_str {z : Bool} : gIsi "str" (.bl z) = some (.bl false) := by
  show (kitB "bool" "str").map D.bl = _
  rw [kit_bl_str]
  rfl
theorem kit_tup_int : kitB "tuple" "int" = some false := by decide +kernel
@[simp] theorem isi_tup_int : gIsi "int" (.tup xs) = some (.bl false) := by
  show (kitB "tuple" "int").map D.bl = _
  rw [kit_tup_int]
  rfl
theorem kit_tup_bool : kitB "tuple" "bool" = some false := by decide +kernel
@[simp] theorem isi_tup_bool : gIsi "bool" (.tup xs) = some (.bl false) := by
  show (kitB "tuple" "bool").map D.bl = _
  rw [kit_tup_bool]
  rfl
theorem kit_tup_tuple : kitB "tuple" "tuple" = some true := by decide +kernel
@[simp] theorem isi_tup_tuple : gIsi "tuple" (.tup xs) = some (.bl true) := by
  show (kitB "tuple" "tuple").map D.bl = _
  rw [kit_tup_tuple]
  rfl
theorem kit_tup_str : kitB "tuple" "str" = some false := by decide +kernel
@[simp] theorem isi_tup_str : gIsi "str" (.tup xs) = some (.bl false) := by
  show (kitB "tuple" "str").map D.bl = _
  rw [kit_tup_str]
  rfl
theorem kit_str_int : kitB "str" "int" = some false := by decide +kernel
@[simp] theorem isi_str_int {z : Str} : gIsi "int" (.str z) = some (.bl false) := by
  show (kitB "str" "int").map D.bl = _
  rw [kit_str_int]
  rfl
theorem kit_str_bool : kitB "str" "bool" = some false := by decide +kernel
@[simp] theorem isi_str_bool {z : Str} : gIsi "bool" (.str z) = some (.bl false) := by
  show (kitB "str" "bool").map D.bl = _
  rw [kit_str_bool]
  rfl
theorem kit_str_tuple : kitB "str" "tuple" = some false := by decide +kernel
@[simp] theorem isi_str_tuple {z : Str} : gIsi "tuple" (.str z) = some (.bl false) := by
  show (kitB "str" "tuple").map D.bl = _
  rw [kit_str_tuple]
  rfl
theorem kit_str_str : kitB "str" "str" = some true := by decide +kernel
@[simp] theorem isi_str_str {z : Str} : gIsi "str" (.str z) = some (.bl true) := by
  show (kitB "str" "str").map D.bl = _
  rw [kit_str_str]
  rfl
theorem kit_lst_int : kitB "list" "int" = some false := by decide +kernel
@[simp] theorem isi_lst_int : gIsi "int" (.lst xs) = some (.bl false) := by
  show (kitB "list" "int").map D.bl = _
  rw [kit_lst_int]
  rfl
theorem kit_lst_bool : kitB "list" "bool" = some false := by decide +kernel
@[simp] theorem isi_lst_bool : gIsi "bool" (.lst xs) = some (.bl false) := by
  show (kitB "list" "bool").map D.bl = _
  rw [kit_lst_bool]
  rfl
theorem kit_lst_tuple : kitB "list" "tuple" = some false := by decide +kernel
@[simp] theorem isi_lst_tuple : gIsi "tuple" (.lst xs) = some (.bl false) := by
  show (kitB "list" "tuple").map D.bl = _
  rw [kit_lst_tuple]
  rfl
theorem kit_lst_str : kitB "list" "str" = some false := by decide +kernel
@[simp] theorem isi_lst_str : gIsi "str" (.lst xs) = some (.bl false) := by
  show (kitB "list" "str").map D.bl = _
  rw [kit_lst_str]
  rfl
theorem kit_non_int : kitB "NoneType" "int" = some false := by decide +kernel
@[simp] theorem isi_non_int : gIsi "int" (.non) = some (.bl false) := by
  show (kitB "NoneType" "int").map D.bl = _
  rw [kit_non_int]
  rfl
theorem kit_non_bool : kitB "NoneType" "bool" = some false := by decide +kernel
@[simp] theorem isi_non_bool : gIsi "bool" (.non) = some (.bl false) := by
  show (kitB "NoneType" "bool").map D.bl = _
  rw [kit_non_bool]
  rfl
theorem kit_non_tuple : kitB "NoneType" "tuple" = some false := by decide +kernel
@[simp] theorem isi_non_tuple : gIsi "tuple" (.non) = some (.bl false) := by
  show (kitB "NoneType" "tuple").map D.bl = _
  rw [kit_non_tuple]
  rfl
theorem kit_non_str : kitB "NoneType" "str" = some false := by decide +kernel
@[simp] theorem isi_non_str : gIsi "str" (.non) = some (.bl false) := by
  show (kitB "NoneType" "str").map D.bl = _
  rw [kit_non_str]
  rfl
theorem atI_nat (xs : List D) (n : Nat) : atI xs (n : Int) = xs[n]? := by
  unfold atI ixN
  by_cases h : n < xs.length
  · simp [h]
  · have : xs[n]? = none := List.getElem?_eq_none (by omega)
    simp [h, this]
end
/-! ### comprehensions over typed lists -/
section
variable {α : Type} {ρ : Envr} {b : Bd} {body : Envr → M (List D)} {t : Envr → M Bool} {el : Envr → M D} {it : Envr → M (List D)} {own : List Nat}
theorem forC_map {xs : List α} {enc : α → D} {f : α → List D} (h : ∀ x ∈ xs, ∃ ρ1, b (enc x) ρ = some ρ1 ∧ body ρ1 = pure (f x)) : forC b body (xs.map enc) ρ = pure (xs.flatMap f) := by
  induction xs with
  | nil => rfl
  | cons x xs ih =>
    obtain ⟨ρ1, h1, h2⟩ := h x List.mem_cons_self
    simp only [List.map_cons, forC, h1, h2, pure_bindM, ih fun y hy => h y (List.mem_cons_of_mem _ hy), List.flatMap_cons]
theorem forC_filter {xs : List α} {enc : α → D} {p : α → Bool} {g : α → D} (h : ∀ x ∈ xs, ∃ ρ1, b (enc x) ρ = some ρ1 ∧ t ρ1 = pure (p x) ∧ (p x = true → el ρ1 = pure (g x))) : forC b (lcBody t el) (xs.map enc) ρ = pure ((xs.filter p).map g) := by
  rw [forC_map (f := fun x => if p x then [g x] else [])]
  · congr 1
    induction xs with
    | nil => rfl
    | cons x xs ih =>
      rw [List.flatMap_cons, ih fun y hy => h y (List.mem_cons_of_mem _ hy)]
      by_cases hp : p x = true
      · simp [hp]
      · simp [hp]
  · intro x hx
    obtain ⟨ρ1, h1, h2, h3⟩ := h x hx
    refine ⟨ρ1, h1, ?_⟩
    unfold lcBody
    rw [h2]
    by_cases hp : p x = true
    · simp [hp, h3 hp]
    · simp [hp]
theorem eLc_filter {xs : List α} {enc : α → D} {p : α → Bool} {g : α → D} (hi : it ρ = pure (xs.map enc)) (hl : xs.length ≤ sizeLine) (h : ∀ x ∈ xs, ∃ ρ1, b (enc x) (wipeE ρ own) = some ρ1 ∧ t ρ1 = pure (p x) ∧ (p x = true → el ρ1 = pure (g x))) :
    eLc it own b (lcBody t el) ρ = pure (.lst ((xs.filter p).map g)) := by
  unfold eLc
  rw [hi, pure_bindM, forC_filter h, noX_pure, pure_bindM]
  unfold mkL
  rw [if_pos]
  rw [List.length_map]
  exact Nat.le_trans (List.length_filter_le _ _) hl
theorem eLc_map {xs : List α} {enc : α → D} {g : α → D} (hi : it ρ = pure (xs.map enc)) (hl : xs.length ≤ sizeLine) (h : ∀ x ∈ xs, ∃ ρ1, b (enc x) (wipeE ρ own) = some ρ1 ∧ el ρ1 = pure (g x)) :
    eLc it own b (lcBody tTrue el) ρ = pure (.lst (xs.map g)) := by
  rw [eLc_filter (p := fun _ => true) hi hl fun x hx => ?_]
  · rw [List.filter_eq_self.mpr fun _ _ => rfl]
  · obtain ⟨ρ1, h1, h2⟩ := h x hx
    exact ⟨ρ1, h1, rfl, fun _ => h2⟩
theorem map_bl (xs : List α) (p : α → Bool) : xs.map (fun x => D.bl (p x)) = (xs.map p).map D.bl := by rw [List.map_map]; rfl
theorem eAll_map {xs : List α} {enc : α → D} {p : α → Bool} (hi : it ρ = pure (xs.map enc)) (hl : xs.length ≤ sizeLine) (h : ∀ x ∈ xs, ∃ ρ1, b (enc x) (wipeE ρ own) = some ρ1 ∧ el ρ1 = pure (.bl (p x))) :
    eF1 gAll (eLc it own b (lcBody tTrue el)) ρ = pure (.bl (xs.all p)) := by
  rw [eF1_ap, eLc_map (g := fun x => .bl (p x)) hi hl h, pure_bindM, map_bl]
  simp only [vw_lst, gAll_bools, getO_some, List.all_map]
  rfl
theorem eAny_map {xs : List α} {enc : α → D} {p : α → Bool} (hi : it ρ = pure (xs.map enc)) (hl : xs.length ≤ sizeLine) (h : ∀ x ∈ xs, ∃ ρ1, b (enc x) (wipeE ρ own) = some ρ1 ∧ el ρ1 = pure (.bl (p x))) :
    eF1 gAny (eLc it own b (lcBody tTrue el)) ρ = pure (.bl (xs.any p)) := by
  rw [eF1_ap, eLc_map (g := fun x => .bl (p x)) hi hl h, pure_bindM, map_bl]
  simp only [vw_lst, gAny_bools, getO_some, List.any_map]
  rfl
theorem eTup_filter {xs : List α} {enc : α → D} {p : α → Bool} {g : α → D} (hi : it ρ = pure (xs.map enc)) (hl : xs.length ≤ sizeLine) (h : ∀ x ∈ xs, ∃ ρ1, b (enc x) (wipeE ρ own) = some ρ1 ∧ t ρ1 = pure (p x) ∧ (p x = true → el ρ1 = pure (g x))) :
    eF1 gTuple (eLc it own b (lcBody t el)) ρ = pure (.tup ((xs.filter p).map g)) := by
  rw [eF1_ap, eLc_filter hi hl h, pure_bindM]
  rfl
theorem cut_from1 (xs : List D) : FB.cutD xs (some 1) none = xs.tail := by
  unfold FB.cutD
  rw [show HT.sIx xs.length 0 (some 1) = min 1 xs.length from HT.sIx_nat xs.length 0 1, HT.sIx_none]
  cases xs with
  | nil => rfl
  | cons x r => simp
theorem zipD_map {β : Type} (f : α → D) (g : β → D) : ∀ (xs : List α) (ys : List β), zipD (xs.map f) (ys.map g) = (xs.zip ys).map fun p => D.tup [f p.1, g p.2]
  | [], ys => by cases ys <;> rfl
  | _ :: _, [] => rfl
  | x :: xs, y :: ys => by simp [zipD, zipD_map f g xs ys]
@[simp] theorem cBT_ap {m : Envr → M (List D)} : cB tTrue m ρ = m ρ := (rfl)
theorem cB_ap {m : Envr → M (List D)} : cB t m ρ = (t ρ >>= fun ok => if ok then m ρ else pure []) := (rfl)
@[simp] theorem cN_ap {i1 : Envr → M (List D)} {m : Envr → M (List D)} : cN i1 b m ρ = (i1 ρ >>= fun ds => forC b m ds ρ) := (rfl)
@[simp] theorem cE_ap : cE el ρ = (el ρ >>= fun y => pure [y]) := (rfl)
@[simp] theorem gAll_lam {xs : List α} {p : α → Bool} : gAll (.lst (xs.map fun x => D.bl (p x))) = some (.bl (xs.all p)) := by
  rw [map_bl, gAll_bools, List.all_map]
  rfl
@[simp] theorem gAny_lam {xs : List α} {p : α → Bool} : gAny (.lst (xs.map fun x => D.bl (p x))) = some (.bl (xs.any p)) := by
  rw [map_bl, gAny_bools, List.any_map]
  rfl
/-- a loop that only goes on -/
theorem forS_fold {σ : Type} {xs : List α} {enc : α → D} {m : Envr → M Out} {env : σ → Envr} {step : σ → α → σ} (h : ∀ s x, x ∈ xs → ∃ ρ1, b (enc x) (env s) = some ρ1 ∧ m ρ1 = pure (.nx (env (step s x)))) : ∀ s : σ, forS b m (xs.map enc) (env s) = pure (.nx (env (xs.foldl step s))) := by
  induction xs with
  | nil => exact fun _ => rfl
  | cons x xs ih =>
    intro s
    obtain ⟨ρ1, h1, h2⟩ := h s x List.mem_cons_self
    simp only [List.map_cons, forS, h1, h2, pure_bindM, List.foldl_cons]
    exact ih (fun s y hy => h s y (List.mem_cons_of_mem _ hy)) _
end
end FB

/-! Nets, stands, signs as plain things. -/
namespace FB
open PySem PySem.Spec PyProof.Rows L2
abbrev Way := Int × Int × Int × Int × Int
abbrev House := List Way
abbrev Tri := Int × Int × Int
structure Net where
  wide : Int
  high : Int
  clocks : Int
  slip : Int
  houses : List House
def wayD (w : Way) : D := .tup [.int w.1, .int w.2.1, .int w.2.2.1, .int w.2.2.2.1, .int w.2.2.2.2]
def houseD (h : House) : D := .tup (h.map wayD)
def netD (n : Net) : D := .tup [.int n.wide, .int n.high, .int n.clocks, .int n.slip, .tup (n.houses.map houseD)]
def trD (s : Tri) : D := .tup [.int s.1, .int s.2.1, .int s.2.2]
def ptD (p : Int × Int) : D := .tup [.int p.1, .int p.2]
def trsD (ss : List Tri) : D := .tup (ss.map trD)
def inB (a i b : Int) : Bool := decide (a ≤ i) && decide (i ≤ b)
theorem inB_iff {a i b : Int} : inB a i b = true ↔ a ≤ i ∧ i ≤ b := by simp [inB]
def wayOk (w : Way) : Bool := inB 0 w.1 255 && inB (-50) w.2.1 100 && inB (-50) w.2.2.1 100 && inB (-7) w.2.2.2.1 7 && inB (-7) w.2.2.2.2 7
def risesB (ns : List Int) : Bool := (ns.zip ns.tail).all fun p => decide (p.1 < p.2)
def houseOk (h : House) : Bool := inB 1 h.length 3 && h.all wayOk && risesB (h.map (·.1))
def netOk (n : Net) : Bool := inB 1 n.wide 12 && inB 1 n.high 12 && inB 0 n.clocks 12 && inB 0 n.slip 4 && inB 1 n.houses.length 6 && n.houses.all houseOk
def placeStep (t : Int) (acc : Option (Int × Int)) (w : Way) : Option (Int × Int) := if w.1 ≤ t then some (w.2.1 + (t - w.1) * w.2.2.2.1, w.2.2.1 + (t - w.1) * w.2.2.2.2) else acc
def placeBy (h : House) (t : Int) : Option (Int × Int) := h.foldl (placeStep t) none
def plD : Option (Int × Int) → D
  | none => .non
  | some p => ptD p
def absI (i : Int) : Int := if i < 0 then -i else i
def farI (p q : Int × Int) : Int := max (absI (p.1 - q.1)) (absI (p.2 - q.2))
def rgI (a b : Int) : List Int := (List.range (b - a).toNat).map fun i => a + (i : Nat)
theorem rgD_rgI (a b : Int) : rgD a b = (rgI a b).map D.int := by
  unfold rgD rgI
  rw [List.map_map]
  rfl
theorem mem_rgI {a b i : Int} : i ∈ rgI a b ↔ a ≤ i ∧ i < b := by
  unfold rgI
  rw [List.mem_map]
  constructor
  · rintro ⟨k, hk, rfl⟩
    rw [List.mem_range] at hk
    omega
  · rintro ⟨h1, h2⟩
    exact ⟨(i - a).toNat, by rw [List.mem_range]; omega, by omega⟩
theorem rgI_len (a b : Int) : (rgI a b).length = (b - a).toNat := by unfold rgI; rw [List.length_map, List.length_range]
def Net.house (n : Net) (h : Int) : House := (n.houses[h.toNat]?).getD []
def standsOf (n : Net) : List Tri := (rgI 0 n.wide).flatMap fun x => (rgI 0 n.high).flatMap fun y => (rgI (-n.clocks) (n.clocks + 1)).map fun o => (x, y, o)
def dueAt (n : Net) (s : Tri) (h t : Int) : Int := t + farI ((placeBy (n.house h) t).getD (0, 0)) (s.1, s.2.1) + s.2.2
def slipBy (n : Net) (s g : Tri) : Int := g.2.2 - dueAt n s g.1 g.2.1
def fitsBy (n : Net) (s g : Tri) : Bool := decide (-n.slip ≤ slipBy n s g) && decide (slipBy n s g ≤ n.slip)
def signOk (n : Net) (g : Tri) : Bool := inB 0 g.1 (n.houses.length - 1) && inB 0 g.2.1 300 && inB (-3000) g.2.2 3000 && (placeBy (n.house g.1) g.2.1).isSome
def signsOk (n : Net) (ss : List Tri) : Bool := decide (ss.length ≤ 12) && ss.all (signOk n)
theorem mem_standsOf {n : Net} {s : Tri} : s ∈ standsOf n ↔ (0 ≤ s.1 ∧ s.1 < n.wide) ∧ (0 ≤ s.2.1 ∧ s.2.1 < n.high) ∧ (-n.clocks ≤ s.2.2 ∧ s.2.2 ≤ n.clocks) := by
  obtain ⟨x, y, o⟩ := s
  unfold standsOf
  simp only [List.mem_flatMap, List.mem_map, mem_rgI, Prod.mk.injEq]
  constructor
  · rintro ⟨x', hx, y', hy, o', ho, rfl, rfl, rfl⟩
    exact ⟨hx, hy, by omega, by omega⟩
  · rintro ⟨hx, hy, ho⟩
    exact ⟨x, hx, y, hy, o, ⟨by omega, by omega⟩, rfl, rfl, rfl⟩
end FB

/-! Lies and lots as plain things; data equal to themselves. -/
namespace FB
open PySem PySem.Spec PyProof.Rows L2
mutual
theorem eqv_refl : ∀ (n : Nat) (d : D), d.okn n = true → d.eqv d = true
  | _, .non, _ => by simp [D.eqv]
  | _, .bl _, _ => by simp [D.eqv]
  | _, .int _, _ => by simp [D.eqv]
  | _, .str _, _ => by simp [D.eqv]
  | n + 1, .tup xs, h => by simp only [D.eqv]; exact eqvs_refl n xs h
  | n + 1, .lst xs, h => by simp only [D.eqv]; exact eqvs_refl n xs h
  | 0, .tup xs, h => by simp [D.okn] at h
  | 0, .lst xs, h => by simp [D.okn] at h
  | n, .dic _, h => by cases n <;> simp [D.okn] at h
  | n, .obj _, h => by cases n <;> simp [D.okn] at h
  | n, .scr _, h => by cases n <;> simp [D.okn] at h
theorem eqvs_refl : ∀ (n : Nat) (ds : List D), ds.all (D.okn n) = true → D.eqvs ds ds = true
  | _, [], _ => by simp [D.eqvs]
  | n, d :: ds, h => by
    rw [List.all_cons, Bool.and_eq_true] at h
    simp only [D.eqvs, Bool.and_eq_true]
    exact ⟨eqv_refl n d h.1, eqvs_refl n ds h.2⟩
end
theorem gNe_self {d : D} (h : d.okn 60 = true) : gNe d d = some (.bl false) := by
  unfold gNe
  rw [if_pos ⟨h, h⟩, eqv_refl 60 d h]
  rfl
theorem gEq_self {d : D} (h : d.okn 60 = true) : gEq d d = some (.bl true) := by
  unfold gEq
  rw [if_pos ⟨h, h⟩, eqv_refl 60 d h]
theorem okn_int (n : Nat) (i : Int) : (D.int i).okn n = true := by cases n <;> rfl
theorem okn_bl (n : Nat) (i : Bool) : (D.bl i).okn n = true := by cases n <;> rfl
theorem okn_non (n : Nat) : D.non.okn n = true := by cases n <;> rfl
theorem okn_tupI (n : Nat) (k : List Int) : (tupI k).okn (n + 1) = true := okn_ints n k
theorem okn_tup (n : Nat) (xs : List D) (h : xs.all (D.okn n) = true) : (D.tup xs).okn (n + 1) = true := h
theorem okn_lst (n : Nat) (xs : List D) (h : xs.all (D.okn n) = true) : (D.lst xs).okn (n + 1) = true := h
theorem okn_map {α : Type} {f : α → D} {n : Nat} (h : ∀ x, (f x).okn n = true) (xs : List α) : (xs.map f).all (D.okn n) = true := by
  rw [List.all_eq_true]
  intro d hd
  obtain ⟨x, _, rfl⟩ := List.mem_map.mp hd
  exact h x
theorem okn_trD (n : Nat) (s : Tri) : (trD s).okn (n + 1) = true := by
  show [D.int s.1, .int s.2.1, .int s.2.2].all (D.okn n) = true
  simp [okn_int]
/-- members of int lists -/
theorem isIn_ints (i : Int) : ∀ k : List Int, isIn (.int i) (k.map D.int) = k.contains i
  | [] => rfl
  | j :: k => by
    have ih := isIn_ints i k
    unfold isIn at ih ⊢
    rw [List.map_cons, List.any_cons, ih, List.contains_cons]
    congr 1
    simp only [D.eqv]
    rw [Bool.eq_iff_iff, beq_iff_eq, beq_iff_eq]
    exact eq_comm
theorem gIn_ints (i : Int) (k : List Int) : gIn (.int i) (tupI k) = some (.bl (decide (i ∈ k))) := by
  rw [← List.contains_eq_mem]
  show (if (D.int i).okn 60 = true ∧ (k.map D.int).all (D.okn 59) = true then some (D.bl (isIn (.int i) (k.map D.int))) else none) = _
  rw [if_pos ⟨okn_int 60 i, okn_ints 59 k⟩, isIn_ints]
section
variable {S : Store} {n : Net} {s : Tri} {ss : List Tri} {k : List Int} {p : Int × Int}
@[simp] theorem vw_netD : vw S (netD n) = netD n := (rfl)
@[simp] theorem vw_trD : vw S (trD s) = trD s := (rfl)
@[simp] theorem vw_trsD : vw S (trsD ss) = trsD ss := (rfl)
@[simp] theorem vw_tupI : vw S (tupI k) = tupI k := (rfl)
@[simp] theorem vw_ptD : vw S (ptD p) = ptD p := (rfl)
@[simp] theorem gLen_trsD : gLen (trsD ss) = some (.int ss.length) := by simp [trsD]
@[simp] theorem gLen_tupI : gLen (tupI k) = some (.int k.length) := by simp [tupI]
@[simp] theorem itemsD_trsD : itemsD (trsD ss) = pure (ss.map trD) := (rfl)
@[simp] theorem itemsD_tupI : itemsD (tupI k) = pure (k.map D.int) := (rfl)
@[simp] theorem gIx_net0 : gIx (netD n) (.int 0) = some (.int n.wide) := (rfl)
@[simp] theorem gIx_net1 : gIx (netD n) (.int 1) = some (.int n.high) := (rfl)
@[simp] theorem gIx_net2 : gIx (netD n) (.int 2) = some (.int n.clocks) := (rfl)
@[simp] theorem gIx_net3 : gIx (netD n) (.int 3) = some (.int n.slip) := (rfl)
@[simp] theorem gIx_net4 : gIx (netD n) (.int 4) = some (.tup (n.houses.map houseD)) := (rfl)
@[simp] theorem gIx_tr0 : gIx (trD s) (.int 0) = some (.int s.1) := (rfl)
@[simp] theorem gIx_tr1 : gIx (trD s) (.int 1) = some (.int s.2.1) := (rfl)
@[simp] theorem gIx_tr2 : gIx (trD s) (.int 2) = some (.int s.2.2) := (rfl)
end
/-- numbered -/
def enumI {α : Type} : Nat → List α → List (Int × α)
  | _, [] => []
  | i, x :: xs => ((i : Int), x) :: enumI (i + 1) xs
theorem enumD_map {α : Type} (f : α → D) : ∀ (i : Nat) (xs : List α), enumD i (xs.map f) = (enumI i xs).map fun p => D.tup [.int p.1, f p.2]
  | _, [] => rfl
  | i, x :: xs => by
    rw [List.map_cons, enumI, List.map_cons, ← enumD_map f (i + 1) xs]
    rfl
theorem enumI_len {α : Type} : ∀ (i : Nat) (xs : List α), (enumI i xs).length = xs.length
  | _, [] => rfl
  | i, x :: xs => by rw [enumI, List.length_cons, enumI_len, List.length_cons]
theorem enumI_mem {α : Type} : ∀ {i : Nat} {xs : List α} {p : Int × α}, p ∈ enumI i xs → p.2 ∈ xs
  | _, [], _, h => by simp [enumI] at h
  | i, x :: xs, p, h => by
    rw [enumI] at h
    rcases List.mem_cons.mp h with rfl | h
    · exact List.mem_cons_self
    · exact List.mem_cons_of_mem _ (enumI_mem h)
def liesAt (n : Net) (ss : List Tri) (s : Tri) : List Int := ((enumI 0 ss).filter fun p => !fitsBy n s p.2).map (·.1)
def liesRows (n : Net) (ss : List Tri) : List (List Int) := (standsOf n).map (liesAt n ss)
def manyOf (n : Net) (ss : List Tri) : Int := minL ((liesRows n ss).map fun l => (l.length : Int))
def selOf (n : Net) (ss : List Tri) : List (List Int) := dedupK ((liesRows n ss).filter fun l => decide ((l.length : Int) = manyOf n ss))
def fewD (n : Net) (ss : List Tri) : D := .tup [.int (manyOf n ss), .tup ((sortK (selOf n ss)).map tupI)]
def sureOf (k : Nat) (rows : List (List Int)) : List Int := (rgI 0 k).filter fun i => rows.all fun l => decide (i ∈ l)
def freeOf (k : Nat) (rows : List (List Int)) : List Int := (rgI 0 k).filter fun i => !rows.any fun l => decide (i ∈ l)
def lotBut (n : Net) (ss : List Tri) (many : Int) : List Tri := (standsOf n).filter fun s => decide (((liesAt n ss s).length : Int) ≤ many)
def firmOf (n : Net) (ss : List Tri) (many : Int) : Bool := decide ((ss.length : Int) ≤ many) || !(standsOf n).any fun s => decide (1 ≤ ((liesAt n ss s).length : Int)) && decide (((liesAt n ss s).length : Int) ≤ many)
theorem standsOf_ne {n : Net} (h1 : 1 ≤ n.wide) (h2 : 1 ≤ n.high) (h3 : 0 ≤ n.clocks) : standsOf n ≠ [] := fun z => by
  have : ((0, 0, 0) : Tri) ∈ standsOf n := mem_standsOf.mpr ⟨⟨Int.le_refl _, by show (0 : Int) < n.wide; omega⟩, ⟨Int.le_refl _, by show (0 : Int) < n.high; omega⟩, by show -n.clocks ≤ 0; omega, h3⟩
  rw [z] at this
  cases this
/-- two keys, sorted -/
theorem sortK_one (a : List Int) : sortK [a] = [a] := (sortK_of (List.Perm.refl _) (List.pairwise_singleton _ _)).symm
theorem sortK_two {a b : List Int} (h : leK a b = true) : sortK [a, b] = [a, b] := (sortK_of (List.Perm.refl _) (by simp [h])).symm
theorem sortK_swap {a b : List Int} (h : leK b a = true) : sortK [a, b] = [b, a] := (sortK_of (List.Perm.swap a b []) (by simp [h])).symm
end FB

/-! Pens; runs that end well. -/
namespace FB
open PySem PySem.Spec PyProof.Rows L2
/-- a pen in the store -/
def PenOk (S : Store) (n : Nat) : Prop := ∃ p0 p1 p2 : Int, S[n]? = some (.lst [.int p0, .int p1, .int p2]) ∧ 0 ≤ p1 ∧ p1 < 2147483648
/-- m runs well from S: a result with Q, in a store with P -/
def Runs {α : Type} (m : M α) (S : Store) (Q : α → Store → Prop) : Prop := ∃ a S', m S = .ok a S' ∧ Q a S'
theorem Runs.bind {α β : Type} {m : M α} {f : α → M β} {S : Store} {Q : β → Store → Prop} (h : Runs m S fun a S' => Runs (f a) S' Q) : Runs (m >>= f) S Q := by
  obtain ⟨a, S', h1, b, S'', h2, q⟩ := h
  exact ⟨b, S'', by rw [bind_ap, h1]; exact h2, q⟩
theorem Runs.pure {α : Type} {a : α} {S : Store} {Q : α → Store → Prop} (h : Q a S) : Runs (pure a : M α) S Q := ⟨a, S, rfl, h⟩
theorem Runs.of {α : Type} {m : M α} {a : α} {S : Store} {Q : α → Store → Prop} (e : m = Pure.pure a) (h : Q a S) : Runs m S Q := ⟨a, S, by rw [e]; rfl, h⟩
theorem Runs.mono {α : Type} {m : M α} {S : Store} {Q Q' : α → Store → Prop} (h : Runs m S Q) (k : ∀ a S', Q a S' → Q' a S') : Runs m S Q' := by
  obtain ⟨a, S', h1, q⟩ := h
  exact ⟨a, S', h1, k _ _ q⟩
theorem Runs.getO {α : Type} {o : Store → Option α} {S : Store} {a : α} {Q : α → Store → Prop} (e : o S = some a) (h : Q a S) : Runs (getO o) S Q := ⟨a, S, by simp only [FB.getO, e], h⟩
section
variable {ρ ρ' : Envr} {m n : Envr → M Out} {t u : Envr → M Bool} {a b : Envr → M D} {d : D}
theorem sSeq_nx (h : m ρ = pure (.nx ρ')) : sSeq m n ρ = n ρ' := by rw [sSeq_ap, h, pure_bindM]
theorem sSeq_rt (h : m ρ = pure (.rt d)) : sSeq m n ρ = pure (.rt d) := by rw [sSeq_ap, h, pure_bindM]
theorem sIf_f (h : t ρ = pure false) : sIf t m n ρ = n ρ := by rw [sIf_ap, h, pure_bindM]; rfl
theorem sIf_t (h : t ρ = pure true) : sIf t m n ρ = m ρ := by rw [sIf_ap, h, pure_bindM]; rfl
theorem neF (ha : a ρ = pure d) (hb : b ρ = pure d) (hv : ∀ S, vw S d = d) (ho : d.okn 60 = true) : tV (eF2 gNe a b) ρ = pure false := by
  rw [tV_ap, eF2_ap, ha, pure_bindM, hb, pure_bindM]
  have e : (getO fun S => gNe (vw S d) (vw S d)) = (pure (.bl false) : M D) := by
    simp only [hv, gNe_self ho, getO_some]
  rw [e, pure_bindM, asB_bl]
theorem eqT (ha : a ρ = pure d) (hb : b ρ = pure d) (hv : ∀ S, vw S d = d) (ho : d.okn 60 = true) : eF2 gEq a b ρ = pure (.bl true) := by
  rw [eF2_ap, ha, pure_bindM, hb, pure_bindM]
  simp only [hv, gEq_self ho, getO_some]
theorem tOr_ff (h : t ρ = pure false) (h2 : u ρ = pure false) : tOr t u ρ = pure false := by rw [tOr_ap, h, pure_bindM]; simp [h2]
theorem eAnd_tt (h : a ρ = pure (.bl true)) (h2 : b ρ = pure (.bl true)) : eAnd a b ρ = pure (.bl true) := by rw [eAnd_ap, h, pure_bindM]; simp [h2]
end
end FB

namespace FBlaw
open PySem PySem.Spec PyProof.Rows L2 FB
def topS (i : Nat) : Stmt := PySem.Challenge.pw_farbeats_k49_lies_by_hand.main.body.getD i (.Pass ⟨0, 0, 0, 0⟩)
abbrev s_is_whole : Stmt := topS 6
abbrev s_is_within : Stmt := topS 7
abbrev s_rises : Stmt := topS 8
abbrev s_is_way : Stmt := topS 13
abbrev s_is_house : Stmt := topS 14
abbrev s_place_by : Stmt := topS 15
abbrev s_is_net : Stmt := topS 22
abbrev s_need_net : Stmt := topS 23
abbrev s_all_stands : Stmt := topS 24
abbrev s_far : Stmt := topS 25
abbrev s_is_sign_by : Stmt := topS 26
abbrev s_due_at : Stmt := topS 27
abbrev s_slip_by : Stmt := topS 28
abbrev s_fits_by : Stmt := topS 29
abbrev s_are_signs_by : Stmt := topS 32
abbrev s_need_signs : Stmt := topS 33
abbrev s_lies_at : Stmt := topS 36
abbrev s_told_stories : Stmt := topS 37
abbrev s_fewest_by : Stmt := topS 38
abbrev s_fewest_lies : Stmt := topS 39
abbrev s_named : Stmt := topS 40
abbrev s_need_many : Stmt := topS 41
abbrev s_lot_but : Stmt := topS 42
abbrev s_is_firm : Stmt := topS 43
abbrev s__law_cell_at : Stmt := topS 45
abbrev s__law_pen : Stmt := topS 46
abbrev s__law_draw : Stmt := topS 47
abbrev s__law_right : Stmt := topS 48
abbrev s_law : Stmt := topS 49
structure Fa where
  a_is_whole : Addr
  d_is_whole : FuncData
  a_is_within : Addr
  d_is_within : FuncData
  a_rises : Addr
  d_rises : FuncData
  a_is_way : Addr
  d_is_way : FuncData
  a_is_house : Addr
  d_is_house : FuncData
  a_place_by : Addr
  d_place_by : FuncData
  a_is_net : Addr
  d_is_net : FuncData
  a_need_net : Addr
  d_need_net : FuncData
  a_all_stands : Addr
  d_all_stands : FuncData
  a_far : Addr
  d_far : FuncData
  a_is_sign_by : Addr
  d_is_sign_by : FuncData
  a_due_at : Addr
  d_due_at : FuncData
  a_slip_by : Addr
  d_slip_by : FuncData
  a_fits_by : Addr
  d_fits_by : FuncData
  a_are_signs_by : Addr
  d_are_signs_by : FuncData
  a_need_signs : Addr
  d_need_signs : FuncData
  a_lies_at : Addr
  d_lies_at : FuncData
  a_told_stories : Addr
  d_told_stories : FuncData
  a_fewest_by : Addr
  d_fewest_by : FuncData
  a_fewest_lies : Addr
  d_fewest_lies : FuncData
  a_named : Addr
  d_named : FuncData
  a_need_many : Addr
  d_need_many : FuncData
  a_lot_but : Addr
  d_lot_but : FuncData
  a_is_firm : Addr
  d_is_firm : FuncData
  a__law_cell_at : Addr
  d__law_cell_at : FuncData
  a__law_pen : Addr
  d__law_pen : FuncData
  a__law_draw : Addr
  d__law_draw : FuncData
  a__law_right : Addr
  d__law_right : FuncData
  a_law : Addr
  d_law : FuncData
  e_NoNet : Addr
  e_NoNumber : Addr
  e_NoSigns : Addr
  v_BOUNDS : V
  u_BOUNDS : Value
  v_MOST_CLOCKS : V
  u_MOST_CLOCKS : Value
  v_MOST_HEARD : V
  u_MOST_HEARD : Value
  v_MOST_HOUSES : V
  u_MOST_HOUSES : Value
  v_MOST_LIES : V
  u_MOST_LIES : Value
  v_MOST_SIDE : V
  u_MOST_SIDE : Value
  v_MOST_SIGNS : V
  u_MOST_SIGNS : Value
  v_MOST_SLIP : V
  u_MOST_SLIP : Value
  v_MOST_TICK : V
  u_MOST_TICK : Value
  v_MOST_WAYS : V
  u_MOST_WAYS : Value
structure Tx (K : PySem.W.Frag) (mg : Str → Option Value) (F : Fa) : Prop where
  is_whole : FnAt K mg "is_whole" s_is_whole F.a_is_whole F.d_is_whole ["thing"]
  is_within : FnAt K mg "is_within" s_is_within F.a_is_within F.d_is_within ["thing", "least", "most"]
  rises : FnAt K mg "rises" s_rises F.a_rises F.d_rises ["row"]
  is_way : FnAt K mg "is_way" s_is_way F.a_is_way F.d_is_way ["thing"]
  is_house : FnAt K mg "is_house" s_is_house F.a_is_house F.d_is_house ["thing"]
  place_by : FnAt K mg "place_by" s_place_by F.a_place_by F.d_place_by ["house", "tick"]
  is_net : FnAt K mg "is_net" s_is_net F.a_is_net F.d_is_net ["thing"]
  need_net : FnAt K mg "need_net" s_need_net F.a_need_net F.d_need_net ["thing"]
  all_stands : FnAt K mg "all_stands" s_all_stands F.a_all_stands F.d_all_stands ["net"]
  far : FnAt K mg "far" s_far F.a_far F.d_far ["one", "other"]
  is_sign_by : FnAt K mg "is_sign_by" s_is_sign_by F.a_is_sign_by F.d_is_sign_by ["net", "thing"]
  due_at : FnAt K mg "due_at" s_due_at F.a_due_at F.d_due_at ["net", "stand", "house", "tick"]
  slip_by : FnAt K mg "slip_by" s_slip_by F.a_slip_by F.d_slip_by ["net", "stand", "sign"]
  fits_by : FnAt K mg "fits_by" s_fits_by F.a_fits_by F.d_fits_by ["net", "stand", "sign"]
  are_signs_by : FnAt K mg "are_signs_by" s_are_signs_by F.a_are_signs_by F.d_are_signs_by ["net", "thing"]
  need_signs : FnAt K mg "need_signs" s_need_signs F.a_need_signs F.d_need_signs ["net", "thing"]
  lies_at : FnAt K mg "lies_at" s_lies_at F.a_lies_at F.d_lies_at ["net", "signs", "stand"]
  told_stories : FnAt K mg "told_stories" s_told_stories F.a_told_stories F.d_told_stories ["net", "signs"]
  fewest_by : FnAt K mg "fewest_by" s_fewest_by F.a_fewest_by F.d_fewest_by ["net", "signs"]
  fewest_lies : FnAt K mg "fewest_lies" s_fewest_lies F.a_fewest_lies F.d_fewest_lies ["net", "signs"]
  named : FnAt K mg "named" s_named F.a_named F.d_named ["net", "signs"]
  need_many : FnAt K mg "need_many" s_need_many F.a_need_many F.d_need_many ["thing"]
  lot_but : FnAt K mg "lot_but" s_lot_but F.a_lot_but F.d_lot_but ["net", "signs", "many"]
  is_firm : FnAt K mg "is_firm" s_is_firm F.a_is_firm F.d_is_firm ["net", "signs", "many"]
  _law_cell_at : FnAt K mg "_law_cell_at" s__law_cell_at F.a__law_cell_at F.d__law_cell_at ["_law_script", "_law_k"]
  _law_pen : FnAt K mg "_law_pen" s__law_pen F.a__law_pen F.d__law_pen ["_law_cell"]
  _law_draw : FnAt K mg "_law_draw" s__law_draw F.a__law_draw F.d__law_draw ["_law_pen_here", "_law_many"]
  _law_right : FnAt K mg "_law_right" s__law_right F.a__law_right F.d__law_right ["_law_wide", "_law_one", "_law_other", "_law_more"]
  law : FnAt K mg "law" s_law F.a_law F.d_law ["_law_script"]
  x_NoNet : ExAt K mg "NoNet" F.e_NoNet
  x_NoNumber : ExAt K mg "NoNumber" F.e_NoNumber
  x_NoSigns : ExAt K mg "NoSigns" F.e_NoSigns
  c_BOUNDS : mg "BOUNDS" = some F.u_BOUNDS ∧ RelV F.v_BOUNDS F.u_BOUNDS ∧ ∀ th G, Rep K th G F.v_BOUNDS (.tup [(.tup [(.int 0), (.int 255)]), (.tup [(.int (-50)), (.int 100)]), (.tup [(.int (-50)), (.int 100)]), (.tup [(.int (-7)), (.int 7)]), (.tup [(.int (-7)), (.int 7)])])
  c_MOST_CLOCKS : mg "MOST_CLOCKS" = some F.u_MOST_CLOCKS ∧ RelV F.v_MOST_CLOCKS F.u_MOST_CLOCKS ∧ ∀ th G, Rep K th G F.v_MOST_CLOCKS (.int 12)
  c_MOST_HEARD : mg "MOST_HEARD" = some F.u_MOST_HEARD ∧ RelV F.v_MOST_HEARD F.u_MOST_HEARD ∧ ∀ th G, Rep K th G F.v_MOST_HEARD (.int 3000)
  c_MOST_HOUSES : mg "MOST_HOUSES" = some F.u_MOST_HOUSES ∧ RelV F.v_MOST_HOUSES F.u_MOST_HOUSES ∧ ∀ th G, Rep K th G F.v_MOST_HOUSES (.int 6)
  c_MOST_LIES : mg "MOST_LIES" = some F.u_MOST_LIES ∧ RelV F.v_MOST_LIES F.u_MOST_LIES ∧ ∀ th G, Rep K th G F.v_MOST_LIES (.int 12)
  c_MOST_SIDE : mg "MOST_SIDE" = some F.u_MOST_SIDE ∧ RelV F.v_MOST_SIDE F.u_MOST_SIDE ∧ ∀ th G, Rep K th G F.v_MOST_SIDE (.int 12)
  c_MOST_SIGNS : mg "MOST_SIGNS" = some F.u_MOST_SIGNS ∧ RelV F.v_MOST_SIGNS F.u_MOST_SIGNS ∧ ∀ th G, Rep K th G F.v_MOST_SIGNS (.int 12)
  c_MOST_SLIP : mg "MOST_SLIP" = some F.u_MOST_SLIP ∧ RelV F.v_MOST_SLIP F.u_MOST_SLIP ∧ ∀ th G, Rep K th G F.v_MOST_SLIP (.int 4)
  c_MOST_TICK : mg "MOST_TICK" = some F.u_MOST_TICK ∧ RelV F.v_MOST_TICK F.u_MOST_TICK ∧ ∀ th G, Rep K th G F.v_MOST_TICK (.int 300)
  c_MOST_WAYS : mg "MOST_WAYS" = some F.u_MOST_WAYS ∧ RelV F.v_MOST_WAYS F.u_MOST_WAYS ∧ ∀ th G, Rep K th G F.v_MOST_WAYS (.int 3)
  n_abs : mg "abs" = none
  n_all : mg "all" = none
  n_any : mg "any" = none
  n_bool : mg "bool" = none
  n_enumerate : mg "enumerate" = none
  n_int : mg "int" = none
  n_isinstance : mg "isinstance" = none
  n_len : mg "len" = none
  n_list : mg "list" = none
  n_max : mg "max" = none
  n_min : mg "min" = none
  n_range : mg "range" = none
  n_sorted : mg "sorted" = none
  n_tuple : mg "tuple" = none
  n_zip : mg "zip" = none
section
variable {P : Program} {w : World} {K : PySem.W.Frag} {mg : Str → Option Value} {base : Heap} {F : Fa}
/-! is_whole -/
theorem sc_is_whole : FnScope ["thing"] ["thing"] (defScope s_is_whole) := ⟨rfl, rfl, rfl, by decide +kernel, rfl, by decide +kernel, by decide +kernel⟩
def b_is_whole : Envr → M Out := (sRet (eAnd (eF1 (gIsi "int") (eV 0)) (eNot (eF1 (gIsi "bool") (eV 0)))))
def m_is_whole : List D → M D := runF 1 b_is_whole
theorem fg_is_whole (T : Tx K mg F) : FG P w K mg base 1 F.a_is_whole F.d_is_whole ["thing"] m_is_whole :=
  fg_of T.is_whole.u sc_is_whole fun cdv A outer s H E hr hgd =>
    (dss_one (ds_ret (x_and (x_isi (DX.toS (d_var 0)) T.n_isinstance T.n_int) (x_one (x_not (x_isi (DX.toS (d_var 0)) T.n_isinstance T.n_bool))))))
/-! is_within -/
theorem sc_is_within : FnScope ["thing", "least", "most"] ["thing", "least", "most"] (defScope s_is_within) := ⟨rfl, rfl, rfl, by decide +kernel, rfl, by decide +kernel, by decide +kernel⟩
def b_is_within : Envr → M Out := (sRet (eAnd (eCall 1 m_is_whole (aCons (eV 0) aNil)) (eChn gLe gLe (eV 1) (eV 0) (eV 2))))
def m_is_within : List D → M D := runF 3 b_is_within
theorem fg_is_within (T : Tx K mg F) : FG P w K mg base 2 F.a_is_within F.d_is_within ["thing", "least", "most"] m_is_within :=
  fg_of T.is_within.u sc_is_within fun cdv A outer s H E hr hgd =>
    (dss_one (ds_ret (x_and (x_fn hr hgd T.is_whole (fg_is_whole T) (takes_of rfl rfl rfl rfl) (da_cons (d_var 0) da_nil)) (x_one (x_chn o_le o_le (DX.toS (d_var 1)) (DX.toS (d_var 0)) (DX.toS (d_var 2)))))))
/-! rises -/
theorem sc_rises : FnScope ["row", "one", "later"] ["row"] (defScope s_rises) := ⟨rfl, rfl, rfl, by decide +kernel, rfl, by decide +kernel, by decide +kernel⟩
def b_rises : Envr → M Out := (sRet (eF1 gAll (eLc (iZ2 (eV 0) (eSl gSl (eV 0) (oS (eC (.int 1))) oN)) [1, 2] (bTup (bCons (bName 1) (bCons (bName 2) bNil))) (lcBody tTrue (eF2 gLt (eV 1) (eV 2))))))
def m_rises : List D → M D := runF 3 b_rises
theorem fg_rises (T : Tx K mg F) : FG P w K mg base 1 F.a_rises F.d_rises ["row"] m_rises :=
  fg_of T.rises.u sc_rises fun cdv A outer s H E hr hgd =>
    (dss_one (ds_ret (x_b1 (c_all rfl) T.n_all (DX.FtoS (x_lc [("one", 1), ("later", 2)] rfl sc_rises.nd (i_z2 (d_var 0) (x_sl (DX.toS (d_var 0)) (x_os d_int) x_on) T.n_zip) (fun s H C cl fp => (dg_tup rfl (dgs_cons (dg_name 1 sc_rises.nd) (dgs_cons (dg_name 2 sc_rises.nd) dgs_nil)) (len_cons (len_cons len_nil)))) (fun s H C cl fp => ts_nil) (fun s H C cl fp => (x_cmp (o_lt hr.units0) (DX.toS (d_var 1)) (DX.toS (d_var 2)))))))))
/-! is_way -/
theorem sc_is_way : FnScope ["thing", "one", "least", "most"] ["thing"] (defScope s_is_way) := ⟨rfl, rfl, rfl, by decide +kernel, rfl, by decide +kernel, by decide +kernel⟩
def b_is_way : Envr → M Out := (sSeq (sIf (tOr (tNot (tV (eF1 (gIsi "tuple") (eV 0)))) (tV (eF2 gNe (eF1 gLen (eV 0)) (eF1 gLen (eC (.tup [(.tup [(.int 0), (.int 255)]), (.tup [(.int (-50)), (.int 100)]), (.tup [(.int (-50)), (.int 100)]), (.tup [(.int (-7)), (.int 7)]), (.tup [(.int (-7)), (.int 7)])])))))) (sRet (eC (.bl false))) sNil) (sRet (eF1 gAll (eLc (iZ2 (eV 0) (eC (.tup [(.tup [(.int 0), (.int 255)]), (.tup [(.int (-50)), (.int 100)]), (.tup [(.int (-50)), (.int 100)]), (.tup [(.int (-7)), (.int 7)]), (.tup [(.int (-7)), (.int 7)])]))) [1, 2, 3] (bTup (bCons (bName 1) (bCons (bTup (bCons (bName 2) (bCons (bName 3) bNil))) bNil))) (lcBody tTrue (eCall 3 m_is_within (aCons (eV 1) (aCons (eV 2) (aCons (eV 3) aNil)))))))))
def m_is_way : List D → M D := runF 4 b_is_way
theorem fg_is_way (T : Tx K mg F) : FG P w K mg base 3 F.a_is_way F.d_is_way ["thing"] m_is_way :=
  fg_of T.is_way.u sc_is_way fun cdv A outer s H E hr hgd =>
    (dss_cons (ds_if (t_w (w_or (t_not (t_val (x_isi (DX.toS (d_var 0)) T.n_isinstance T.n_tuple))) (w_or1 (t_cmp (o_ne hr.units) (DX.toS (x_b1 c_len T.n_len (DX.toS (d_var 0)))) (DX.toS (x_b1 c_len T.n_len (DX.toS (x_glob T.c_BOUNDS)))))))) (dss_one (ds_ret d_bl)) dss_nil) (dss_one (ds_ret (x_b1 (c_all rfl) T.n_all (DX.FtoS (x_lc [("one", 1), ("least", 2), ("most", 3)] rfl sc_is_way.nd (i_z2 (d_var 0) (x_glob T.c_BOUNDS) T.n_zip) (fun s H C cl fp => (dg_tup rfl (dgs_cons (dg_name 1 sc_is_way.nd) (dgs_cons (dg_tup rfl (dgs_cons (dg_name 2 sc_is_way.nd) (dgs_cons (dg_name 3 sc_is_way.nd) dgs_nil)) (len_cons (len_cons len_nil))) dgs_nil)) (len_cons (len_cons len_nil)))) (fun s H C cl fp => ts_nil) (fun s H C cl fp => (x_fn hr hgd T.is_within (fg_is_within T) takes_w0 (da_cons (d_var 1) (da_cons (d_var 2) (da_cons (d_var 3) da_nil)))))))))))
/-! is_house -/
theorem sc_is_house : FnScope ["thing", "one", "way"] ["thing"] (defScope s_is_house) := ⟨rfl, rfl, rfl, by decide +kernel, rfl, by decide +kernel, by decide +kernel⟩
def b_is_house : Envr → M Out := (sSeq (sIf (tOr (tNot (tV (eF1 (gIsi "tuple") (eV 0)))) (tOr (tNot (tV (eChn gLe gLe (eC (.int 1)) (eF1 gLen (eV 0)) (eC (.int 3))))) (tNot (tV (eF1 gAll (eLc (iSeq (eV 0)) [1] (bName 1) (lcBody tTrue (eCall 1 m_is_way (aCons (eV 1) aNil))))))))) (sRet (eC (.bl false))) sNil) (sRet (eCall 1 m_rises (aCons (eLc (iSeq (eV 0)) [2] (bName 2) (lcBody tTrue (eF2 gIx (eV 2) (eC (.int 0))))) aNil))))
def m_is_house : List D → M D := runF 3 b_is_house
theorem fg_is_house (T : Tx K mg F) : FG P w K mg base 4 F.a_is_house F.d_is_house ["thing"] m_is_house :=
  fg_of T.is_house.u sc_is_house fun cdv A outer s H E hr hgd =>
    (dss_cons (ds_if (t_w (w_or (t_not (t_val (x_isi (DX.toS (d_var 0)) T.n_isinstance T.n_tuple))) (w_or (t_not (t_chn o_le o_le (DX.toS d_int) (DX.toS (x_b1 c_len T.n_len (DX.toS (d_var 0)))) (DX.toS (x_glob T.c_MOST_WAYS)))) (w_or1 (t_not (t_val (x_b1 (c_all rfl) T.n_all (DX.FtoS (x_lc [("one", 1)] rfl sc_is_house.nd (i_seq (d_var 0)) (fun s H C cl fp => (dg_name 1 sc_is_house.nd)) (fun s H C cl fp => ts_nil) (fun s H C cl fp => (x_fn hr hgd T.is_way (fg_is_way T) takes_w0 (da_cons (d_var 1) da_nil)))))))))))) (dss_one (ds_ret d_bl)) dss_nil) (dss_one (ds_ret (x_fn hr hgd T.rises (fg_rises T) (takes_of rfl rfl rfl rfl) (da_cons (DX.FtoE (x_lc [("way", 2)] rfl sc_is_house.nd (i_seq (d_var 0)) (fun s H C cl fp => (dg_name 2 sc_is_house.nd)) (fun s H C cl fp => ts_nil) (fun s H C cl fp => (x_ix (DX.toS (d_var 2)) (DX.toS d_int))))) da_nil)))))
/-! place_by -/
theorem sc_place_by : FnScope ["house", "tick", "found", "begin", "x", "y", "step_x", "step_y"] ["house", "tick"] (defScope s_place_by) := ⟨rfl, rfl, rfl, by decide +kernel, rfl, by decide +kernel, by decide +kernel⟩
def b_place_by : Envr → M Out := (sSeq (sSet 2 (eC .non)) (sSeq (sFor (iSeq (eV 0)) (bTup (bCons (bName 3) (bCons (bName 4) (bCons (bName 5) (bCons (bName 6) (bCons (bName 7) bNil)))))) (sIf (tV (eF2 gLe (eV 3) (eV 1))) (sSet 2 (eTup (aCons (eF2 gAdd (eV 4) (eF2 gMul (eF2 gSub (eV 1) (eV 3)) (eV 6))) (aCons (eF2 gAdd (eV 5) (eF2 gMul (eF2 gSub (eV 1) (eV 3)) (eV 7))) aNil)))) sNil)) (sRet (eV 2))))
def m_place_by : List D → M D := runF 8 b_place_by
theorem fg_place_by (T : Tx K mg F) : FG P w K mg base 1 F.a_place_by F.d_place_by ["house", "tick"] m_place_by :=
  fg_of T.place_by.u sc_place_by fun cdv A outer s H E hr hgd =>
    (dss_cons (ds_set (i := 2) sc_place_by.nd d_non) (dss_cons (ds_for (passes_of rfl) rfl (i_seq (d_var 0)) (dg_tup rfl (dgs_cons (dg_name 3 sc_place_by.nd) (dgs_cons (dg_name 4 sc_place_by.nd) (dgs_cons (dg_name 5 sc_place_by.nd) (dgs_cons (dg_name 6 sc_place_by.nd) (dgs_cons (dg_name 7 sc_place_by.nd) dgs_nil))))) (len_cons (len_cons (len_cons (len_cons (len_cons len_nil)))))) (dss_one (ds_if (t_cmp o_le (DX.toS (d_var 3)) (DX.toS (d_var 1))) (dss_one (ds_set (i := 2) sc_place_by.nd (x_tup (da_cons (x_op o_add (DX.toS (d_var 4)) (DX.toS (x_op o_mul (DX.toS (x_op o_sub (DX.toS (d_var 1)) (DX.toS (d_var 3)))) (DX.toS (d_var 6))))) (da_cons (x_op o_add (DX.toS (d_var 5)) (DX.toS (x_op o_mul (DX.toS (x_op o_sub (DX.toS (d_var 1)) (DX.toS (d_var 3)))) (DX.toS (d_var 7))))) da_nil))))) dss_nil))) (dss_one (ds_ret (d_var 2)))))
/-! is_net -/
theorem sc_is_net : FnScope ["thing", "wide", "high", "clocks", "slip", "houses", "one"] ["thing"] (defScope s_is_net) := ⟨rfl, rfl, rfl, by decide +kernel, rfl, by decide +kernel, by decide +kernel⟩
def b_is_net : Envr → M Out := (sSeq (sIf (tOr (tNot (tV (eF1 (gIsi "tuple") (eV 0)))) (tV (eF2 gNe (eF1 gLen (eV 0)) (eC (.int 5))))) (sRet (eC (.bl false))) sNil) (sSeq (sAsg (bTup (bCons (bName 1) (bCons (bName 2) (bCons (bName 3) (bCons (bName 4) (bCons (bName 5) bNil)))))) (eV 0)) (sSeq (sIf (tOr (tNot (tV (eCall 3 m_is_within (aCons (eV 1) (aCons (eC (.int 1)) (aCons (eC (.int 12)) aNil)))))) (tNot (tV (eCall 3 m_is_within (aCons (eV 2) (aCons (eC (.int 1)) (aCons (eC (.int 12)) aNil))))))) (sRet (eC (.bl false))) sNil) (sSeq (sIf (tOr (tNot (tV (eCall 3 m_is_within (aCons (eV 3) (aCons (eC (.int 0)) (aCons (eC (.int 12)) aNil)))))) (tNot (tV (eCall 3 m_is_within (aCons (eV 4) (aCons (eC (.int 0)) (aCons (eC (.int 4)) aNil))))))) (sRet (eC (.bl false))) sNil) (sRet (eAnd (eF1 (gIsi "tuple") (eV 5)) (eAnd (eChn gLe gLe (eC (.int 1)) (eF1 gLen (eV 5)) (eC (.int 6))) (eF1 gAll (eLc (iSeq (eV 5)) [6] (bName 6) (lcBody tTrue (eCall 1 m_is_house (aCons (eV 6) aNil))))))))))))
def m_is_net : List D → M D := runF 7 b_is_net
theorem fg_is_net (T : Tx K mg F) : FG P w K mg base 5 F.a_is_net F.d_is_net ["thing"] m_is_net :=
  fg_of T.is_net.u sc_is_net fun cdv A outer s H E hr hgd =>
    (dss_cons (ds_if (t_w (w_or (t_not (t_val (x_isi (DX.toS (d_var 0)) T.n_isinstance T.n_tuple))) (w_or1 (t_cmp (o_ne hr.units) (DX.toS (x_b1 c_len T.n_len (DX.toS (d_var 0)))) (DX.toS d_int))))) (dss_one (ds_ret d_bl)) dss_nil) (dss_cons (ds_asg (d_var 0) (dg_tup rfl (dgs_cons (dg_name 1 sc_is_net.nd) (dgs_cons (dg_name 2 sc_is_net.nd) (dgs_cons (dg_name 3 sc_is_net.nd) (dgs_cons (dg_name 4 sc_is_net.nd) (dgs_cons (dg_name 5 sc_is_net.nd) dgs_nil))))) (len_cons (len_cons (len_cons (len_cons (len_cons len_nil))))))) (dss_cons (ds_if (t_w (w_or (t_not (t_val (x_fn hr hgd T.is_within (fg_is_within T) (takes_of rfl rfl rfl rfl) (da_cons (d_var 1) (da_cons d_int (da_cons (x_glob T.c_MOST_SIDE) da_nil)))))) (w_or1 (t_not (t_val (x_fn hr hgd T.is_within (fg_is_within T) (takes_of rfl rfl rfl rfl) (da_cons (d_var 2) (da_cons d_int (da_cons (x_glob T.c_MOST_SIDE) da_nil))))))))) (dss_one (ds_ret d_bl)) dss_nil) (dss_cons (ds_if (t_w (w_or (t_not (t_val (x_fn hr hgd T.is_within (fg_is_within T) (takes_of rfl rfl rfl rfl) (da_cons (d_var 3) (da_cons d_int (da_cons (x_glob T.c_MOST_CLOCKS) da_nil)))))) (w_or1 (t_not (t_val (x_fn hr hgd T.is_within (fg_is_within T) (takes_of rfl rfl rfl rfl) (da_cons (d_var 4) (da_cons d_int (da_cons (x_glob T.c_MOST_SLIP) da_nil))))))))) (dss_one (ds_ret d_bl)) dss_nil) (dss_one (ds_ret (x_and (x_isi (DX.toS (d_var 5)) T.n_isinstance T.n_tuple) (x_and (x_chn o_le o_le (DX.toS d_int) (DX.toS (x_b1 c_len T.n_len (DX.toS (d_var 5)))) (DX.toS (x_glob T.c_MOST_HOUSES))) (x_one (x_b1 (c_all rfl) T.n_all (DX.FtoS (x_lc [("one", 6)] rfl sc_is_net.nd (i_seq (d_var 5)) (fun s H C cl fp => (dg_name 6 sc_is_net.nd)) (fun s H C cl fp => ts_nil) (fun s H C cl fp => (x_fn hr hgd T.is_house (fg_is_house T) takes_w0 (da_cons (d_var 6) da_nil)))))))))))))))
/-! need_net -/
theorem sc_need_net : FnScope ["thing"] ["thing"] (defScope s_need_net) := ⟨rfl, rfl, rfl, by decide +kernel, rfl, by decide +kernel, by decide +kernel⟩
def b_need_net : Envr → M Out := (sIf (tNot (tV (eCall 1 m_is_net (aCons (eV 0) aNil)))) (sRaise "NoNet") sNil)
def m_need_net : List D → M D := runF 1 b_need_net
theorem fg_need_net (T : Tx K mg F) : FG P w K mg base 6 F.a_need_net F.d_need_net ["thing"] m_need_net :=
  fg_of T.need_net.u sc_need_net fun cdv A outer s H E hr hgd =>
    (dss_one (ds_if (t_not (t_val (x_fn hr hgd T.is_net (fg_is_net T) (takes_of rfl rfl rfl rfl) (da_cons (d_var 0) da_nil)))) (dss_one (s_raise rfl (takes_of rfl rfl rfl rfl) T.x_NoNet)) dss_nil))
/-! all_stands -/
theorem sc_all_stands : FnScope ["net", "offs", "x", "y", "off"] ["net"] (defScope s_all_stands) := ⟨rfl, rfl, rfl, by decide +kernel, rfl, by decide +kernel, by decide +kernel⟩
def b_all_stands : Envr → M Out := (sSeq (sSet 1 (eLstR (rR2 (eF1 gNeg (eF2 gIx (eV 0) (eC (.int 2)))) (eF2 gAdd (eF2 gIx (eV 0) (eC (.int 2))) (eC (.int 1)))))) (sRet (eF1 gTuple (eLcN (iR1 (eF2 gIx (eV 0) (eC (.int 0)))) [2, 3, 4] (bName 2) (cB tTrue (cN (iR1 (eF2 gIx (eV 0) (eC (.int 1)))) (bName 3) (cB tTrue (cN (iSeq (eV 1)) (bName 4) (cB tTrue (cE (eTup (aCons (eV 2) (aCons (eV 3) (aCons (eV 4) aNil))))))))))))))
def m_all_stands : List D → M D := runF 5 b_all_stands
theorem fg_all_stands (T : Tx K mg F) : FG P w K mg base 1 F.a_all_stands F.d_all_stands ["net"] m_all_stands :=
  fg_of T.all_stands.u sc_all_stands fun cdv A outer s H E hr hgd =>
    (dss_cons (ds_set (i := 1) sc_all_stands.nd (DX.FtoE (x_listRg rfl T.n_list (r_2 (x_un o_neg (DX.toS (x_ix (DX.toS (d_var 0)) (DX.toS d_int)))) (x_op o_add (DX.toS (x_ix (DX.toS (d_var 0)) (DX.toS d_int))) (DX.toS d_int)) T.n_range)))) (dss_one (ds_ret (x_t1 rE.bk c_tuple T.n_tuple (DX.FtoS (x_lcN [("x", 2), ("y", 3), ("off", 4)] rfl sc_all_stands.nd (i_r1 (x_ix (DX.toS (d_var 0)) (DX.toS d_int)) T.n_range) (fun s H C cl fp => (l_next [3, 4] rfl rfl rfl (fun _ _ z => z) (dg_name 2 sc_all_stands.nd) (tame_name 2) ts_nil (i_r1 (x_ix (DX.toS (d_var 0)) (DX.toS d_int)) T.n_range) (l_next [4] rfl rfl rfl (fun _ _ z => z) (dg_name 3 sc_all_stands.nd) (tame_name 3) ts_nil (i_seq (d_var 1)) (l_last rfl (fun _ _ z => z) (dg_name 4 sc_all_stands.nd) (tame_name 4) ts_nil (x_tup (da_cons (d_var 2) (da_cons (d_var 3) (da_cons (d_var 4) da_nil))))))))))))))
/-! far -/
theorem sc_far : FnScope ["one", "other"] ["one", "other"] (defScope s_far) := ⟨rfl, rfl, rfl, by decide +kernel, rfl, by decide +kernel, by decide +kernel⟩
def b_far : Envr → M Out := (sRet (eF2 gMax2 (eF1 gAbs (eF2 gSub (eF2 gIx (eV 0) (eC (.int 0))) (eF2 gIx (eV 1) (eC (.int 0))))) (eF1 gAbs (eF2 gSub (eF2 gIx (eV 0) (eC (.int 1))) (eF2 gIx (eV 1) (eC (.int 1)))))))
def m_far : List D → M D := runF 2 b_far
theorem fg_far (T : Tx K mg F) : FG P w K mg base 1 F.a_far F.d_far ["one", "other"] m_far :=
  fg_of T.far.u sc_far fun cdv A outer s H E hr hgd =>
    (dss_one (ds_ret (x_b2 (c_max2 rfl) T.n_max (DX.toS (x_b1 c_abs T.n_abs (DX.toS (x_op o_sub (DX.toS (x_ix (DX.toS (d_var 0)) (DX.toS d_int))) (DX.toS (x_ix (DX.toS (d_var 1)) (DX.toS d_int))))))) (DX.toS (x_b1 c_abs T.n_abs (DX.toS (x_op o_sub (DX.toS (x_ix (DX.toS (d_var 0)) (DX.toS d_int))) (DX.toS (x_ix (DX.toS (d_var 1)) (DX.toS d_int))))))))))
/-! is_sign_by -/
theorem sc_is_sign_by : FnScope ["net", "thing"] ["net", "thing"] (defScope s_is_sign_by) := ⟨rfl, rfl, rfl, by decide +kernel, rfl, by decide +kernel, by decide +kernel⟩
def b_is_sign_by : Envr → M Out := (sSeq (sIf (tOr (tNot (tV (eF1 (gIsi "tuple") (eV 1)))) (tV (eF2 gNe (eF1 gLen (eV 1)) (eC (.int 3))))) (sRet (eC (.bl false))) sNil) (sSeq (sIf (tOr (tNot (tV (eCall 3 m_is_within (aCons (eF2 gIx (eV 1) (eC (.int 0))) (aCons (eC (.int 0)) (aCons (eF2 gSub (eF1 gLen (eF2 gIx (eV 0) (eC (.int 4)))) (eC (.int 1))) aNil)))))) (tNot (tV (eCall 3 m_is_within (aCons (eF2 gIx (eV 1) (eC (.int 1))) (aCons (eC (.int 0)) (aCons (eC (.int 300)) aNil))))))) (sRet (eC (.bl false))) sNil) (sRet (eAnd (eCall 3 m_is_within (aCons (eF2 gIx (eV 1) (eC (.int 2))) (aCons (eF1 gNeg (eC (.int 3000))) (aCons (eC (.int 3000)) aNil)))) (eF2 gNotN (eCall 2 m_place_by (aCons (eF2 gIx (eF2 gIx (eV 0) (eC (.int 4))) (eF2 gIx (eV 1) (eC (.int 0)))) (aCons (eF2 gIx (eV 1) (eC (.int 1))) aNil))) (eC .non))))))
def m_is_sign_by : List D → M D := runF 2 b_is_sign_by
theorem fg_is_sign_by (T : Tx K mg F) : FG P w K mg base 3 F.a_is_sign_by F.d_is_sign_by ["net", "thing"] m_is_sign_by :=
  fg_of T.is_sign_by.u sc_is_sign_by fun cdv A outer s H E hr hgd =>
    (dss_cons (ds_if (t_w (w_or (t_not (t_val (x_isi (DX.toS (d_var 1)) T.n_isinstance T.n_tuple))) (w_or1 (t_cmp (o_ne hr.units) (DX.toS (x_b1 c_len T.n_len (DX.toS (d_var 1)))) (DX.toS d_int))))) (dss_one (ds_ret d_bl)) dss_nil) (dss_cons (ds_if (t_w (w_or (t_not (t_val (x_fn hr hgd T.is_within (fg_is_within T) (takes_of rfl rfl rfl rfl) (da_cons (x_ix (DX.toS (d_var 1)) (DX.toS d_int)) (da_cons d_int (da_cons (x_op o_sub (DX.toS (x_b1 c_len T.n_len (DX.toS (x_ix (DX.toS (d_var 0)) (DX.toS d_int))))) (DX.toS d_int)) da_nil)))))) (w_or1 (t_not (t_val (x_fn hr hgd T.is_within (fg_is_within T) (takes_of rfl rfl rfl rfl) (da_cons (x_ix (DX.toS (d_var 1)) (DX.toS d_int)) (da_cons d_int (da_cons (x_glob T.c_MOST_TICK) da_nil))))))))) (dss_one (ds_ret d_bl)) dss_nil) (dss_one (ds_ret (x_and (x_fn hr hgd T.is_within (fg_is_within T) (takes_of rfl rfl rfl rfl) (da_cons (x_ix (DX.toS (d_var 1)) (DX.toS d_int)) (da_cons (x_un o_neg (DX.toS (x_glob T.c_MOST_HEARD))) (da_cons (x_glob T.c_MOST_HEARD) da_nil)))) (x_one (x_cmp o_notN (DX.toS (x_fn hr hgd T.place_by (fg_place_by T) (takes_of rfl rfl rfl rfl) (da_cons (x_ix (DX.toS (x_ix (DX.toS (d_var 0)) (DX.toS d_int))) (DX.toS (x_ix (DX.toS (d_var 1)) (DX.toS d_int)))) (da_cons (x_ix (DX.toS (d_var 1)) (DX.toS d_int)) da_nil)))) (DX.toS d_non))))))))
/-! due_at -/
theorem sc_due_at : FnScope ["net", "stand", "house", "tick"] ["net", "stand", "house", "tick"] (defScope s_due_at) := ⟨rfl, rfl, rfl, by decide +kernel, rfl, by decide +kernel, by decide +kernel⟩
def b_due_at : Envr → M Out := (sRet (eF2 gAdd (eF2 gAdd (eV 3) (eCall 2 m_far (aCons (eCall 2 m_place_by (aCons (eF2 gIx (eF2 gIx (eV 0) (eC (.int 4))) (eV 2)) (aCons (eV 3) aNil))) (aCons (eSl gSl (eV 1) oN (oS (eC (.int 2)))) aNil)))) (eF2 gIx (eV 1) (eC (.int 2)))))
def m_due_at : List D → M D := runF 4 b_due_at
theorem fg_due_at (T : Tx K mg F) : FG P w K mg base 2 F.a_due_at F.d_due_at ["net", "stand", "house", "tick"] m_due_at :=
  fg_of T.due_at.u sc_due_at fun cdv A outer s H E hr hgd =>
    (dss_one (ds_ret (x_op o_add (DX.toS (x_op o_add (DX.toS (d_var 3)) (DX.toS (x_fn hr hgd T.far (fg_far T) (takes_of rfl rfl rfl rfl) (da_cons (x_fn hr hgd T.place_by (fg_place_by T) (takes_of rfl rfl rfl rfl) (da_cons (x_ix (DX.toS (x_ix (DX.toS (d_var 0)) (DX.toS d_int))) (DX.toS (d_var 2))) (da_cons (d_var 3) da_nil))) (da_cons (x_sl (DX.toS (d_var 1)) x_on (x_os d_int)) da_nil)))))) (DX.toS (x_ix (DX.toS (d_var 1)) (DX.toS d_int))))))
/-! slip_by -/
theorem sc_slip_by : FnScope ["net", "stand", "sign"] ["net", "stand", "sign"] (defScope s_slip_by) := ⟨rfl, rfl, rfl, by decide +kernel, rfl, by decide +kernel, by decide +kernel⟩
def b_slip_by : Envr → M Out := (sRet (eF2 gSub (eF2 gIx (eV 2) (eC (.int 2))) (eCall 4 m_due_at (aCons (eV 0) (aCons (eV 1) (aCons (eF2 gIx (eV 2) (eC (.int 0))) (aCons (eF2 gIx (eV 2) (eC (.int 1))) aNil)))))))
def m_slip_by : List D → M D := runF 3 b_slip_by
theorem fg_slip_by (T : Tx K mg F) : FG P w K mg base 3 F.a_slip_by F.d_slip_by ["net", "stand", "sign"] m_slip_by :=
  fg_of T.slip_by.u sc_slip_by fun cdv A outer s H E hr hgd =>
    (dss_one (ds_ret (x_op o_sub (DX.toS (x_ix (DX.toS (d_var 2)) (DX.toS d_int))) (DX.toS (x_fn hr hgd T.due_at (fg_due_at T) (takes_of rfl rfl rfl rfl) (da_cons (d_var 0) (da_cons (d_var 1) (da_cons (x_ix (DX.toS (d_var 2)) (DX.toS d_int)) (da_cons (x_ix (DX.toS (d_var 2)) (DX.toS d_int)) da_nil)))))))))
/-! fits_by -/
theorem sc_fits_by : FnScope ["net", "stand", "sign"] ["net", "stand", "sign"] (defScope s_fits_by) := ⟨rfl, rfl, rfl, by decide +kernel, rfl, by decide +kernel, by decide +kernel⟩
def b_fits_by : Envr → M Out := (sRet (eChn gLe gLe (eF1 gNeg (eF2 gIx (eV 0) (eC (.int 3)))) (eCall 3 m_slip_by (aCons (eV 0) (aCons (eV 1) (aCons (eV 2) aNil)))) (eF2 gIx (eV 0) (eC (.int 3)))))
def m_fits_by : List D → M D := runF 3 b_fits_by
theorem fg_fits_by (T : Tx K mg F) : FG P w K mg base 4 F.a_fits_by F.d_fits_by ["net", "stand", "sign"] m_fits_by :=
  fg_of T.fits_by.u sc_fits_by fun cdv A outer s H E hr hgd =>
    (dss_one (ds_ret (x_chn o_le o_le (DX.toS (x_un o_neg (DX.toS (x_ix (DX.toS (d_var 0)) (DX.toS d_int))))) (DX.toS (x_fn hr hgd T.slip_by (fg_slip_by T) (takes_of rfl rfl rfl rfl) (da_cons (d_var 0) (da_cons (d_var 1) (da_cons (d_var 2) da_nil))))) (DX.toS (x_ix (DX.toS (d_var 0)) (DX.toS d_int))))))
/-! are_signs_by -/
theorem sc_are_signs_by : FnScope ["net", "thing", "one"] ["net", "thing"] (defScope s_are_signs_by) := ⟨rfl, rfl, rfl, by decide +kernel, rfl, by decide +kernel, by decide +kernel⟩
def b_are_signs_by : Envr → M Out := (sSeq (sIf (tOr (tNot (tV (eF1 (gIsi "tuple") (eV 1)))) (tV (eF2 gGt (eF1 gLen (eV 1)) (eC (.int 12))))) (sRet (eC (.bl false))) sNil) (sRet (eF1 gAll (eLc (iSeq (eV 1)) [2] (bName 2) (lcBody tTrue (eCall 2 m_is_sign_by (aCons (eV 0) (aCons (eV 2) aNil))))))))
def m_are_signs_by : List D → M D := runF 3 b_are_signs_by
theorem fg_are_signs_by (T : Tx K mg F) : FG P w K mg base 4 F.a_are_signs_by F.d_are_signs_by ["net", "thing"] m_are_signs_by :=
  fg_of T.are_signs_by.u sc_are_signs_by fun cdv A outer s H E hr hgd =>
    (dss_cons (ds_if (t_w (w_or (t_not (t_val (x_isi (DX.toS (d_var 1)) T.n_isinstance T.n_tuple))) (w_or1 (t_cmp o_gt (DX.toS (x_b1 c_len T.n_len (DX.toS (d_var 1)))) (DX.toS (x_glob T.c_MOST_SIGNS)))))) (dss_one (ds_ret d_bl)) dss_nil) (dss_one (ds_ret (x_b1 (c_all rfl) T.n_all (DX.FtoS (x_lc [("one", 2)] rfl sc_are_signs_by.nd (i_seq (d_var 1)) (fun s H C cl fp => (dg_name 2 sc_are_signs_by.nd)) (fun s H C cl fp => ts_nil) (fun s H C cl fp => (x_fn hr hgd T.is_sign_by (fg_is_sign_by T) takes_w0 (da_cons (d_var 0) (da_cons (d_var 2) da_nil))))))))))
/-! need_signs -/
theorem sc_need_signs : FnScope ["net", "thing"] ["net", "thing"] (defScope s_need_signs) := ⟨rfl, rfl, rfl, by decide +kernel, rfl, by decide +kernel, by decide +kernel⟩
def b_need_signs : Envr → M Out := (sSeq (sExpr (eCall 1 m_need_net (aCons (eV 0) aNil))) (sIf (tNot (tV (eCall 2 m_are_signs_by (aCons (eV 0) (aCons (eV 1) aNil))))) (sRaise "NoSigns") sNil))
def m_need_signs : List D → M D := runF 2 b_need_signs
theorem fg_need_signs (T : Tx K mg F) : FG P w K mg base 7 F.a_need_signs F.d_need_signs ["net", "thing"] m_need_signs :=
  fg_of T.need_signs.u sc_need_signs fun cdv A outer s H E hr hgd =>
    (dss_cons (ds_expr (x_fn hr hgd T.need_net (fg_need_net T) (takes_of rfl rfl rfl rfl) (da_cons (d_var 0) da_nil))) (dss_one (ds_if (t_not (t_val (x_fn hr hgd T.are_signs_by (fg_are_signs_by T) (takes_of rfl rfl rfl rfl) (da_cons (d_var 0) (da_cons (d_var 1) da_nil))))) (dss_one (s_raise rfl (takes_of rfl rfl rfl rfl) T.x_NoSigns)) dss_nil)))
/-! lies_at -/
theorem sc_lies_at : FnScope ["net", "signs", "stand", "number", "sign"] ["net", "signs", "stand"] (defScope s_lies_at) := ⟨rfl, rfl, rfl, by decide +kernel, rfl, by decide +kernel, by decide +kernel⟩
def b_lies_at : Envr → M Out := (sRet (eF1 gTuple (eLc (iEn (eV 1)) [3, 4] (bTup (bCons (bName 3) (bCons (bName 4) bNil))) (lcBody (tNot (tV (eCall 3 m_fits_by (aCons (eV 0) (aCons (eV 2) (aCons (eV 4) aNil)))))) (eV 3)))))
def m_lies_at : List D → M D := runF 5 b_lies_at
theorem fg_lies_at (T : Tx K mg F) : FG P w K mg base 5 F.a_lies_at F.d_lies_at ["net", "signs", "stand"] m_lies_at :=
  fg_of T.lies_at.u sc_lies_at fun cdv A outer s H E hr hgd =>
    (dss_one (ds_ret (x_t1 rE.bk c_tuple T.n_tuple (DX.FtoS (x_lc [("number", 3), ("sign", 4)] rfl sc_lies_at.nd (i_en (d_var 1) T.n_enumerate) (fun s H C cl fp => (dg_tup rfl (dgs_cons (dg_name 3 sc_lies_at.nd) (dgs_cons (dg_name 4 sc_lies_at.nd) dgs_nil)) (len_cons (len_cons len_nil)))) (fun s H C cl fp => (dts_one (t_not (t_val (x_fn hr hgd T.fits_by (fg_fits_by T) takes_w0 (da_cons (d_var 0) (da_cons (d_var 2) (da_cons (d_var 4) da_nil)))))))) (fun s H C cl fp => (d_var 3)))))))
/-! told_stories -/
theorem sc_told_stories : FnScope ["net", "signs", "stand"] ["net", "signs"] (defScope s_told_stories) := ⟨rfl, rfl, rfl, by decide +kernel, rfl, by decide +kernel, by decide +kernel⟩
def b_told_stories : Envr → M Out := (sRet (eLc (iSeq (eCall 1 m_all_stands (aCons (eV 0) aNil))) [2] (bName 2) (lcBody tTrue (eTup (aCons (eV 2) (aCons (eCall 3 m_lies_at (aCons (eV 0) (aCons (eV 1) (aCons (eV 2) aNil)))) aNil))))))
def m_told_stories : List D → M D := runF 3 b_told_stories
theorem fg_told_stories (T : Tx K mg F) : FG P w K mg base 6 F.a_told_stories F.d_told_stories ["net", "signs"] m_told_stories :=
  fg_of T.told_stories.u sc_told_stories fun cdv A outer s H E hr hgd =>
    (dss_one (ds_ret (DX.FtoE (x_lc [("stand", 2)] rfl sc_told_stories.nd (i_seq (x_fn hr hgd T.all_stands (fg_all_stands T) (takes_of rfl rfl rfl rfl) (da_cons (d_var 0) da_nil))) (fun s H C cl fp => (dg_name 2 sc_told_stories.nd)) (fun s H C cl fp => ts_nil) (fun s H C cl fp => (x_tup (da_cons (d_var 2) (da_cons (x_fn hr hgd T.lies_at (fg_lies_at T) takes_w0 (da_cons (d_var 0) (da_cons (d_var 1) (da_cons (d_var 2) da_nil)))) da_nil))))))))
/-! fewest_by -/
theorem sc_fewest_by : FnScope ["net", "signs", "rows", "many", "stand", "lies"] ["net", "signs"] (defScope s_fewest_by) := ⟨rfl, rfl, rfl, by decide +kernel, rfl, by decide +kernel, by decide +kernel⟩
def b_fewest_by : Envr → M Out := (sSeq (sSet 2 (eLc (iSeq (eCall 2 m_told_stories (aCons (eV 0) (aCons (eV 1) aNil)))) [4, 5] (bTup (bCons (bName 4) (bCons (bName 5) bNil))) (lcBody tTrue (eV 5)))) (sSeq (sSet 3 (eF1 gMinL (eLc (iSeq (eV 2)) [5] (bName 5) (lcBody tTrue (eF1 gLen (eV 5)))))) (sRet (eTup (aCons (eV 3) (aCons (eF1 gTuple (eF1 gSortS (eSc (iSeq (eV 2)) [5] (bName 5) (cB (tV (eF2 gEq (eF1 gLen (eV 5)) (eV 3))) (cE (eV 5)))))) aNil))))))
def m_fewest_by : List D → M D := runF 6 b_fewest_by
theorem fg_fewest_by (T : Tx K mg F) : FG P w K mg base 7 F.a_fewest_by F.d_fewest_by ["net", "signs"] m_fewest_by :=
  fg_of T.fewest_by.u sc_fewest_by fun cdv A outer s H E hr hgd =>
    (dss_cons (s_lc (i := 2) false [("stand", 4), ("lies", 5)] rfl sc_fewest_by.nd (i_seq (x_fn hr hgd T.told_stories (fg_told_stories T) (takes_of rfl rfl rfl rfl) (da_cons (d_var 0) (da_cons (d_var 1) da_nil)))) (fun s H C cl fp => (dg_tup rfl (dgs_cons (dg_name 4 sc_fewest_by.nd) (dgs_cons (dg_name 5 sc_fewest_by.nd) dgs_nil)) (len_cons (len_cons len_nil)))) (fun s H C cl fp => ts_nil) (fun s H C cl fp => (d_var 5))) (dss_cons (ds_set (i := 3) sc_fewest_by.nd (x_b1 (c_minL rfl) T.n_min (DX.FtoS (x_lc [("lies", 5)] rfl sc_fewest_by.nd (i_seq (d_var 2)) (fun s H C cl fp => (dg_name 5 sc_fewest_by.nd)) (fun s H C cl fp => ts_nil) (fun s H C cl fp => (x_b1 c_len T.n_len (DX.toS (d_var 5)))))))) (dss_one (ds_ret (x_tup (da_cons (d_var 3) (da_cons (x_t1 rE.bk c_tuple T.n_tuple (DX.FtoS (x_sortS rfl T.n_sorted (x_sc [("lies", 5)] rfl (hu_of hr) sc_fewest_by.nd (i_seq (d_var 2)) (fun s H C cl fp => (dg_name 5 sc_fewest_by.nd)) (tame_name 5) (fun s H C cl fp => (dts_one (t_cmp (o_eq hr.units) (DX.toS (x_b1 c_len T.n_len (DX.toS (d_var 5)))) (DX.toS (d_var 3))))) (fun s H C cl fp => (d_var 5)))))) da_nil)))))))
/-! fewest_lies -/
theorem sc_fewest_lies : FnScope ["net", "signs"] ["net", "signs"] (defScope s_fewest_lies) := ⟨rfl, rfl, rfl, by decide +kernel, rfl, by decide +kernel, by decide +kernel⟩
def b_fewest_lies : Envr → M Out := (sSeq (sExpr (eCall 2 m_need_signs (aCons (eV 0) (aCons (eV 1) aNil)))) (sRet (eCall 2 m_fewest_by (aCons (eV 0) (aCons (eV 1) aNil)))))
def m_fewest_lies : List D → M D := runF 2 b_fewest_lies
theorem fg_fewest_lies (T : Tx K mg F) : FG P w K mg base 8 F.a_fewest_lies F.d_fewest_lies ["net", "signs"] m_fewest_lies :=
  fg_of T.fewest_lies.u sc_fewest_lies fun cdv A outer s H E hr hgd =>
    (dss_cons (ds_expr (x_fn hr hgd T.need_signs (fg_need_signs T) (takes_of rfl rfl rfl rfl) (da_cons (d_var 0) (da_cons (d_var 1) da_nil)))) (dss_one (ds_ret (x_fn hr hgd T.fewest_by (fg_fewest_by T) (takes_of rfl rfl rfl rfl) (da_cons (d_var 0) (da_cons (d_var 1) da_nil))))))
/-! named -/
theorem sc_named : FnScope ["net", "signs", "rows", "sure", "free", "number", "lies"] ["net", "signs"] (defScope s_named) := ⟨rfl, rfl, rfl, by decide +kernel, rfl, by decide +kernel, by decide +kernel⟩
def b_named : Envr → M Out := (sSeq (sExpr (eCall 2 m_need_signs (aCons (eV 0) (aCons (eV 1) aNil)))) (sSeq (sSet 2 (eF2 gIx (eCall 2 m_fewest_by (aCons (eV 0) (aCons (eV 1) aNil))) (eC (.int 1)))) (sSeq (sSet 3 (eLc (iR1 (eF1 gLen (eV 1))) [5] (bName 5) (lcBody (tV (eF1 gAll (eLc (iSeq (eV 2)) [6] (bName 6) (lcBody tTrue (eF2 gIn (eV 5) (eV 6)))))) (eV 5)))) (sSeq (sSet 4 (eLc (iR1 (eF1 gLen (eV 1))) [5] (bName 5) (lcBody (tNot (tV (eF1 gAny (eLc (iSeq (eV 2)) [6] (bName 6) (lcBody tTrue (eF2 gIn (eV 5) (eV 6))))))) (eV 5)))) (sRet (eTup (aCons (eF1 gTuple (eV 3)) (aCons (eF1 gTuple (eV 4)) aNil))))))))
def m_named : List D → M D := runF 7 b_named
theorem fg_named (T : Tx K mg F) : FG P w K mg base 8 F.a_named F.d_named ["net", "signs"] m_named :=
  fg_of T.named.u sc_named fun cdv A outer s H E hr hgd =>
    (dss_cons (ds_expr (x_fn hr hgd T.need_signs (fg_need_signs T) (takes_of rfl rfl rfl rfl) (da_cons (d_var 0) (da_cons (d_var 1) da_nil)))) (dss_cons (ds_set (i := 2) sc_named.nd (x_ix (DX.toS (x_fn hr hgd T.fewest_by (fg_fewest_by T) (takes_of rfl rfl rfl rfl) (da_cons (d_var 0) (da_cons (d_var 1) da_nil)))) (DX.toS d_int))) (dss_cons (s_lc (i := 3) false [("number", 5)] rfl sc_named.nd (i_r1 (x_b1 c_len T.n_len (DX.toS (d_var 1))) T.n_range) (fun s H C cl fp => (dg_name 5 sc_named.nd)) (fun s H C cl fp => (dts_one (t_val (x_b1 (c_all rfl) T.n_all (DX.FtoS (x_lc [("lies", 6)] rfl sc_named.nd (i_seq (d_var 2)) (fun s H C cl fp => (dg_name 6 sc_named.nd)) (fun s H C cl fp => ts_nil) (fun s H C cl fp => (x_cmp (o_in (room65 hr)) (DX.toS (d_var 5)) (DX.toS (d_var 6)))))))))) (fun s H C cl fp => (d_var 5))) (dss_cons (s_lc (i := 4) false [("number", 5)] rfl sc_named.nd (i_r1 (x_b1 c_len T.n_len (DX.toS (d_var 1))) T.n_range) (fun s H C cl fp => (dg_name 5 sc_named.nd)) (fun s H C cl fp => (dts_one (t_not (t_val (x_b1 (c_any rfl) T.n_any (DX.FtoS (x_lc [("lies", 6)] rfl sc_named.nd (i_seq (d_var 2)) (fun s H C cl fp => (dg_name 6 sc_named.nd)) (fun s H C cl fp => ts_nil) (fun s H C cl fp => (x_cmp (o_in (room65 hr)) (DX.toS (d_var 5)) (DX.toS (d_var 6))))))))))) (fun s H C cl fp => (d_var 5))) (dss_one (ds_ret (x_tup (da_cons (x_t1 rE.bk c_tuple T.n_tuple (DX.toS (d_var 3))) (da_cons (x_t1 rE.bk c_tuple T.n_tuple (DX.toS (d_var 4))) da_nil)))))))))
/-! need_many -/
theorem sc_need_many : FnScope ["thing"] ["thing"] (defScope s_need_many) := ⟨rfl, rfl, rfl, by decide +kernel, rfl, by decide +kernel, by decide +kernel⟩
def b_need_many : Envr → M Out := (sIf (tNot (tV (eCall 3 m_is_within (aCons (eV 0) (aCons (eC (.int 0)) (aCons (eC (.int 12)) aNil)))))) (sRaise "NoNumber") sNil)
def m_need_many : List D → M D := runF 1 b_need_many
theorem fg_need_many (T : Tx K mg F) : FG P w K mg base 3 F.a_need_many F.d_need_many ["thing"] m_need_many :=
  fg_of T.need_many.u sc_need_many fun cdv A outer s H E hr hgd =>
    (dss_one (ds_if (t_not (t_val (x_fn hr hgd T.is_within (fg_is_within T) (takes_of rfl rfl rfl rfl) (da_cons (d_var 0) (da_cons d_int (da_cons (x_glob T.c_MOST_LIES) da_nil)))))) (dss_one (s_raise rfl (takes_of rfl rfl rfl rfl) T.x_NoNumber)) dss_nil))
/-! lot_but -/
theorem sc_lot_but : FnScope ["net", "signs", "many", "stand", "lies"] ["net", "signs", "many"] (defScope s_lot_but) := ⟨rfl, rfl, rfl, by decide +kernel, rfl, by decide +kernel, by decide +kernel⟩
def b_lot_but : Envr → M Out := (sSeq (sExpr (eCall 2 m_need_signs (aCons (eV 0) (aCons (eV 1) aNil)))) (sSeq (sExpr (eCall 1 m_need_many (aCons (eV 2) aNil))) (sRet (eF1 gTuple (eLc (iSeq (eCall 2 m_told_stories (aCons (eV 0) (aCons (eV 1) aNil)))) [3, 4] (bTup (bCons (bName 3) (bCons (bName 4) bNil))) (lcBody (tV (eF2 gLe (eF1 gLen (eV 4)) (eV 2))) (eV 3)))))))
def m_lot_but : List D → M D := runF 5 b_lot_but
theorem fg_lot_but (T : Tx K mg F) : FG P w K mg base 8 F.a_lot_but F.d_lot_but ["net", "signs", "many"] m_lot_but :=
  fg_of T.lot_but.u sc_lot_but fun cdv A outer s H E hr hgd =>
    (dss_cons (ds_expr (x_fn hr hgd T.need_signs (fg_need_signs T) (takes_of rfl rfl rfl rfl) (da_cons (d_var 0) (da_cons (d_var 1) da_nil)))) (dss_cons (ds_expr (x_fn hr hgd T.need_many (fg_need_many T) (takes_of rfl rfl rfl rfl) (da_cons (d_var 2) da_nil))) (dss_one (ds_ret (x_t1 rE.bk c_tuple T.n_tuple (DX.FtoS (x_lc [("stand", 3), ("lies", 4)] rfl sc_lot_but.nd (i_seq (x_fn hr hgd T.told_stories (fg_told_stories T) (takes_of rfl rfl rfl rfl) (da_cons (d_var 0) (da_cons (d_var 1) da_nil)))) (fun s H C cl fp => (dg_tup rfl (dgs_cons (dg_name 3 sc_lot_but.nd) (dgs_cons (dg_name 4 sc_lot_but.nd) dgs_nil)) (len_cons (len_cons len_nil)))) (fun s H C cl fp => (dts_one (t_cmp o_le (DX.toS (x_b1 c_len T.n_len (DX.toS (d_var 4)))) (DX.toS (d_var 2))))) (fun s H C cl fp => (d_var 3)))))))))
/-! is_firm -/
theorem sc_is_firm : FnScope ["net", "signs", "many", "stand", "lies"] ["net", "signs", "many"] (defScope s_is_firm) := ⟨rfl, rfl, rfl, by decide +kernel, rfl, by decide +kernel, by decide +kernel⟩
def b_is_firm : Envr → M Out := (sSeq (sExpr (eCall 2 m_need_signs (aCons (eV 0) (aCons (eV 1) aNil)))) (sSeq (sExpr (eCall 1 m_need_many (aCons (eV 2) aNil))) (sSeq (sIf (tV (eF2 gGe (eV 2) (eF1 gLen (eV 1)))) (sRet (eC (.bl true))) sNil) (sRet (eNot (eF1 gAny (eLc (iSeq (eCall 2 m_told_stories (aCons (eV 0) (aCons (eV 1) aNil)))) [3, 4] (bTup (bCons (bName 3) (bCons (bName 4) bNil))) (lcBody tTrue (eChn gLe gLe (eC (.int 1)) (eF1 gLen (eV 4)) (eV 2))))))))))
def m_is_firm : List D → M D := runF 5 b_is_firm
theorem fg_is_firm (T : Tx K mg F) : FG P w K mg base 8 F.a_is_firm F.d_is_firm ["net", "signs", "many"] m_is_firm :=
  fg_of T.is_firm.u sc_is_firm fun cdv A outer s H E hr hgd =>
    (dss_cons (ds_expr (x_fn hr hgd T.need_signs (fg_need_signs T) (takes_of rfl rfl rfl rfl) (da_cons (d_var 0) (da_cons (d_var 1) da_nil)))) (dss_cons (ds_expr (x_fn hr hgd T.need_many (fg_need_many T) (takes_of rfl rfl rfl rfl) (da_cons (d_var 2) da_nil))) (dss_cons (ds_if (t_cmp o_ge (DX.toS (d_var 2)) (DX.toS (x_b1 c_len T.n_len (DX.toS (d_var 1))))) (dss_one (ds_ret d_bl)) dss_nil) (dss_one (ds_ret (x_not (x_b1 (c_any rfl) T.n_any (DX.FtoS (x_lc [("stand", 3), ("lies", 4)] rfl sc_is_firm.nd (i_seq (x_fn hr hgd T.told_stories (fg_told_stories T) (takes_of rfl rfl rfl rfl) (da_cons (d_var 0) (da_cons (d_var 1) da_nil)))) (fun s H C cl fp => (dg_tup rfl (dgs_cons (dg_name 3 sc_is_firm.nd) (dgs_cons (dg_name 4 sc_is_firm.nd) dgs_nil)) (len_cons (len_cons len_nil)))) (fun s H C cl fp => ts_nil) (fun s H C cl fp => (x_chn o_le o_le (DX.toS d_int) (DX.toS (x_b1 c_len T.n_len (DX.toS (d_var 4)))) (DX.toS (d_var 2)))))))))))))
/-! _law_cell_at -/
theorem sc__law_cell_at : FnScope ["_law_script", "_law_k"] ["_law_script", "_law_k"] (defScope s__law_cell_at) := ⟨rfl, rfl, rfl, by decide +kernel, rfl, by decide +kernel, by decide +kernel⟩
def b__law_cell_at : Envr → M Out := (sSeq (sIf (tV (eF2 gLt (eV 1) (eF1 gLen (eV 0)))) (sRet (eF2 gIx (eV 0) (eV 1))) sNil) (sRet (eC (.int 0))))
def m__law_cell_at : List D → M D := runF 2 b__law_cell_at
theorem fg__law_cell_at (T : Tx K mg F) : FG P w K mg base 1 F.a__law_cell_at F.d__law_cell_at ["_law_script", "_law_k"] m__law_cell_at :=
  fg_of T._law_cell_at.u sc__law_cell_at fun cdv A outer s H E hr hgd =>
    (dss_cons (ds_if (t_cmp (o_lt hr.units0) (DX.toS (d_var 1)) (DX.toS (x_b1 c_len T.n_len (DX.toS (d_var 0))))) (dss_one (ds_ret (x_ix (DX.toS (d_var 0)) (DX.toS (d_var 1))))) dss_nil) (dss_one (ds_ret d_int)))
/-! _law_pen -/
theorem sc__law_pen : FnScope ["_law_cell"] ["_law_cell"] (defScope s__law_pen) := ⟨rfl, rfl, rfl, by decide +kernel, rfl, by decide +kernel, by decide +kernel⟩
def b__law_pen : Envr → M Out := (sRet (eNew (aCons (eF2 gMax2 (eC (.int 0)) (eF2 gSub (eV 0) (eF2 gPow (eC (.int 10)) (eC (.int 18))))) (aCons (eF2 gAdd (eF2 gMod (eV 0) (eC (.int 2147483629))) (eC (.int 1))) (aCons (eC (.int 0)) aNil)))))
def m__law_pen : List D → M D := runF 1 b__law_pen
theorem fg__law_pen (T : Tx K mg F) : FG P w K mg base 1 F.a__law_pen F.d__law_pen ["_law_cell"] m__law_pen :=
  fg_of T._law_pen.u sc__law_pen fun cdv A outer s H E hr hgd =>
    (dss_one (ds_ret (x_new (da_cons (x_b2 (c_max2 rfl) T.n_max (DX.toS d_int) (DX.toS (x_op o_sub (DX.toS (d_var 0)) (DX.toS (x_op o_pow (DX.toS d_int) (DX.toS d_int)))))) (da_cons (x_op o_add (DX.toS (x_op o_mod (DX.toS (d_var 0)) (DX.toS d_int))) (DX.toS d_int)) (da_cons d_int da_nil))))))
/-! _law_draw -/
theorem sc__law_draw : FnScope ["_law_pen_here", "_law_many", "_law_found", "_law_mixed"] ["_law_pen_here", "_law_many"] (defScope s__law_draw) := ⟨rfl, rfl, rfl, by decide +kernel, rfl, by decide +kernel, by decide +kernel⟩
def b__law_draw : Envr → M Out := (sSeq (sIf (tV (eF2 gGt (eF2 gIx (eV 0) (eC (.int 0))) (eC (.int 0)))) (sSeq (sSet 2 (eF2 gMod (eF2 gIx (eV 0) (eC (.int 0))) (eV 1))) (sSeq (sSetItem (eF2 gDiv (eF2 gIx (eV 0) (eC (.int 0))) (eV 1)) (eV 0) (eC (.int 0))) (sRet (eV 2)))) sNil) (sSeq (sSetItem (eF2 gAdd (eF2 gIx (eV 0) (eC (.int 2))) (eC (.int 1))) (eV 0) (eC (.int 2))) (sSeq (sSetItem (eF2 gMod (eF2 gAdd (eF2 gAdd (eF2 gMul (eF2 gIx (eV 0) (eC (.int 1))) (eC (.int 48271))) (eF2 gMul (eC (.int 1009)) (eF2 gIx (eV 0) (eC (.int 2))))) (eC (.int 7))) (eC (.int 2147483647))) (eV 0) (eC (.int 1))) (sSeq (sSet 3 (eF2 gMod (eF2 gAdd (eF2 gAdd (eF2 gMul (eF2 gIx (eV 0) (eC (.int 1))) (eF2 gIx (eV 0) (eC (.int 1)))) (eF2 gMul (eC (.int 69621)) (eF2 gIx (eV 0) (eC (.int 1))))) (eC (.int 11))) (eC (.int 2147483629)))) (sSeq (sSet 3 (eF2 gMod (eF2 gAdd (eF2 gMul (eV 3) (eV 3)) (eF2 gMul (eC (.int 40014)) (eV 3))) (eC (.int 2147483587)))) (sRet (eF2 gMod (eF2 gDiv (eV 3) (eC (.int 16))) (eV 1))))))))
def m__law_draw : List D → M D := runF 4 b__law_draw
theorem fg__law_draw (T : Tx K mg F) : FG P w K mg base 1 F.a__law_draw F.d__law_draw ["_law_pen_here", "_law_many"] m__law_draw :=
  fg_of T._law_draw.u sc__law_draw fun cdv A outer s H E hr hgd =>
    (dss_cons (ds_if (t_cmp o_gt (DX.toS (x_ix (DX.toS (d_var 0)) (DX.toS d_int))) (DX.toS d_int)) (dss_cons (ds_set (i := 2) sc__law_draw.nd (x_op o_mod (DX.toS (x_ix (DX.toS (d_var 0)) (DX.toS d_int))) (DX.toS (d_var 1)))) (dss_cons (ds_setItem (x_op o_div (DX.toS (x_ix (DX.toS (d_var 0)) (DX.toS d_int))) (DX.toS (d_var 1))) (d_var 0) d_int) (dss_one (ds_ret (d_var 2))))) dss_nil) (dss_cons (ds_setItem (x_op o_add (DX.toS (x_ix (DX.toS (d_var 0)) (DX.toS d_int))) (DX.toS d_int)) (d_var 0) d_int) (dss_cons (ds_setItem (x_op o_mod (DX.toS (x_op o_add (DX.toS (x_op o_add (DX.toS (x_op o_mul (DX.toS (x_ix (DX.toS (d_var 0)) (DX.toS d_int))) (DX.toS d_int))) (DX.toS (x_op o_mul (DX.toS d_int) (DX.toS (x_ix (DX.toS (d_var 0)) (DX.toS d_int))))))) (DX.toS d_int))) (DX.toS d_int)) (d_var 0) d_int) (dss_cons (ds_set (i := 3) sc__law_draw.nd (x_op o_mod (DX.toS (x_op o_add (DX.toS (x_op o_add (DX.toS (x_op o_mul (DX.toS (x_ix (DX.toS (d_var 0)) (DX.toS d_int))) (DX.toS (x_ix (DX.toS (d_var 0)) (DX.toS d_int))))) (DX.toS (x_op o_mul (DX.toS d_int) (DX.toS (x_ix (DX.toS (d_var 0)) (DX.toS d_int))))))) (DX.toS d_int))) (DX.toS d_int))) (dss_cons (ds_set (i := 3) sc__law_draw.nd (x_op o_mod (DX.toS (x_op o_add (DX.toS (x_op o_mul (DX.toS (d_var 3)) (DX.toS (d_var 3)))) (DX.toS (x_op o_mul (DX.toS d_int) (DX.toS (d_var 3)))))) (DX.toS d_int))) (dss_one (ds_ret (x_op o_mod (DX.toS (x_op o_div (DX.toS (d_var 3)) (DX.toS d_int))) (DX.toS (d_var 1))))))))))
/-! _law_right -/
theorem sc__law_right : FnScope ["_law_wide", "_law_one", "_law_other", "_law_more", "_law_net", "_law_mine", "_law_its", "_law_signs", "_law_few", "_law_rest", "_law_firm", "_law_late", "_law_at", "_law_many"] ["_law_wide", "_law_one", "_law_other", "_law_more"] (defScope s__law_right) := ⟨rfl, rfl, rfl, by decide +kernel, rfl, by decide +kernel, by decide +kernel⟩
def b__law_right : Envr → M Out := (sSeq (sSet 4 (eTup (aCons (eV 0) (aCons (eC (.int 1)) (aCons (eC (.int 0)) (aCons (eC (.int 0)) (aCons (eTup (aCons (eTup (aCons (eTup (aCons (eC (.int 0)) (aCons (eC (.int 0)) (aCons (eC (.int 0)) (aCons (eC (.int 0)) (aCons (eC (.int 0)) aNil)))))) aNil)) aNil)) aNil))))))) (sSeq (sPar 5 false (eLc (iR1 (eF2 gAdd (eV 3) (eC (.int 2)))) [12] (bName 12) (lcBody tTrue (eTup (aCons (eC (.int 0)) (aCons (eV 12) (aCons (eF2 gAdd (eV 12) (eV 1)) aNil)))))) 6 false (eLc (iR1 (eV 3)) [12] (bName 12) (lcBody tTrue (eTup (aCons (eC (.int 0)) (aCons (eV 12) (aCons (eF2 gAdd (eV 12) (eV 2)) aNil))))))) (sSeq (sSet 7 (eF1 gTuple (eF2 gAdd (eV 6) (eV 5)))) (sSeq (sPar 8 false (eTupR (rR1 (eV 3))) 9 false (eTupR (rR2 (eV 3) (eF2 gAdd (eF2 gMul (eC (.int 2)) (eV 3)) (eC (.int 2)))))) (sSeq (sIf (tOr (tV (eF2 gNe (eCall 2 m_fewest_lies (aCons (eV 4) (aCons (eV 7) aNil))) (eTup (aCons (eV 3) (aCons (eTup (aCons (eV 8) aNil)) aNil))))) (tV (eF2 gNe (eCall 2 m_named (aCons (eV 4) (aCons (eV 7) aNil))) (eTup (aCons (eV 8) (aCons (eV 9) aNil)))))) (sRet (eC (.bl false))) sNil) (sSeq (sIf (tOr (tV (eF2 gNe (eCall 3 m_lot_but (aCons (eV 4) (aCons (eV 7) (aCons (eV 3) aNil)))) (eTup (aCons (eTup (aCons (eV 1) (aCons (eC (.int 0)) (aCons (eC (.int 0)) aNil)))) aNil)))) (tV (eF2 gNe (eCall 3 m_lot_but (aCons (eV 4) (aCons (eV 7) (aCons (eF2 gSub (eV 3) (eC (.int 1))) aNil)))) (eTup aNil)))) (sRet (eC (.bl false))) sNil) (sSeq (sIf (tV (eF2 gNe (eCall 3 m_lot_but (aCons (eV 4) (aCons (eV 7) (aCons (eF2 gAdd (eV 3) (eC (.int 2))) aNil)))) (eF1 gTuple (eF1 gSorted (eLst (aCons (eTup (aCons (eV 1) (aCons (eC (.int 0)) (aCons (eC (.int 0)) aNil)))) (aCons (eTup (aCons (eV 2) (aCons (eC (.int 0)) (aCons (eC (.int 0)) aNil)))) aNil))))))) (sRet (eC (.bl false))) sNil) (sSeq (sSet 10 (eLc (iSeq (eTup (aCons (eC (.int 0)) (aCons (eF2 gSub (eV 3) (eC (.int 1))) (aCons (eV 3) (aCons (eF2 gAdd (eF2 gMul (eC (.int 2)) (eV 3)) (eC (.int 1))) (aCons (eF2 gAdd (eF2 gMul (eC (.int 2)) (eV 3)) (eC (.int 2))) (aCons (eC (.int 12)) aNil)))))))) [13] (bName 13) (lcBody tTrue (eCall 3 m_is_firm (aCons (eV 4) (aCons (eV 7) (aCons (eV 13) aNil))))))) (sSeq (sIf (tV (eF2 gNe (eV 10) (eLst (aCons (eC (.bl true)) (aCons (eC (.bl true)) (aCons (eC (.bl false)) (aCons (eC (.bl false)) (aCons (eC (.bl true)) (aCons (eC (.bl true)) aNil))))))))) (sRet (eC (.bl false))) sNil) (sSeq (sSet 7 (eF1 gTuple (eF2 gAdd (eV 6) (eSl gSl (eV 5) oN (oS (eV 3)))))) (sSeq (sSet 11 (eTupR (rR2 (eV 3) (eF2 gMul (eC (.int 2)) (eV 3))))) (sRet (eAnd (eF2 gEq (eCall 2 m_fewest_lies (aCons (eV 4) (aCons (eV 7) aNil))) (eTup (aCons (eV 3) (aCons (eTup (aCons (eV 8) (aCons (eV 11) aNil))) aNil)))) (eF2 gEq (eCall 2 m_named (aCons (eV 4) (aCons (eV 7) aNil))) (eTup (aCons (eTup aNil) (aCons (eTup aNil) aNil)))))))))))))))))
def m__law_right : List D → M D := runF 14 b__law_right
theorem fg__law_right (T : Tx K mg F) : FG P w K mg base 9 F.a__law_right F.d__law_right ["_law_wide", "_law_one", "_law_other", "_law_more"] m__law_right :=
  fg_of T._law_right.u sc__law_right fun cdv A outer s H E hr hgd =>
    (dss_cons (ds_set (i := 4) sc__law_right.nd (x_tup (da_cons (d_var 0) (da_cons d_int (da_cons d_int (da_cons d_int (da_cons (x_tup (da_cons (x_tup (da_cons (x_tup (da_cons d_int (da_cons d_int (da_cons d_int (da_cons d_int (da_cons d_int da_nil)))))) da_nil)) da_nil)) da_nil))))))) (dss_cons (ds_par (i := 5) (j := 6) (b1 := false) (b2 := false) rfl sc__law_right.nd (DX.FtoE (x_lc [("_law_at", 12)] rfl sc__law_right.nd (i_r1 (x_op o_add (DX.toS (d_var 3)) (DX.toS d_int)) T.n_range) (fun s H C cl fp => (dg_name 12 sc__law_right.nd)) (fun s H C cl fp => ts_nil) (fun s H C cl fp => (x_tup (da_cons d_int (da_cons (d_var 12) (da_cons (x_op o_add (DX.toS (d_var 12)) (DX.toS (d_var 1))) da_nil))))))) (DX.FtoE (x_lc [("_law_at", 12)] rfl sc__law_right.nd (i_r1 (d_var 3) T.n_range) (fun s H C cl fp => (dg_name 12 sc__law_right.nd)) (fun s H C cl fp => ts_nil) (fun s H C cl fp => (x_tup (da_cons d_int (da_cons (d_var 12) (da_cons (x_op o_add (DX.toS (d_var 12)) (DX.toS (d_var 2))) da_nil)))))))) (dss_cons (ds_set (i := 7) sc__law_right.nd (x_t1 rE.bk c_tuple T.n_tuple (DX.toS (x_op o_add (DX.toS (d_var 6)) (DX.toS (d_var 5)))))) (dss_cons (ds_par (i := 8) (j := 9) (b1 := false) (b2 := false) rfl sc__law_right.nd (x_tupRg rfl T.n_tuple (r_1 (d_var 3) T.n_range)) (x_tupRg rfl T.n_tuple (r_2 (d_var 3) (x_op o_add (DX.toS (x_op o_mul (DX.toS d_int) (DX.toS (d_var 3)))) (DX.toS d_int)) T.n_range))) (dss_cons (ds_if (t_w (w_or (t_cmp (o_ne hr.units) (DX.toS (x_fn hr hgd T.fewest_lies (fg_fewest_lies T) (takes_of rfl rfl rfl rfl) (da_cons (d_var 4) (da_cons (d_var 7) da_nil)))) (DX.toS (x_tup (da_cons (d_var 3) (da_cons (x_tup (da_cons (d_var 8) da_nil)) da_nil))))) (w_or1 (t_cmp (o_ne hr.units) (DX.toS (x_fn hr hgd T.named (fg_named T) (takes_of rfl rfl rfl rfl) (da_cons (d_var 4) (da_cons (d_var 7) da_nil)))) (DX.toS (x_tup (da_cons (d_var 8) (da_cons (d_var 9) da_nil)))))))) (dss_one (ds_ret d_bl)) dss_nil) (dss_cons (ds_if (t_w (w_or (t_cmp (o_ne hr.units) (DX.toS (x_fn hr hgd T.lot_but (fg_lot_but T) (takes_of rfl rfl rfl rfl) (da_cons (d_var 4) (da_cons (d_var 7) (da_cons (d_var 3) da_nil))))) (DX.toS (x_tup (da_cons (x_tup (da_cons (d_var 1) (da_cons d_int (da_cons d_int da_nil)))) da_nil)))) (w_or1 (t_cmp (o_ne hr.units) (DX.toS (x_fn hr hgd T.lot_but (fg_lot_but T) (takes_of rfl rfl rfl rfl) (da_cons (d_var 4) (da_cons (d_var 7) (da_cons (x_op o_sub (DX.toS (d_var 3)) (DX.toS d_int)) da_nil))))) (DX.toS (x_tup da_nil)))))) (dss_one (ds_ret d_bl)) dss_nil) (dss_cons (ds_if (t_cmp (o_ne hr.units) (DX.toS (x_fn hr hgd T.lot_but (fg_lot_but T) (takes_of rfl rfl rfl rfl) (da_cons (d_var 4) (da_cons (d_var 7) (da_cons (x_op o_add (DX.toS (d_var 3)) (DX.toS d_int)) da_nil))))) (DX.toS (x_t1 rE.bk c_tuple T.n_tuple (DX.FtoS (x_sort (room65 hr) T.n_sorted (DX.FtoS (x_lst (da_cons (x_tup (da_cons (d_var 1) (da_cons d_int (da_cons d_int da_nil)))) (da_cons (x_tup (da_cons (d_var 2) (da_cons d_int (da_cons d_int da_nil)))) da_nil))))))))) (dss_one (ds_ret d_bl)) dss_nil) (dss_cons (s_lc (i := 10) false [("_law_many", 13)] rfl sc__law_right.nd (i_seq (x_tup (da_cons d_int (da_cons (x_op o_sub (DX.toS (d_var 3)) (DX.toS d_int)) (da_cons (d_var 3) (da_cons (x_op o_add (DX.toS (x_op o_mul (DX.toS d_int) (DX.toS (d_var 3)))) (DX.toS d_int)) (da_cons (x_op o_add (DX.toS (x_op o_mul (DX.toS d_int) (DX.toS (d_var 3)))) (DX.toS d_int)) (da_cons d_int da_nil)))))))) (fun s H C cl fp => (dg_name 13 sc__law_right.nd)) (fun s H C cl fp => ts_nil) (fun s H C cl fp => (x_fn hr hgd T.is_firm (fg_is_firm T) takes_w0 (da_cons (d_var 4) (da_cons (d_var 7) (da_cons (d_var 13) da_nil)))))) (dss_cons (ds_if (t_cmp (o_ne hr.units) (DX.toS (d_var 10)) (DX.FtoS (x_lst (da_cons d_bl (da_cons d_bl (da_cons d_bl (da_cons d_bl (da_cons d_bl (da_cons d_bl da_nil))))))))) (dss_one (ds_ret d_bl)) dss_nil) (dss_cons (ds_set (i := 7) sc__law_right.nd (x_t1 rE.bk c_tuple T.n_tuple (DX.toS (x_op o_add (DX.toS (d_var 6)) (DX.toS (x_sl (DX.toS (d_var 5)) x_on (x_os (d_var 3)))))))) (dss_cons (ds_set (i := 11) sc__law_right.nd (x_tupRg rfl T.n_tuple (r_2 (d_var 3) (x_op o_mul (DX.toS d_int) (DX.toS (d_var 3))) T.n_range))) (dss_one (ds_ret (x_and (x_cmp (o_eq hr.units) (DX.toS (x_fn hr hgd T.fewest_lies (fg_fewest_lies T) (takes_of rfl rfl rfl rfl) (da_cons (d_var 4) (da_cons (d_var 7) da_nil)))) (DX.toS (x_tup (da_cons (d_var 3) (da_cons (x_tup (da_cons (d_var 8) (da_cons (d_var 11) da_nil))) da_nil))))) (x_one (x_cmp (o_eq hr.units) (DX.toS (x_fn hr hgd T.named (fg_named T) (takes_of rfl rfl rfl rfl) (da_cons (d_var 4) (da_cons (d_var 7) da_nil)))) (DX.toS (x_tup (da_cons (x_tup da_nil) (da_cons (x_tup da_nil) da_nil))))))))))))))))))))
/-! law -/
theorem sc_law : FnScope ["_law_script", "_law_k", "_law_pen_here", "_law_wide", "_law_one", "_law_other"] ["_law_script"] (defScope s_law) := ⟨rfl, rfl, rfl, by decide +kernel, rfl, by decide +kernel, by decide +kernel⟩
def b_law : Envr → M Out := (sSeq (sFor (iR1 (eF2 gMax2 (eC (.int 1)) (eF2 gMin2 (eF1 gLen (eV 0)) (eC (.int 4))))) (bName 1) (sSeq (sSet 2 (eCall 1 m__law_pen (aCons (eCall 2 m__law_cell_at (aCons (eV 0) (aCons (eV 1) aNil))) aNil))) (sSeq (sSet 3 (eF2 gAdd (eC (.int 5)) (eCall 2 m__law_draw (aCons (eV 2) (aCons (eC (.int 6)) aNil))))) (sSeq (sSet 4 (eCall 2 m__law_draw (aCons (eV 2) (aCons (eV 3) aNil)))) (sSeq (sSet 5 (eF2 gMod (eF2 gAdd (eF2 gAdd (eV 4) (eC (.int 1))) (eCall 2 m__law_draw (aCons (eV 2) (aCons (eF2 gSub (eV 3) (eC (.int 1))) aNil)))) (eV 3))) (sIf (tNot (tV (eCall 4 m__law_right (aCons (eV 3) (aCons (eV 4) (aCons (eV 5) (aCons (eF2 gAdd (eC (.int 1)) (eCall 2 m__law_draw (aCons (eV 2) (aCons (eC (.int 5)) aNil)))) aNil))))))) (sRet (eC (.bl false))) sNil)))))) (sRet (eC (.bl true))))
def m_law : List D → M D := runF 6 b_law
theorem fg_law (T : Tx K mg F) : FG P w K mg base 10 F.a_law F.d_law ["_law_script"] m_law :=
  fg_of T.law.u sc_law fun cdv A outer s H E hr hgd =>
    (dss_cons (ds_for (passes_of rfl) rfl (i_r1 (x_b2 (c_max2 rfl) T.n_max (DX.toS d_int) (DX.toS (x_b2 (c_min2 rfl) T.n_min (DX.toS (x_b1 c_len T.n_len (DX.toS (d_var 0)))) (DX.toS d_int)))) T.n_range) (dg_name 1 sc_law.nd) (dss_cons (ds_set (i := 2) sc_law.nd (x_fn hr hgd T._law_pen (fg__law_pen T) (takes_of rfl rfl rfl rfl) (da_cons (x_fn hr hgd T._law_cell_at (fg__law_cell_at T) (takes_of rfl rfl rfl rfl) (da_cons (d_var 0) (da_cons (d_var 1) da_nil))) da_nil))) (dss_cons (ds_set (i := 3) sc_law.nd (x_op o_add (DX.toS d_int) (DX.toS (x_fn hr hgd T._law_draw (fg__law_draw T) (takes_of rfl rfl rfl rfl) (da_cons (d_var 2) (da_cons d_int da_nil)))))) (dss_cons (ds_set (i := 4) sc_law.nd (x_fn hr hgd T._law_draw (fg__law_draw T) (takes_of rfl rfl rfl rfl) (da_cons (d_var 2) (da_cons (d_var 3) da_nil)))) (dss_cons (ds_set (i := 5) sc_law.nd (x_op o_mod (DX.toS (x_op o_add (DX.toS (x_op o_add (DX.toS (d_var 4)) (DX.toS d_int))) (DX.toS (x_fn hr hgd T._law_draw (fg__law_draw T) (takes_of rfl rfl rfl rfl) (da_cons (d_var 2) (da_cons (x_op o_sub (DX.toS (d_var 3)) (DX.toS d_int)) da_nil)))))) (DX.toS (d_var 3)))) (dss_one (ds_if (t_not (t_val (x_fn hr hgd T._law_right (fg__law_right T) (takes_of rfl rfl rfl rfl) (da_cons (d_var 3) (da_cons (d_var 4) (da_cons (d_var 5) (da_cons (x_op o_add (DX.toS d_int) (DX.toS (x_fn hr hgd T._law_draw (fg__law_draw T) (takes_of rfl rfl rfl rfl) (da_cons (d_var 2) (da_cons d_int da_nil))))) da_nil))))))) (dss_one (ds_ret d_bl)) dss_nil))))))) (dss_one (ds_ret d_bl)))
end
theorem q_is_whole (i : Int) : m_is_whole [.int i] = pure (.bl true) := by
  simp [m_is_whole, b_is_whole, runF_ap, startE]
theorem q_is_within (i a b : Int) : m_is_within [.int i, .int a, .int b] = pure (.bl (inB a i b)) := by
  simp only [m_is_within, b_is_within, runF_ap, startE]
  by_cases h : a ≤ i
  · simp [q_is_whole, inB, h]
  · simp [q_is_whole, inB, h]
theorem q_is_way (w : Way) : m_is_way [wayD w] = pure (.bl (wayOk w)) := by
  simp only [m_is_way, b_is_way, runF_ap, startE, wayD]
  simp [q_is_within, eLc, forC, zipD, lcBody, mkL, gNe, gAll, bools?, D.okn, D.eqv, wayOk, sizeLine_eq, Bool.and_assoc]
theorem q_rises (ns : List Int) (h : ns.length ≤ 1000) : m_rises [.lst (ns.map D.int)] = pure (.bl (risesB ns)) := by
  simp only [m_rises, b_rises, runF_ap, startE]
  rw [sRet_ap, eF1_ap, eLc_map (xs := ns.zip ns.tail) (enc := fun p => D.tup [.int p.1, .int p.2]) (g := fun p => .bl (decide (p.1 < p.2)))]
  · simp [risesB]
  · simp [cut_from1]
    rw [← List.map_tail, zipD_map]
  · rw [List.length_zip, sizeLine_eq]; omega
  · intro p _
    simp
theorem q_is_house (h : House) : m_is_house [houseD h] = pure (.bl (houseOk h)) := by
  simp only [m_is_house, b_is_house, runF_ap, startE, houseD]
  by_cases h1 : inB 1 h.length 3 = true
  · have h3 := inB_iff.mp h1
    have hall : eLc (iSeq (eV 0)) [1] (bName 1) (lcBody tTrue (eCall 1 m_is_way (aCons (eV 1) aNil))) [Sl.dat (.tup (h.map wayD)), Sl.no, Sl.no] = pure (.lst (h.map fun w => .bl (wayOk w))) := by
      refine eLc_map (xs := h) (enc := wayD) (by simp) (by rw [sizeLine_eq]; omega) fun w _ => ?_
      simp [q_is_way]
    have hmap : eLc (iSeq (eV 0)) [2] (bName 2) (lcBody tTrue (eF2 gIx (eV 2) (eC (.int 0)))) [Sl.dat (.tup (h.map wayD)), Sl.no, Sl.no] = pure (.lst (h.map fun w => .int w.1)) := by
      refine eLc_map (xs := h) (enc := wayD) (by simp) (by rw [sizeLine_eq]; omega) fun w _ => ?_
      simp [wayD, atI, ixN]
    have hr := q_rises (h.map (·.1)) (by rw [List.length_map]; omega)
    rw [List.map_map] at hr
    simp only [Function.comp_def] at hr
    have l1 : (1 : Int) ≤ h.length := h3.1
    have l2 : (h.length : Int) ≤ 3 := h3.2
    cases hw : h.all wayOk with
    | true => simp [hall, hmap, l1, l2, houseOk, h1, hw, hr, Function.comp_def]
    | false => simp [hall, l1, l2, houseOk, h1, hw]
  · have h2 : ¬ (1 ≤ (h.length : Int) ∧ (h.length : Int) ≤ 3) := fun z => h1 (inB_iff.mpr z)
    by_cases l1 : 1 ≤ (h.length : Int)
    · have l2 : ¬ (h.length : Int) ≤ 3 := fun z => h2 ⟨l1, z⟩
      simp [houseOk, h1, l1, l2]
    · simp [houseOk, h1, l1]
theorem q_is_net (n : Net) : m_is_net [netD n] = pure (.bl (netOk n)) := by
  simp only [m_is_net, b_is_net, runF_ap, startE, netD]
  cases hw : inB 1 n.wide 12 with
  | false => simp [q_is_within, netOk, hw, gNe, D.okn, D.eqv]
  | true =>
    cases hh : inB 1 n.high 12 with
    | false => simp [q_is_within, netOk, hw, hh, gNe, D.okn, D.eqv]
    | true =>
      cases hc : inB 0 n.clocks 12 with
      | false => simp [q_is_within, netOk, hw, hh, hc, gNe, D.okn, D.eqv]
      | true =>
        cases hs : inB 0 n.slip 4 with
        | false => simp [q_is_within, netOk, hw, hh, hc, hs, gNe, D.okn, D.eqv]
        | true =>
          by_cases h1 : inB 1 n.houses.length 6 = true
          · have h3 := inB_iff.mp h1
            have hall : ∀ w hh c sl : D, eLc (iSeq (eV 5)) [6] (bName 6) (lcBody tTrue (eCall 1 m_is_house (aCons (eV 6) aNil))) [Sl.dat (netD n), Sl.dat w, Sl.dat hh, Sl.dat c, Sl.dat sl, Sl.dat (.tup (n.houses.map houseD)), Sl.no] = pure (.lst (n.houses.map fun h => .bl (houseOk h))) := fun w hh c sl => by
              refine eLc_map (xs := n.houses) (enc := houseD) (by simp) (by rw [sizeLine_eq]; omega) fun h _ => ?_
              simp [q_is_house]
            have l1 : (1 : Int) ≤ n.houses.length := h3.1
            have l2 : (n.houses.length : Int) ≤ 6 := h3.2
            unfold netD at hall
            simp [q_is_within, hall, l1, l2, netOk, h1, hw, hh, hc, hs, gNe, D.okn, D.eqv]
          · have h2 : ¬ (1 ≤ (n.houses.length : Int) ∧ (n.houses.length : Int) ≤ 6) := fun z => h1 (inB_iff.mpr z)
            by_cases l1 : 1 ≤ (n.houses.length : Int)
            · have l2 : ¬ (n.houses.length : Int) ≤ 6 := fun z => h2 ⟨l1, z⟩
              simp [q_is_within, l1, l2, netOk, h1, hw, hh, hc, hs, gNe, D.okn, D.eqv]
            · simp [q_is_within, l1, netOk, h1, hw, hh, hc, hs, gNe, D.okn, D.eqv]
theorem q_need_net {n : Net} (h : netOk n = true) : m_need_net [netD n] = pure .non := by
  simp only [m_need_net, b_need_net, runF_ap, startE]
  simp [q_is_net, h]
theorem q_far (p q : Int × Int) : m_far [ptD p, ptD q] = pure (.int (farI p q)) := rfl
/-- steps that are not too great -/
def stepsOk (h : House) : Bool := h.all fun w => inB (-7) w.2.2.2.1 7 && inB (-7) w.2.2.2.2 7
theorem stepsOk_of {h : House} (hk : houseOk h = true) : stepsOk h = true := by
  simp only [houseOk, Bool.and_eq_true, List.all_eq_true] at hk
  refine List.all_eq_true.mpr fun w hw => ?_
  have := hk.1.2 w hw
  simp only [wayOk, Bool.and_eq_true] at this
  rw [Bool.and_eq_true]
  exact ⟨this.1.2, this.2⟩
theorem q_place_by (h : House) (t : Int) (hs : stepsOk h = true) : m_place_by [houseD h, .int t] = pure (plD (placeBy h t)) := by
  simp only [m_place_by, b_place_by, runF_ap, startE, houseD]
  simp only [sSeq_ap, sSet_ap, eC_ap, pure_bindM, sFor_ap, iSeq_ap, List.map_cons, List.map_nil, List.cons_append, List.nil_append, List.length_cons, List.length_nil]
  have e0 : List.replicate (8 - (0 + 1 + 1)) Sl.no = [Sl.no, Sl.no, Sl.no, Sl.no, Sl.no, Sl.no] := rfl
  rw [e0]
  simp only [List.set_cons_succ, List.set_cons_zero, eV_ap, List.getElem?_cons_zero, pure_bindM, itemsD_tup]
  have loop := forS_fold (xs := h) (enc := wayD) (b := bTup (bCons (bName 3) (bCons (bName 4) (bCons (bName 5) (bCons (bName 6) (bCons (bName 7) bNil))))))
    (m := sIf (tV (eF2 gLe (eV 3) (eV 1))) (sSet 2 (eTup (aCons (eF2 gAdd (eV 4) (eF2 gMul (eF2 gSub (eV 1) (eV 3)) (eV 6))) (aCons (eF2 gAdd (eV 5) (eF2 gMul (eF2 gSub (eV 1) (eV 3)) (eV 7))) aNil)))) sNil)
    (env := fun s : Option (Int × Int) × (Sl × Sl × Sl × Sl × Sl) => [Sl.dat (.tup (h.map wayD)), Sl.dat (.int t), Sl.dat (plD s.1), s.2.1, s.2.2.1, s.2.2.2.1, s.2.2.2.2.1, s.2.2.2.2.2])
    (step := fun s w => (placeStep t s.1 w, .dat (.int w.1), .dat (.int w.2.1), .dat (.int w.2.2.1), .dat (.int w.2.2.2.1), .dat (.int w.2.2.2.2))) (fun s w hw => ?_) (none, .no, .no, .no, .no, .no)
  · simp only [plD] at loop
    rw [loop]
    have key : ∀ (xs : House) (s : Option (Int × Int) × (Sl × Sl × Sl × Sl × Sl)), (xs.foldl (fun (s : Option (Int × Int) × (Sl × Sl × Sl × Sl × Sl)) (w : Way) => (placeStep t s.1 w, (Sl.dat (.int w.1), Sl.dat (.int w.2.1), Sl.dat (.int w.2.2.1), Sl.dat (.int w.2.2.2.1), Sl.dat (.int w.2.2.2.2)))) s).1 = xs.foldl (placeStep t) s.1 := by
      intro xs
      induction xs with
      | nil => intro _; rfl
      | cons x xs ih => intro s; simp only [List.foldl_cons]; rw [ih]
    simp [placeBy, key]
    rfl
  · have hb := List.all_eq_true.mp hs w hw
    rw [Bool.and_eq_true, inB_iff, inB_iff] at hb
    obtain ⟨⟨a1, a2⟩, a3, a4⟩ := hb
    by_cases hle : w.1 ≤ t
    · simp [wayD, placeStep, hle, plD, ptD, sizeLine_eq]
      have b1 : -18446744073709551616 < w.2.2.2.1 ∧ w.2.2.2.1 < 18446744073709551616 := by omega
      have b2 : -18446744073709551616 < w.2.2.2.2 ∧ w.2.2.2.2 < 18446744073709551616 := by omega
      simp [b1, b2]
    · simp [wayD, placeStep, hle]
theorem houseOk_in {n : Net} (h : netOk n = true) {i : Int} (h0 : 0 ≤ i) (h1 : i < n.houses.length) : houseOk (n.house i) = true := by
  simp only [netOk, Bool.and_eq_true] at h
  have hi : i.toNat < n.houses.length := by omega
  unfold Net.house
  rw [List.getElem?_eq_getElem hi]
  exact List.all_eq_true.mp h.2 _ (List.getElem_mem hi)
theorem house_ix (n : Net) {i : Int} (h0 : 0 ≤ i) (h1 : i < n.houses.length) : atI (n.houses.map houseD) i = some (houseD (n.house i)) := by
  obtain ⟨k, rfl⟩ := Int.eq_ofNat_of_zero_le h0
  have hk : k < n.houses.length := by omega
  rw [FB.atI_nat, List.getElem?_map, List.getElem?_eq_getElem hk]
  simp [Net.house, List.getElem?_eq_getElem hk]
theorem clocks_of {n : Net} (h : netOk n = true) : (1 ≤ n.wide ∧ n.wide ≤ 12) ∧ (1 ≤ n.high ∧ n.high ≤ 12) ∧ (0 ≤ n.clocks ∧ n.clocks ≤ 12) ∧ (0 ≤ n.slip ∧ n.slip ≤ 4) ∧ 1 ≤ (n.houses.length : Int) ∧ (n.houses.length : Int) ≤ 6 := by
  simp only [netOk, Bool.and_eq_true, inB_iff] at h
  exact ⟨h.1.1.1.1.1, h.1.1.1.1.2, h.1.1.1.2, h.1.1.2, h.1.2⟩
theorem flat_len {α β : Type} {f : α → List β} {k : Nat} : ∀ {xs : List α}, (∀ x ∈ xs, (f x).length ≤ k) → (xs.flatMap f).length ≤ xs.length * k
  | [], _ => by simp
  | x :: xs, h => by
    rw [List.flatMap_cons, List.length_append, List.length_cons, Nat.add_mul, Nat.one_mul]
    have h1 := h x List.mem_cons_self
    have h2 := flat_len (xs := xs) fun y hy => h y (List.mem_cons_of_mem _ hy)
    omega
theorem standsOf_len {n : Net} (h : netOk n = true) : (standsOf n).length ≤ 3600 := by
  obtain ⟨h1, h2, h3, _⟩ := clocks_of h
  have a : ∀ x ∈ rgI 0 n.wide, ((rgI 0 n.high).flatMap fun y => (rgI (-n.clocks) (n.clocks + 1)).map fun o => ((x, y, o) : Tri)).length ≤ 12 * 25 := fun x _ => by
    refine Nat.le_trans (flat_len (k := 25) fun y _ => ?_) (Nat.mul_le_mul_right _ ?_)
    · rw [List.length_map, rgI_len]; omega
    · rw [rgI_len]; omega
  refine Nat.le_trans (flat_len a) ?_
  rw [rgI_len]
  exact Nat.mul_le_mul_right (12 * 25) (show (n.wide - 0).toNat ≤ 12 by omega)
theorem q_all_stands {n : Net} (h : netOk n = true) : m_all_stands [netD n] = pure (.tup ((standsOf n).map trD)) := by
  obtain ⟨h1, h2, h3, _⟩ := clocks_of h
  simp only [m_all_stands, b_all_stands, runF_ap, startE, netD]
  have r0 : rgOk2 (-n.clocks) (n.clocks + 1) = true := by
    simp only [rgOk2, rgOk, Bool.and_eq_true, decide_eq_true_eq]
    omega
  have r1 : rgOk 0 n.wide = true := by simp only [rgOk, decide_eq_true_eq]; omega
  have r2 : rgOk 0 n.high = true := by simp only [rgOk, decide_eq_true_eq]; omega
  have key : eLcN (iR1 (eF2 gIx (eV 0) (eC (.int 0)))) [2, 3, 4] (bName 2) (cB tTrue (cN (iR1 (eF2 gIx (eV 0) (eC (.int 1)))) (bName 3) (cB tTrue (cN (iSeq (eV 1)) (bName 4) (cB tTrue (cE (eTup (aCons (eV 2) (aCons (eV 3) (aCons (eV 4) aNil)))))))))) [Sl.dat (netD n), Sl.dat (.lst ((rgI (-n.clocks) (n.clocks + 1)).map D.int)), Sl.no, Sl.no, Sl.no] = pure (.lst ((standsOf n).map trD)) := by
    unfold eLcN
    have e0 : iR1 (eF2 gIx (eV 0) (eC (.int 0))) [Sl.dat (netD n), Sl.dat (.lst ((rgI (-n.clocks) (n.clocks + 1)).map D.int)), Sl.no, Sl.no, Sl.no] = pure ((rgI 0 n.wide).map D.int) := by
      simp [netD, atI, ixN, r1, rgD_rgI]
    rw [e0, pure_bindM]
    rw [forC_map (f := fun x => ((rgI 0 n.high).flatMap fun y => (rgI (-n.clocks) (n.clocks + 1)).map fun o => trD (x, y, o)))]
    · rw [noX_pure, pure_bindM]
      unfold mkL
      have e1 : ((rgI 0 n.wide).flatMap fun x => ((rgI 0 n.high).flatMap fun y => (rgI (-n.clocks) (n.clocks + 1)).map fun o => trD (x, y, o))) = (standsOf n).map trD := by
        simp only [standsOf, List.map_flatMap, List.map_map, Function.comp_def]
      rw [e1, if_pos]
      rw [List.length_map, sizeLine_eq]
      exact Nat.le_trans (standsOf_len h) (by decide)
    · intro x hx
      refine ⟨_, rfl, ?_⟩
      rw [cBT_ap, cN_ap]
      have e2 : iR1 (eF2 gIx (eV 0) (eC (.int 1))) ((noOwn (wipeE [Sl.dat (netD n), Sl.dat (.lst ((rgI (-n.clocks) (n.clocks + 1)).map D.int)), Sl.no, Sl.no, Sl.no] [2, 3, 4])).set 2 (.dat (.int x))) = pure ((rgI 0 n.high).map D.int) := by
        simp [netD, atI, ixN, r2, rgD_rgI, noOwn]
      rw [e2, pure_bindM]
      refine forC_map fun y hy => ⟨_, rfl, ?_⟩
      have e3 : iSeq (eV 1) (((noOwn (wipeE [Sl.dat (netD n), Sl.dat (.lst ((rgI (-n.clocks) (n.clocks + 1)).map D.int)), Sl.no, Sl.no, Sl.no] [2, 3, 4])).set 2 (.dat (.int x))).set 3 (.dat (.int y))) = pure ((rgI (-n.clocks) (n.clocks + 1)).map D.int) := by
        simp [noOwn]
      rw [cBT_ap, cN_ap, e3, pure_bindM, forC_map (f := fun o => [trD (x, y, o)])]
      · congr 1
        generalize rgI (-n.clocks) (n.clocks + 1) = l
        induction l with
        | nil => rfl
        | cons o l ih => rw [List.flatMap_cons, ih]; rfl
      · intro o ho
        refine ⟨_, rfl, ?_⟩
        simp [cE, noOwn, trD, sizeLine_eq]
  have e4 : atI [D.int n.wide, .int n.high, .int n.clocks, .int n.slip, .tup (n.houses.map houseD)] 2 = some (.int n.clocks) := rfl
  unfold netD at key
  simp [e4, r0, rgD_rgI, key]
theorem q_is_sign_by {n : Net} (h : netOk n = true) (g : Tri) : m_is_sign_by [netD n, trD g] = pure (.bl (signOk n g)) := by
  simp only [m_is_sign_by, b_is_sign_by, runF_ap, startE, trD]
  have e4 : atI [D.int n.wide, .int n.high, .int n.clocks, .int n.slip, .tup (n.houses.map houseD)] 4 = some (.tup (n.houses.map houseD)) := rfl
  have f0 : atI [D.int g.1, .int g.2.1, .int g.2.2] 0 = some (.int g.1) := rfl
  have f1 : atI [D.int g.1, .int g.2.1, .int g.2.2] 1 = some (.int g.2.1) := rfl
  have f2 : atI [D.int g.1, .int g.2.1, .int g.2.2] 2 = some (.int g.2.2) := rfl
  cases c1 : inB 0 g.1 (n.houses.length - 1) with
  | false => simp [netD, e4, f0, f1, f2, q_is_within, signOk, c1, gNe, D.okn, D.eqv]
  | true =>
    cases c2 : inB 0 g.2.1 300 with
    | false => simp [netD, e4, f0, f1, f2, q_is_within, signOk, c1, c2, gNe, D.okn, D.eqv]
    | true =>
      cases c3 : inB (-3000) g.2.2 3000 with
      | false => simp [netD, e4, f0, f1, f2, q_is_within, signOk, c1, c2, c3, gNe, D.okn, D.eqv]
      | true =>
        have i1 := inB_iff.mp c1
        have hx := house_ix n i1.1 (by omega)
        have hp := q_place_by (n.house g.1) g.2.1 (stepsOk_of (houseOk_in h i1.1 (by omega)))
        simp [netD, e4, f0, f1, f2, q_is_within, signOk, c1, c2, c3, gNe, D.okn, D.eqv, hx, hp]
        cases placeBy (n.house g.1) g.2.1 <;> simp [plD, ptD]
theorem signOk_iff {n : Net} {g : Tri} (h : signOk n g = true) : (0 ≤ g.1 ∧ g.1 < n.houses.length) ∧ (0 ≤ g.2.1 ∧ g.2.1 ≤ 300) ∧ (-3000 ≤ g.2.2 ∧ g.2.2 ≤ 3000) ∧ ∃ p, placeBy (n.house g.1) g.2.1 = some p := by
  simp only [signOk, Bool.and_eq_true, inB_iff, Option.isSome_iff_exists] at h
  exact ⟨⟨h.1.1.1.1, by omega⟩, h.1.1.2, h.1.2, h.2⟩
theorem q_due_at {n : Net} (h : netOk n = true) (s : Tri) {i t : Int} (h0 : 0 ≤ i) (h1 : i < n.houses.length) {p : Int × Int} (hp : placeBy (n.house i) t = some p) : m_due_at [netD n, trD s, .int i, .int t] = pure (.int (dueAt n s i t)) := by
  simp only [m_due_at, b_due_at, runF_ap, startE, trD]
  have e4 : atI [D.int n.wide, .int n.high, .int n.clocks, .int n.slip, .tup (n.houses.map houseD)] 4 = some (.tup (n.houses.map houseD)) := rfl
  have f2 : atI [D.int s.1, .int s.2.1, .int s.2.2] 2 = some (.int s.2.2) := rfl
  have c2 : FB.cutD [D.int s.1, .int s.2.1, .int s.2.2] none (some 2) = [.int s.1, .int s.2.1] := rfl
  have hx := house_ix n h0 h1
  have hq := q_place_by (n.house i) t (stepsOk_of (houseOk_in h h0 h1))
  rw [hp] at hq
  have hf : m_far [ptD p, .tup [.int s.1, .int s.2.1]] = pure (.int (farI p (s.1, s.2.1))) := q_far p (s.1, s.2.1)
  simp [netD, e4, f2, c2, hx, hq, plD, hf, dueAt, hp]
theorem q_slip_by {n : Net} (h : netOk n = true) (s : Tri) {g : Tri} (hg : signOk n g = true) : m_slip_by [netD n, trD s, trD g] = pure (.int (slipBy n s g)) := by
  obtain ⟨⟨a1, a2⟩, _, _, p, hp⟩ := signOk_iff hg
  simp only [m_slip_by, b_slip_by, runF_ap, startE]
  have f0 : atI [D.int g.1, .int g.2.1, .int g.2.2] 0 = some (.int g.1) := rfl
  have f1 : atI [D.int g.1, .int g.2.1, .int g.2.2] 1 = some (.int g.2.1) := rfl
  have f2 : atI [D.int g.1, .int g.2.1, .int g.2.2] 2 = some (.int g.2.2) := rfl
  have hd := q_due_at h s a1 a2 hp
  have et : trD g = .tup [D.int g.1, .int g.2.1, .int g.2.2] := rfl
  simp [et, f0, f1, f2, hd, slipBy]
theorem q_fits_by {n : Net} (h : netOk n = true) (s : Tri) {g : Tri} (hg : signOk n g = true) : m_fits_by [netD n, trD s, trD g] = pure (.bl (fitsBy n s g)) := by
  simp only [m_fits_by, b_fits_by, runF_ap, startE]
  have e3 : atI [D.int n.wide, .int n.high, .int n.clocks, .int n.slip, .tup (n.houses.map houseD)] 3 = some (.int n.slip) := rfl
  have hs := q_slip_by h s hg
  have en : netD n = .tup [D.int n.wide, .int n.high, .int n.clocks, .int n.slip, .tup (n.houses.map houseD)] := rfl
  rw [en] at hs ⊢
  by_cases c : -n.slip ≤ slipBy n s g
  · simp [e3, hs, fitsBy, c]
  · simp [e3, hs, fitsBy, c]
theorem q_are_signs_by {n : Net} (h : netOk n = true) (ss : List Tri) : m_are_signs_by [netD n, trsD ss] = pure (.bl (signsOk n ss)) := by
  simp only [m_are_signs_by, b_are_signs_by, runF_ap, startE, trsD]
  by_cases hl : ss.length ≤ 12
  · have hall : eLc (iSeq (eV 1)) [2] (bName 2) (lcBody tTrue (eCall 2 m_is_sign_by (aCons (eV 0) (aCons (eV 2) aNil)))) [Sl.dat (netD n), Sl.dat (.tup (ss.map trD)), Sl.no] = pure (.lst (ss.map fun g => .bl (signOk n g))) := by
      refine eLc_map (xs := ss) (enc := trD) (by simp) (by rw [sizeLine_eq]; omega) fun g _ => ?_
      simp [q_is_sign_by h]
    have l1 : ¬ (12 : Int) < ss.length := by omega
    simp [hall, l1, signsOk, hl]
  · have l1 : (12 : Int) < ss.length := by omega
    simp [l1, signsOk, hl]
theorem q_need_signs {n : Net} (h : netOk n = true) {ss : List Tri} (hs : signsOk n ss = true) : m_need_signs [netD n, trsD ss] = pure .non := by
  simp only [m_need_signs, b_need_signs, runF_ap, startE]
  simp [q_need_net h, q_are_signs_by h, hs]

theorem q_lies_at {n : Net} (h : netOk n = true) {ss : List Tri} (hs : signsOk n ss = true) (s : Tri) : m_lies_at [netD n, trsD ss, trD s] = pure (tupI (liesAt n ss s)) := by
  simp only [m_lies_at, b_lies_at, runF_ap, startE]
  simp only [signsOk, Bool.and_eq_true, decide_eq_true_eq, List.all_eq_true] at hs
  have key : eLc (iEn (eV 1)) [3, 4] (bTup (bCons (bName 3) (bCons (bName 4) bNil))) (lcBody (tNot (tV (eCall 3 m_fits_by (aCons (eV 0) (aCons (eV 2) (aCons (eV 4) aNil)))))) (eV 3)) [Sl.dat (netD n), Sl.dat (trsD ss), Sl.dat (trD s), Sl.no, Sl.no] = pure (.lst ((liesAt n ss s).map D.int)) := by
    rw [eLc_filter (xs := enumI 0 ss) (enc := fun p => D.tup [.int p.1, trD p.2]) (p := fun p => !fitsBy n s p.2) (g := fun p => .int p.1)]
    · unfold liesAt
      rw [List.map_map]
      rfl
    · simp [trsD, enumD_map]
    · rw [enumI_len, sizeLine_eq]; omega
    · intro p hp
      have hg := hs.2 _ (enumI_mem hp)
      simp [q_fits_by h s hg]
  simp [key]
  rfl
theorem q_told_stories {n : Net} (h : netOk n = true) {ss : List Tri} (hs : signsOk n ss = true) : m_told_stories [netD n, trsD ss] = pure (.lst ((standsOf n).map fun s => D.tup [trD s, tupI (liesAt n ss s)])) := by
  simp only [m_told_stories, b_told_stories, runF_ap, startE]
  have key : eLc (iSeq (eCall 1 m_all_stands (aCons (eV 0) aNil))) [2] (bName 2) (lcBody tTrue (eTup (aCons (eV 2) (aCons (eCall 3 m_lies_at (aCons (eV 0) (aCons (eV 1) (aCons (eV 2) aNil)))) aNil)))) [Sl.dat (netD n), Sl.dat (trsD ss), Sl.no] = pure (.lst ((standsOf n).map fun s => D.tup [trD s, tupI (liesAt n ss s)])) := by
    refine eLc_map (xs := standsOf n) (enc := trD) (by simp [q_all_stands h]) (Nat.le_trans (standsOf_len h) (by decide)) fun s _ => ?_
    simp [q_lies_at h hs, sizeLine_eq]
  simp [key]
theorem q_fewest_by {n : Net} (h : netOk n = true) {ss : List Tri} (hs : signsOk n ss = true) (h1 : (selOf n ss).length < 63) (h2 : okS (selOf n ss) = true) : m_fewest_by [netD n, trsD ss] = pure (fewD n ss) := by
  simp only [m_fewest_by, b_fewest_by, runF_ap, startE]
  have hlen := standsOf_len h
  have k1 : eLc (iSeq (eCall 2 m_told_stories (aCons (eV 0) (aCons (eV 1) aNil)))) [4, 5] (bTup (bCons (bName 4) (bCons (bName 5) bNil))) (lcBody tTrue (eV 5)) [Sl.dat (netD n), Sl.dat (trsD ss), Sl.no, Sl.no, Sl.no, Sl.no] = pure (.lst ((liesRows n ss).map tupI)) := by
    rw [eLc_map (xs := standsOf n) (enc := fun s => D.tup [trD s, tupI (liesAt n ss s)]) (g := fun s => tupI (liesAt n ss s))]
    · unfold liesRows
      rw [List.map_map]
      rfl
    · simp [q_told_stories h hs]
    · exact Nat.le_trans hlen (by decide)
    · intro s _
      simp
  have hrl : (liesRows n ss).length ≤ sizeLine := by
    unfold liesRows
    rw [List.length_map]
    exact Nat.le_trans hlen (by decide)
  have k2 : eLc (iSeq (eV 2)) [5] (bName 5) (lcBody tTrue (eF1 gLen (eV 5))) [Sl.dat (netD n), Sl.dat (trsD ss), Sl.dat (.lst ((liesRows n ss).map tupI)), Sl.no, Sl.no, Sl.no] = pure (.lst ((liesRows n ss).map fun l => .int l.length)) := by
    refine eLc_map (xs := liesRows n ss) (enc := tupI) (by simp) hrl fun l _ => ?_
    simp
  have k3 : gMinL (.lst ((liesRows n ss).map fun l => .int l.length)) = some (.int (manyOf n ss)) := by
    rw [show ((liesRows n ss).map fun l => D.int l.length) = ((liesRows n ss).map fun l => (l.length : Int)).map D.int by rw [List.map_map]; rfl]
    obtain ⟨c1, c2, c3, _⟩ := clocks_of h
    have hne := standsOf_ne c1.1 c2.1 c3.1
    unfold gMinL
    simp only [ints?_map]
    unfold manyOf liesRows
    cases hS : standsOf n with
    | nil => exact absurd hS hne
    | cons s r => simp
  have k4 : eSc (iSeq (eV 2)) [5] (bName 5) (cB (tV (eF2 gEq (eF1 gLen (eV 5)) (eV 3))) (cE (eV 5))) [Sl.dat (netD n), Sl.dat (trsD ss), Sl.dat (.lst ((liesRows n ss).map tupI)), Sl.dat (.int (manyOf n ss)), Sl.no, Sl.no] = pure (.lst ((selOf n ss).map tupI)) := by
    unfold eSc
    have e0 : iSeq (eV 2) [Sl.dat (netD n), Sl.dat (trsD ss), Sl.dat (.lst ((liesRows n ss).map tupI)), Sl.dat (.int (manyOf n ss)), Sl.no, Sl.no] = pure ((liesRows n ss).map tupI) := by simp
    rw [e0, pure_bindM]
    have e1 := forC_filter (b := bName 5) (t := tV (eF2 gEq (eF1 gLen (eV 5)) (eV 3))) (el := eV 5) (ρ := noOwn (wipeE [Sl.dat (netD n), Sl.dat (trsD ss), Sl.dat (.lst ((liesRows n ss).map tupI)), Sl.dat (.int (manyOf n ss)), Sl.no, Sl.no] [5])) (xs := liesRows n ss) (enc := tupI) (p := fun l => decide ((l.length : Int) = manyOf n ss)) (g := tupI) (fun l _ => by
      refine ⟨_, rfl, ?_, fun _ => ?_⟩
      · simp [noOwn, tupI, gEq, okn_int, D.eqv]
        rfl
      · simp [noOwn])
    rw [show forC (bName 5) (cB (tV (eF2 gEq (eF1 gLen (eV 5)) (eV 3))) (cE (eV 5))) = forC (bName 5) (lcBody (tV (eF2 gEq (eF1 gLen (eV 5)) (eV 3))) (eV 5)) from rfl, e1, noX_pure, pure_bindM]
    unfold mkS2
    rw [keysI_map]
    have h1' : (dedupK ((liesRows n ss).filter fun l => decide ((l.length : Int) = manyOf n ss))).length < 63 := h1
    simp only [h1', if_true]
    rfl
  have k5 : gSortS (.lst ((selOf n ss).map tupI)) = some (.lst ((sortK (selOf n ss)).map tupI)) := by
    unfold gSortS
    simp only [keysI_map, h2, if_true]
  simp [k1, k2, k3, k4, k5, sizeLine_eq, fewD]
theorem q_fewest_lies {n : Net} (h : netOk n = true) {ss : List Tri} (hs : signsOk n ss = true) (h1 : (selOf n ss).length < 63) (h2 : okS (selOf n ss) = true) : m_fewest_lies [netD n, trsD ss] = pure (fewD n ss) := by
  simp only [m_fewest_lies, b_fewest_lies, runF_ap, startE]
  simp [q_need_signs h hs, q_fewest_by h hs h1 h2]
theorem q_named0 {n : Net} {ss : List Tri} {mm : Int} {KS : List (List Int)} (hl : ss.length ≤ 12) (hn : m_need_signs [netD n, trsD ss] = pure .non) (hq : m_fewest_by [netD n, trsD ss] = pure (.tup [.int mm, .tup (KS.map tupI)])) (hKl : KS.length ≤ sizeLine) :
    m_named [netD n, trsD ss] = pure (.tup [tupI (sureOf ss.length KS), tupI (freeOf ss.length KS)]) := by
  simp only [m_named, b_named, runF_ap, startE]
  have r0 : rgOk 0 (ss.length : Int) = true := by simp only [rgOk, decide_eq_true_eq]; omega
  have inner : ∀ (x y z : Sl) (i : Int), eLc (iSeq (eV 2)) [6] (bName 6) (lcBody tTrue (eF2 gIn (eV 5) (eV 6))) [Sl.dat (netD n), Sl.dat (trsD ss), Sl.dat (.tup (KS.map tupI)), x, y, Sl.dat (.int i), z] = pure (.lst (KS.map fun l => .bl (decide (i ∈ l)))) := fun x y z i => by
    refine eLc_map (xs := KS) (enc := tupI) (by simp) hKl fun l _ => ?_
    simp [gIn_ints]
  have k1 : eLc (iR1 (eF1 gLen (eV 1))) [5] (bName 5) (lcBody (tV (eF1 gAll (eLc (iSeq (eV 2)) [6] (bName 6) (lcBody tTrue (eF2 gIn (eV 5) (eV 6)))))) (eV 5)) [Sl.dat (netD n), Sl.dat (trsD ss), Sl.dat (.tup (KS.map tupI)), Sl.no, Sl.no, Sl.no, Sl.no] = pure (.lst ((sureOf ss.length KS).map D.int)) := by
    rw [eLc_filter (xs := rgI 0 ss.length) (enc := D.int) (p := fun i => KS.all fun l => decide (i ∈ l)) (g := D.int)]
    · rfl
    · simp [trsD, r0, rgD_rgI]
    · rw [rgI_len, sizeLine_eq]; omega
    · intro i _
      simp [inner]
  have k2 : ∀ x : Sl, eLc (iR1 (eF1 gLen (eV 1))) [5] (bName 5) (lcBody (tNot (tV (eF1 gAny (eLc (iSeq (eV 2)) [6] (bName 6) (lcBody tTrue (eF2 gIn (eV 5) (eV 6))))))) (eV 5)) [Sl.dat (netD n), Sl.dat (trsD ss), Sl.dat (.tup (KS.map tupI)), x, Sl.no, Sl.no, Sl.no] = pure (.lst ((freeOf ss.length KS).map D.int)) := fun x => by
    rw [eLc_filter (xs := rgI 0 ss.length) (enc := D.int) (p := fun i => !KS.any fun l => decide (i ∈ l)) (g := D.int)]
    · rfl
    · simp [trsD, r0, rgD_rgI]
    · rw [rgI_len, sizeLine_eq]; omega
    · intro i _
      simp [inner]
  have e1 : atI [D.int mm, .tup (KS.map tupI)] 1 = some (.tup (KS.map tupI)) := rfl
  simp [hn, hq, e1, k1, k2, sizeLine_eq]
  simp [tupI]
theorem q_named {n : Net} (h : netOk n = true) {ss : List Tri} (hs : signsOk n ss = true) (h1 : (selOf n ss).length < 63) (h2 : okS (selOf n ss) = true) :
    m_named [netD n, trsD ss] = pure (.tup [tupI (sureOf ss.length (sortK (selOf n ss))), tupI (freeOf ss.length (sortK (selOf n ss)))]) := by
  refine q_named0 ?_ (q_need_signs h hs) (q_fewest_by h hs h1 h2) ?_
  · simp only [signsOk, Bool.and_eq_true, decide_eq_true_eq] at hs
    exact hs.1
  · unfold sortK
    rw [(List.mergeSort_perm _ _).length_eq, sizeLine_eq]
    omega
theorem q_need_many {many : Int} (h : inB 0 many 12 = true) : m_need_many [.int many] = pure .non := by
  simp only [m_need_many, b_need_many, runF_ap, startE]
  simp [q_is_within, h]
theorem q_lot_but {n : Net} (h : netOk n = true) {ss : List Tri} (hs : signsOk n ss = true) {many : Int} (hm : inB 0 many 12 = true) : m_lot_but [netD n, trsD ss, .int many] = pure (.tup ((lotBut n ss many).map trD)) := by
  simp only [m_lot_but, b_lot_but, runF_ap, startE]
  have key : eLc (iSeq (eCall 2 m_told_stories (aCons (eV 0) (aCons (eV 1) aNil)))) [3, 4] (bTup (bCons (bName 3) (bCons (bName 4) bNil))) (lcBody (tV (eF2 gLe (eF1 gLen (eV 4)) (eV 2))) (eV 3)) [Sl.dat (netD n), Sl.dat (trsD ss), Sl.dat (.int many), Sl.no, Sl.no] = pure (.lst ((lotBut n ss many).map trD)) := by
    refine eLc_filter (xs := standsOf n) (enc := fun s => D.tup [trD s, tupI (liesAt n ss s)]) (p := fun s => decide (((liesAt n ss s).length : Int) ≤ many)) (g := trD) (by simp [q_told_stories h hs]) (Nat.le_trans (standsOf_len h) (by decide)) fun s _ => ?_
    simp [tupI]
  simp [q_need_signs h hs, q_need_many hm, key]
theorem q_is_firm {n : Net} (h : netOk n = true) {ss : List Tri} (hs : signsOk n ss = true) {many : Int} (hm : inB 0 many 12 = true) : m_is_firm [netD n, trsD ss, .int many] = pure (.bl (firmOf n ss many)) := by
  simp only [m_is_firm, b_is_firm, runF_ap, startE]
  have key : eLc (iSeq (eCall 2 m_told_stories (aCons (eV 0) (aCons (eV 1) aNil)))) [3, 4] (bTup (bCons (bName 3) (bCons (bName 4) bNil))) (lcBody tTrue (eChn gLe gLe (eC (.int 1)) (eF1 gLen (eV 4)) (eV 2))) [Sl.dat (netD n), Sl.dat (trsD ss), Sl.dat (.int many), Sl.no, Sl.no] = pure (.lst ((standsOf n).map fun s => .bl (decide (1 ≤ ((liesAt n ss s).length : Int)) && decide (((liesAt n ss s).length : Int) ≤ many)))) := by
    refine eLc_map (xs := standsOf n) (enc := fun s => D.tup [trD s, tupI (liesAt n ss s)]) (by simp [q_told_stories h hs]) (Nat.le_trans (standsOf_len h) (by decide)) fun s _ => ?_
    by_cases c : 1 ≤ ((liesAt n ss s).length : Int)
    · simp [tupI, c]
    · simp [tupI, c]
  by_cases c : (ss.length : Int) ≤ many
  · simp [q_need_signs h hs, q_need_many hm, c, firmOf]
  · simp [q_need_signs h hs, q_need_many hm, c, firmOf, key]

theorem q_cell_at (ns : List Int) {k : Int} (h0 : 0 ≤ k) (h1 : k < 2 ^ 62) : ∃ c : Int, m__law_cell_at [.scr ns, .int k] = pure (.int c) := by
  simp only [m__law_cell_at, b__law_cell_at, runF_ap, startE]
  by_cases hk : k < ns.length
  · obtain ⟨j, rfl⟩ := Int.eq_ofNat_of_zero_le h0
    have hj : j < ns.length := by omega
    refine ⟨ns[j], ?_⟩
    have e : atI ns (j : Int) = some ns[j] := by unfold atI ixN; simp [hj]
    simp [hj, e]
  · exact ⟨0, by simp [hk]⟩
theorem q_pen (c : Int) (S : Store) : Runs (m__law_pen [.int c]) S fun d S' => d = .obj S.length ∧ PenOk S' S.length := by
  have e : gPow (.int 10) (.int 18) = some (.int 1000000000000000000) := rfl
  refine ⟨.obj S.length, S ++ [.lst [.int (max 0 (c - 1000000000000000000)), .int (c % 2147483629 + 1), .int 0]], ?_, rfl, _, _, _, List.getElem?_concat_length, ?_, ?_⟩
  · simp only [m__law_pen, b__law_pen, runF_ap, startE]
    simp [e, sizeLine_eq, newO, bind_ap]
  · omega
  · omega
theorem q_draw {S : Store} {n : Nat} (hp : PenOk S n) {many : Int} (h0 : 0 < many) (h1 : many < 1073741824) : Runs (m__law_draw [.obj n, .int many]) S fun d S' => ∃ r : Int, d = .int r ∧ 0 ≤ r ∧ r < many ∧ PenOk S' n := by
  obtain ⟨p0, p1, p2, hS, a1, a2⟩ := hp
  have hn : n < S.length := (List.getElem?_eq_some_iff.mp hS).1
  have i0 : ∀ x y z : D, atI [x, y, z] 0 = some x := fun _ _ _ => rfl
  have i1 : ∀ x y z : D, atI [x, y, z] 1 = some y := fun _ _ _ => rfl
  have i2 : ∀ x y z : D, atI [x, y, z] 2 = some z := fun _ _ _ => rfl
  have x0 : ixN 3 0 = some 0 := rfl
  have x1 : ixN 3 1 = some 1 := rfl
  have x2 : ixN 3 2 = some 2 := rfl
  by_cases hc : 0 < p0
  · refine ⟨.int (p0 % many), S.set n (.lst [.int (p0 / many), .int p1, .int p2]), ?_, _, rfl, Int.emod_nonneg _ (by omega), Int.emod_lt_of_pos _ h0, p0 / many, p1, p2, List.getElem?_set_self hn, a1, a2⟩
    simp only [m__law_draw, b__law_draw, runF_ap, startE]
    simp [bind_ap, getO, vw, hS, setAt, i0, i1, i2, x0, x1, x2, hc, h0, h1, sSetItem]
  · generalize hq : (p1 * 48271 + 1009 * (p2 + 1) + 7) % 2147483647 = q
    have q0 : 0 ≤ q := by rw [← hq]; omega
    have q1 : q < 2147483648 := by rw [← hq]; omega
    generalize hm : (q * q + 69621 * q + 11) % 2147483629 = m
    have m0 : 0 ≤ m := by rw [← hm]; exact Int.emod_nonneg _ (by decide)
    have m1 : m < 2147483648 := by have := Int.emod_lt_of_pos (q * q + 69621 * q + 11) (show (0 : Int) < 2147483629 by decide); omega
    refine ⟨.int ((m * m + 40014 * m) % 2147483587 / 16 % many), S.set n (.lst [.int p0, .int q, .int (p2 + 1)]), ?_, _, rfl, Int.emod_nonneg _ (by omega), Int.emod_lt_of_pos _ h0, p0, q, p2 + 1, List.getElem?_set_self hn, q0, q1⟩
    have b1 : -18446744073709551616 < p1 ∧ p1 < 18446744073709551616 := by omega
    have b2 : -18446744073709551616 < q ∧ q < 18446744073709551616 := by omega
    have b3 : -18446744073709551616 < m ∧ m < 18446744073709551616 := by omega
    simp only [m__law_draw, b__law_draw, runF_ap, startE]
    have hset : ∀ x, (S.set n x)[n]? = some x := fun x => List.getElem?_set_self hn
    simp [bind_ap, getO, vw, hS, hset, setAt, i0, i1, i2, x0, x1, x2, hc, h0, h1, sSetItem, b1, b2, b3, hq, hm]

def net49 (w : Int) : Net := { wide := w, high := 1, clocks := 0, slip := 0, houses := [[(0, 0, 0, 0, 0)]] }
def mineL (one m : Int) : List Tri := (rgI 0 (m + 2)).map fun t => (0, t, t + one)
def itsL (other m : Int) : List Tri := (rgI 0 m).map fun t => (0, t, t + other)
def ssA (one other m : Int) : List Tri := itsL other m ++ mineL one m
def ssB (one other m : Int) : List Tri := itsL other m ++ (mineL one m).take m.toNat
def check49 (w one other m : Int) : Bool :=
  netOk (net49 w) && signsOk (net49 w) (ssA one other m) && signsOk (net49 w) (ssB one other m) &&
  decide (manyOf (net49 w) (ssA one other m) = m) && decide (selOf (net49 w) (ssA one other m) = [rgI 0 m]) && okS [rgI 0 m] &&
  decide (sureOf (ssA one other m).length [rgI 0 m] = rgI 0 m) && decide (freeOf (ssA one other m).length [rgI 0 m] = rgI m (2 * m + 2)) &&
  decide (lotBut (net49 w) (ssA one other m) m = [(one, 0, 0)]) && decide (lotBut (net49 w) (ssA one other m) (m - 1) = []) &&
  decide (lotBut (net49 w) (ssA one other m) (m + 2) = if leK [one, 0, 0] [other, 0, 0] then [(one, 0, 0), (other, 0, 0)] else [(other, 0, 0), (one, 0, 0)]) &&
  firmOf (net49 w) (ssA one other m) 0 && firmOf (net49 w) (ssA one other m) (m - 1) && !firmOf (net49 w) (ssA one other m) m && !firmOf (net49 w) (ssA one other m) (2 * m + 1) && firmOf (net49 w) (ssA one other m) (2 * m + 2) && firmOf (net49 w) (ssA one other m) 12 &&
  decide (manyOf (net49 w) (ssB one other m) = m) && decide (selOf (net49 w) (ssB one other m) = [rgI 0 m, rgI m (2 * m)] ∨ selOf (net49 w) (ssB one other m) = [rgI m (2 * m), rgI 0 m]) && leK (rgI 0 m) (rgI m (2 * m)) && okS [rgI 0 m, rgI m (2 * m)] && okS [rgI m (2 * m), rgI 0 m] &&
  decide (sureOf (ssB one other m).length [rgI 0 m, rgI m (2 * m)] = []) && decide (freeOf (ssB one other m).length [rgI 0 m, rgI m (2 * m)] = [])
theorem chk49 : ((rgI 5 11).all fun w => (rgI 0 w).all fun one => (rgI 0 w).all fun other => decide (one = other) || (rgI 1 6).all fun m => check49 w one other m) = true := by decide +kernel

theorem chk_at {w one other m : Int} (hw : 5 ≤ w ∧ w ≤ 10) (h1 : 0 ≤ one ∧ one < w) (h2 : 0 ≤ other ∧ other < w) (hne : one ≠ other) (hm : 1 ≤ m ∧ m ≤ 5) : check49 w one other m = true := by
  have h := chk49
  rw [List.all_eq_true] at h
  have h := h w (mem_rgI.mpr ⟨hw.1, by omega⟩)
  rw [List.all_eq_true] at h
  have h := h one (mem_rgI.mpr h1)
  rw [List.all_eq_true] at h
  have h := h other (mem_rgI.mpr h2)
  rw [Bool.or_eq_true, decide_eq_true_eq] at h
  have h := h.resolve_left hne
  rw [List.all_eq_true] at h
  exact h m (mem_rgI.mpr ⟨hm.1, by omega⟩)
theorem net49_D (w : Int) : netD (net49 w) = .tup [.int w, .int 1, .int 0, .int 0, .tup [.tup [.tup [.int 0, .int 0, .int 0, .int 0, .int 0]]]] := rfl
theorem q_law_right {w one other m : Int} (hw : 5 ≤ w ∧ w ≤ 10) (h1 : 0 ≤ one ∧ one < w) (h2 : 0 ≤ other ∧ other < w) (hne : one ≠ other) (hm : 1 ≤ m ∧ m ≤ 5) : m__law_right [.int w, .int one, .int other, .int m] = pure (.bl true) := by
  have hc := chk_at hw h1 h2 hne hm
  have lA : (ssA one other m).length ≤ 12 := by simp only [ssA, itsL, mineL, List.length_append, List.length_map, rgI_len]; omega
  simp only [check49, Bool.and_eq_true, decide_eq_true_eq, Bool.not_eq_true'] at hc
  obtain ⟨⟨⟨⟨⟨⟨⟨⟨⟨⟨⟨⟨⟨⟨⟨⟨⟨⟨⟨⟨⟨⟨⟨c1, c2⟩, c3⟩, c4⟩, c5⟩, c6⟩, c7⟩, c8⟩, c9⟩, c10⟩, c11⟩, f0⟩, f1⟩, f2⟩, f3⟩, f4⟩, f5⟩, d1⟩, d2⟩, d3⟩, d4⟩, d5⟩, d6⟩, d7⟩ := hc
  have len1 : (selOf (net49 w) (ssA one other m)).length < 63 := by rw [c5]; simp
  have ok1 : okS (selOf (net49 w) (ssA one other m)) = true := by rw [c5]; exact c6
  have qf1 := q_fewest_lies c1 c2 len1 ok1
  have qn1 := q_named c1 c2 len1 ok1
  rw [c5, sortK_one, c7, c8] at qn1
  have ef1 : fewD (net49 w) (ssA one other m) = .tup [.int m, .tup [tupI (rgI 0 m)]] := by unfold fewD; rw [c4, c5, sortK_one]; rfl
  rw [ef1] at qf1
  have len2 : (selOf (net49 w) (ssB one other m)).length < 63 := by rcases d2 with z | z <;> (rw [z]; simp)
  have ok2 : okS (selOf (net49 w) (ssB one other m)) = true := by
    rcases d2 with z | z
    · rw [z]; exact d4
    · rw [z]; exact d5
  have hs2 : sortK (selOf (net49 w) (ssB one other m)) = [rgI 0 m, rgI m (2 * m)] := by
    rcases d2 with z | z
    · rw [z]; exact sortK_two d3
    · rw [z]; exact sortK_swap d3
  have qf2 := q_fewest_lies c1 c3 len2 ok2
  have qn2 := q_named c1 c3 len2 ok2
  rw [hs2, d6, d7] at qn2
  have ef2 : fewD (net49 w) (ssB one other m) = .tup [.int m, .tup [tupI (rgI 0 m), tupI (rgI m (2 * m))]] := by unfold fewD; rw [d1, hs2]; rfl
  rw [ef2] at qf2
  have b0 : inB 0 m 12 = true := inB_iff.mpr (by omega)
  have ql0 := q_lot_but c1 c2 b0
  have ql1 := q_lot_but c1 c2 (many := m - 1) (inB_iff.mpr (by omega))
  have ql2 := q_lot_but c1 c2 (many := m + 2) (inB_iff.mpr (by omega))
  rw [c9] at ql0
  rw [c10] at ql1
  have qm : ∀ k b, inB 0 k 12 = true → firmOf (net49 w) (ssA one other m) k = b → m_is_firm [netD (net49 w), trsD (ssA one other m), .int k] = pure (.bl b) := fun k b hk e => by rw [q_is_firm c1 c2 hk, e]
  have g0 := qm 0 true (inB_iff.mpr (by omega)) f0
  have g1 := qm (m - 1) true (inB_iff.mpr (by omega)) f1
  have g2 := qm m false b0 f2
  have g3 := qm (2 * m + 1) false (inB_iff.mpr (by omega)) f3
  have g4 := qm (2 * m + 2) true (inB_iff.mpr (by omega)) f4
  have g5 := qm 12 true (inB_iff.mpr (by omega)) f5
  have hso : gSorted (.lst [trD (one, 0, 0), trD (other, 0, 0)]) = some (.lst ((lotBut (net49 w) (ssA one other m) (m + 2)).map trD)) := by
    have e1 : ints? [trD (one, 0, 0), trD (other, 0, 0)] = none := rfl
    have e2 : keysI [trD (one, 0, 0), trD (other, 0, 0)] = some [[one, 0, 0], [other, 0, 0]] := rfl
    unfold gSorted
    simp only [e1, e2]
    rw [if_pos (show ([[one, 0, 0], [other, 0, 0]].all fun k => !k.isEmpty) = true from rfl), c11]
    by_cases hle : leK [one, 0, 0] [other, 0, 0] = true
    · rw [sortK_two hle, if_pos hle]; rfl
    · have hle2 : leK [other, 0, 0] [one, 0, 0] = true := by
        have := leK_total [one, 0, 0] [other, 0, 0]
        rw [Bool.or_eq_true] at this
        exact this.resolve_left hle
      rw [sortK_swap hle2, if_neg hle]; rfl
  have r1 : rgOk 0 (m + 2) = true := by simp only [rgOk, decide_eq_true_eq]; omega
  have r2 : rgOk 0 m = true := by simp only [rgOk, decide_eq_true_eq]; omega
  have r3 : rgOk2 0 m = true := by simp only [rgOk2, rgOk, Bool.and_eq_true, decide_eq_true_eq]; omega
  have r4 : rgOk2 m (2 * m + 2) = true := by simp only [rgOk2, rgOk, Bool.and_eq_true, decide_eq_true_eq]; omega
  have r5 : rgOk2 m (2 * m) = true := by simp only [rgOk2, rgOk, Bool.and_eq_true, decide_eq_true_eq]; omega
  simp only [m__law_right, b__law_right, runF_ap, startE]
  have e0 : List.map Sl.dat [D.int w, .int one, .int other, .int m] ++ List.replicate (14 - [D.int w, .int one, .int other, .int m].length) Sl.no = [Sl.dat (.int w), .dat (.int one), .dat (.int other), .dat (.int m), .no, .no, .no, .no, .no, .no, .no, .no, .no, .no] := rfl
  rw [e0]
  rw [sSeq_nx (ρ' := [Sl.dat (.int w), .dat (.int one), .dat (.int other), .dat (.int m), .dat (netD (net49 w)), .no, .no, .no, .no, .no, .no, .no, .no, .no]) (by simp [sizeLine_eq, net49_D])]
  rw [sSeq_nx (ρ' := [Sl.dat (.int w), .dat (.int one), .dat (.int other), .dat (.int m), .dat (netD (net49 w)), .dat (.lst ((mineL one m).map trD)), .dat (.lst ((itsL other m).map trD)), .no, .no, .no, .no, .no, .no, .no]) (by
    rw [sPar_ap, eLc_map (xs := rgI 0 (m + 2)) (enc := D.int) (g := fun t => trD (0, t, t + one)) (by simp [r1, rgD_rgI]) (by rw [rgI_len, sizeLine_eq]; omega) (fun t _ => by simp [sizeLine_eq, trD]), pure_bindM,
      eLc_map (xs := rgI 0 m) (enc := D.int) (g := fun t => trD (0, t, t + other)) (by simp [r2, rgD_rgI]) (by rw [rgI_len, sizeLine_eq]; omega) (fun t _ => by simp [sizeLine_eq, trD]), pure_bindM]
    simp [mineL, itsL, Function.comp_def])]
  have lM : ((mineL one m).map trD).length = (m + 2).toNat := by simp [mineL, rgI_len]
  have lI : ((itsL other m).map trD).length = m.toNat := by simp [itsL, rgI_len]
  have hz : ((itsL other m).map trD).length + ((mineL one m).map trD).length ≤ sizeLine := by rw [lM, lI, sizeLine_eq]; omega
  rw [sSeq_nx (ρ' := [Sl.dat (.int w), .dat (.int one), .dat (.int other), .dat (.int m), .dat (netD (net49 w)), .dat (.lst ((mineL one m).map trD)), .dat (.lst ((itsL other m).map trD)), .dat (trsD (ssA one other m)), .no, .no, .no, .no, .no, .no]) (by
    have ea : gAdd (.lst ((itsL other m).map trD)) (.lst ((mineL one m).map trD)) = some (.lst ((ssA one other m).map trD)) := by
      rw [gAdd_lst, if_pos hz]; simp [ssA]
    simp [ea, trsD])]
  rw [sSeq_nx (ρ' := [Sl.dat (.int w), .dat (.int one), .dat (.int other), .dat (.int m), .dat (netD (net49 w)), .dat (.lst ((mineL one m).map trD)), .dat (.lst ((itsL other m).map trD)), .dat (trsD (ssA one other m)), .dat (tupI (rgI 0 m)), .dat (tupI (rgI m (2 * m + 2))), .no, .no, .no, .no]) (by
    simp [r3, r4, rgD_rgI, tupI])]
  rw [sSeq_nx (ρ' := [Sl.dat (.int w), .dat (.int one), .dat (.int other), .dat (.int m), .dat (netD (net49 w)), .dat (.lst ((mineL one m).map trD)), .dat (.lst ((itsL other m).map trD)), .dat (trsD (ssA one other m)), .dat (tupI (rgI 0 m)), .dat (tupI (rgI m (2 * m + 2))), .no, .no, .no, .no]) (by
    rw [sIf_f (tOr_ff (neF (d := .tup [.int m, .tup [tupI (rgI 0 m)]]) (by simp [qf1]) (by simp [sizeLine_eq]) (fun _ => rfl) (by simp [D.okn, okn_int, okn_tupI])) (neF (d := .tup [tupI (rgI 0 m), tupI (rgI m (2 * m + 2))]) (by simp [qn1]) (by simp [sizeLine_eq]) (fun _ => rfl) (by simp [D.okn, okn_tupI])))]
    rfl)]
  rw [sSeq_nx (ρ' := [Sl.dat (.int w), .dat (.int one), .dat (.int other), .dat (.int m), .dat (netD (net49 w)), .dat (.lst ((mineL one m).map trD)), .dat (.lst ((itsL other m).map trD)), .dat (trsD (ssA one other m)), .dat (tupI (rgI 0 m)), .dat (tupI (rgI m (2 * m + 2))), .no, .no, .no, .no]) (by
    rw [sIf_f (tOr_ff (neF (d := .tup [trD (one, 0, 0)]) (by simp [ql0]) (by simp [sizeLine_eq]; rfl) (fun _ => rfl) (by simp [D.okn, okn_trD])) (neF (d := .tup []) (by simp [ql1]) (by simp) (fun _ => rfl) (by simp [D.okn])))]
    rfl)]
  rw [sSeq_nx (ρ' := [Sl.dat (.int w), .dat (.int one), .dat (.int other), .dat (.int m), .dat (netD (net49 w)), .dat (.lst ((mineL one m).map trD)), .dat (.lst ((itsL other m).map trD)), .dat (trsD (ssA one other m)), .dat (tupI (rgI 0 m)), .dat (tupI (rgI m (2 * m + 2))), .no, .no, .no, .no]) (by
    rw [sIf_f (neF (d := .tup ((lotBut (net49 w) (ssA one other m) (m + 2)).map trD)) (by simp [ql2]) (by
      have e3 : ∀ i : Int, D.tup [.int i, .int 0, .int 0] = trD (i, 0, 0) := fun _ => rfl
      simp [sizeLine_eq, e3, hso]) (fun _ => rfl) (by
      show (((lotBut (net49 w) (ssA one other m) (m + 2)).map trD).all (D.okn 59)) = true
      exact okn_map (fun s => okn_trD 58 s) _))]
    rfl)]
  rw [sSeq_nx (ρ' := [Sl.dat (.int w), .dat (.int one), .dat (.int other), .dat (.int m), .dat (netD (net49 w)), .dat (.lst ((mineL one m).map trD)), .dat (.lst ((itsL other m).map trD)), .dat (trsD (ssA one other m)), .dat (tupI (rgI 0 m)), .dat (tupI (rgI m (2 * m + 2))), .dat (.lst [.bl true, .bl true, .bl false, .bl false, .bl true, .bl true]), .no, .no, .no]) (by
    have hmul : gMul (.int 2) (.int m) = some (.int (2 * m)) := by rw [gMul_int, if_pos (.inl (by decide))]
    rw [sSet_ap, eLc_map (xs := [(0, true), (m - 1, true), (m, false), (2 * m + 1, false), (2 * m + 2, true), (12, true)]) (enc := fun p : Int × Bool => .int p.1) (g := fun p => .bl p.2) (by simp [hmul, sizeLine_eq]) (by rw [sizeLine_eq]; simp) (fun p hp => by
      refine ⟨_, rfl, ?_⟩
      simp only [List.mem_cons, List.not_mem_nil, or_false] at hp
      rcases hp with rfl | rfl | rfl | rfl | rfl | rfl <;> simp [g0, g1, g2, g3, g4, g5])]
    simp)]
  rw [sSeq_nx (ρ' := [Sl.dat (.int w), .dat (.int one), .dat (.int other), .dat (.int m), .dat (netD (net49 w)), .dat (.lst ((mineL one m).map trD)), .dat (.lst ((itsL other m).map trD)), .dat (trsD (ssA one other m)), .dat (tupI (rgI 0 m)), .dat (tupI (rgI m (2 * m + 2))), .dat (.lst [.bl true, .bl true, .bl false, .bl false, .bl true, .bl true]), .no, .no, .no]) (by
    rw [sIf_f (neF (d := (.lst [.bl true, .bl true, .bl false, .bl false, .bl true, .bl true])) (by simp) (by simp [sizeLine_eq]) (fun _ => rfl) (by decide))]
    rfl)]
  have lB : ((mineL one m).map trD).length = (m + 2).toNat := lM
  rw [sSeq_nx (ρ' := [Sl.dat (.int w), .dat (.int one), .dat (.int other), .dat (.int m), .dat (netD (net49 w)), .dat (.lst ((mineL one m).map trD)), .dat (.lst ((itsL other m).map trD)), .dat (trsD (ssB one other m)), .dat (tupI (rgI 0 m)), .dat (tupI (rgI m (2 * m + 2))), .dat (.lst [.bl true, .bl true, .bl false, .bl false, .bl true, .bl true]), .no, .no, .no]) (by
    have ct : FB.cutD ((mineL one m).map trD) none (some m) = ((mineL one m).take m.toNat).map trD := by
      unfold FB.cutD
      rw [HT.sIx_none, List.drop_zero, Nat.sub_zero, List.map_take]
      have em : ((m.toNat : Nat) : Int) = m := Int.toNat_of_nonneg (by omega)
      have es : HT.sIx ((mineL one m).map trD).length ((mineL one m).map trD).length (some m) = min m.toNat ((mineL one m).map trD).length := by
        generalize ((mineL one m).map trD).length = q
        have z := HT.sIx_nat q q m.toNat
        rwa [em] at z
      rw [es, lM, Nat.min_eq_left (by omega)]
    have ea : gAdd (.lst ((itsL other m).map trD)) (.lst (((mineL one m).take m.toNat).map trD)) = some (.lst ((ssB one other m).map trD)) := by
      rw [gAdd_lst, if_pos]
      · simp [ssB]
      · rw [lI, List.length_map, List.length_take, sizeLine_eq]
        have := Nat.min_le_left m.toNat (mineL one m).length
        omega
    generalize ((mineL one m).take m.toNat).map trD = TT at ct ea
    simp [ct, ea, trsD])]
  rw [sSeq_nx (ρ' := [Sl.dat (.int w), .dat (.int one), .dat (.int other), .dat (.int m), .dat (netD (net49 w)), .dat (.lst ((mineL one m).map trD)), .dat (.lst ((itsL other m).map trD)), .dat (trsD (ssB one other m)), .dat (tupI (rgI 0 m)), .dat (tupI (rgI m (2 * m + 2))), .dat (.lst [.bl true, .bl true, .bl false, .bl false, .bl true, .bl true]), .dat (tupI (rgI m (2 * m))), .no, .no]) (by
    have hmul : gMul (.int 2) (.int m) = some (.int (2 * m)) := by rw [gMul_int, if_pos (.inl (by decide))]
    simp [hmul, r5, rgD_rgI, tupI])]
  rw [sRet_ap, eAnd_tt (eqT (d := .tup [.int m, .tup [tupI (rgI 0 m), tupI (rgI m (2 * m))]]) (by simp [qf2]) (by simp [sizeLine_eq]) (fun _ => rfl) (by simp [D.okn, okn_int, okn_tupI])) (eqT (d := .tup [tupI [], tupI []]) (by simp [qn2]) (by simp [sizeLine_eq, tupI]) (fun _ => rfl) (by simp [D.okn, okn_tupI]))]
  rfl
theorem q_law (ns : List Int) (hl : ns.length ≤ 63) : ∃ S, m_law [.scr ns] [] = .ok (.bl true) S := by
  have hr : rgOk 0 (max 1 (min (ns.length : Int) 4)) = true := by simp only [rgOk, decide_eq_true_eq]; omega
  simp only [m_law, b_law, runF_ap, startE]
  have e0 : List.map Sl.dat [D.scr ns] ++ List.replicate (6 - [D.scr ns].length) Sl.no = [Sl.dat (.scr ns), .no, .no, .no, .no, .no] := rfl
  rw [e0]
  -- the loop, from any state of the slots
  have loop : ∀ (ks : List Int) (S : Store) (a b c d e : Sl), (∀ k ∈ ks, 0 ≤ k ∧ k < 2 ^ 62) → ∃ S' a' b' c' d' e', forS (bName 1) (sSeq (sSet 2 (eCall 1 m__law_pen (aCons (eCall 2 m__law_cell_at (aCons (eV 0) (aCons (eV 1) aNil))) aNil))) (sSeq (sSet 3 (eF2 gAdd (eC (.int 5)) (eCall 2 m__law_draw (aCons (eV 2) (aCons (eC (.int 6)) aNil))))) (sSeq (sSet 4 (eCall 2 m__law_draw (aCons (eV 2) (aCons (eV 3) aNil)))) (sSeq (sSet 5 (eF2 gMod (eF2 gAdd (eF2 gAdd (eV 4) (eC (.int 1))) (eCall 2 m__law_draw (aCons (eV 2) (aCons (eF2 gSub (eV 3) (eC (.int 1))) aNil)))) (eV 3))) (sIf (tNot (tV (eCall 4 m__law_right (aCons (eV 3) (aCons (eV 4) (aCons (eV 5) (aCons (eF2 gAdd (eC (.int 1)) (eCall 2 m__law_draw (aCons (eV 2) (aCons (eC (.int 5)) aNil)))) aNil))))))) (sRet (eC (.bl false))) sNil))))) (ks.map D.int) [Sl.dat (.scr ns), a, b, c, d, e] S = .ok (.nx [Sl.dat (.scr ns), a', b', c', d', e']) S' := by
    intro ks
    induction ks with
    | nil => intro S a b c d e _; exact ⟨S, a, b, c, d, e, rfl⟩
    | cons k ks ih =>
      intro S a b c d e hk
      obtain ⟨k0, k1⟩ := hk k List.mem_cons_self
      obtain ⟨cc, hcc⟩ := q_cell_at ns k0 k1
      obtain ⟨_, S1, hp1, rfl, ok1⟩ := q_pen cc S
      obtain ⟨_, S2, hp2, r2, rfl, l2, u2, ok2⟩ := q_draw ok1 (many := 6) (by decide) (by decide)
      obtain ⟨_, S3, hp3, r3, rfl, l3, u3, ok3⟩ := q_draw ok2 (many := 5 + r2) (by omega) (by omega)
      obtain ⟨_, S4, hp4, r4, rfl, l4, u4, ok4⟩ := q_draw ok3 (many := 5 + r2 - 1) (by omega) (by omega)
      obtain ⟨_, S5, hp5, r5, rfl, l5, u5, ok5⟩ := q_draw ok4 (many := 5) (by decide) (by decide)
      have hne : r3 ≠ (r3 + 1 + r4) % (5 + r2) := fun z => by
        by_cases hlt : r3 + 1 + r4 < 5 + r2
        · rw [Int.emod_eq_of_lt (by omega) hlt] at z; omega
        · have e2 : (r3 + 1 + r4) % (5 + r2) = r3 + 1 + r4 - (5 + r2) := by
            rw [← Int.sub_emod_right, Int.emod_eq_of_lt (by omega) (by omega)]
          rw [e2] at z; omega
      have hright := q_law_right (w := 5 + r2) (one := r3) (other := (r3 + 1 + r4) % (5 + r2)) (m := 1 + r5) (by omega) (by omega) ⟨Int.emod_nonneg _ (by omega), Int.emod_lt_of_pos _ (by omega)⟩ hne (by omega)
      have hmod : gMod (.int (r3 + 1 + r4)) (.int (5 + r2)) = some (.int ((r3 + 1 + r4) % (5 + r2))) := by rw [gMod_int, if_pos (by omega)]
      obtain ⟨S', a', b', c', d', e', h⟩ := ih S5 (.dat (.int k)) (.dat (.obj S.length)) (.dat (.int (5 + r2))) (.dat (.int r3)) (.dat (.int ((r3 + 1 + r4) % (5 + r2)))) fun j hj => hk j (List.mem_cons_of_mem _ hj)
      refine ⟨S', a', b', c', d', e', ?_⟩
      rw [← h]
      simp only [List.map_cons, forS, bName_ap, List.set_cons_succ, List.set_cons_zero]
      simp [bind_ap, hcc, hp1, hp2, hp3, hp4, hp5, hmod, hright, -gMod_int]
  obtain ⟨S', a', b', c', d', e', h⟩ := loop (rgI 0 (max 1 (min (ns.length : Int) 4))) [] .no .no .no .no .no (fun k hk => by
    have := mem_rgI.mp hk
    omega)
  refine ⟨S', ?_⟩
  rw [sSeq_ap, sFor_ap]
  have hi : iR1 (eF2 gMax2 (eC (.int 1)) (eF2 gMin2 (eF1 gLen (eV 0)) (eC (.int 4)))) [Sl.dat (.scr ns), .no, .no, .no, .no, .no] = pure ((rgI 0 (max 1 (min (ns.length : Int) 4))).map D.int) := by
    simp [hr, rgD_rgI]
  rw [hi, pure_bindM]
  simp [bind_ap, h]

end FBlaw
open PySem PySem.W PyProof.Rows
set_option maxHeartbeats 0 in
theorem PySem.Challenge.cw_farbeats_k49_lies_by_hand_holds : PySem.Challenge.rw_farbeats_k49_lies_by_hand.Holds := by
  w_on; o_law; k_head; (case hw => w_witness2)
  k_fill
  refine FB.walk_ofG (l := PySem.Challenge.rw_farbeats_k49_lies_by_hand) (n := 63) (k := 10) (x := "_law_script") (m := FBlaw.m_law) rfl (by decide) rfl ⟨rfl, by decide, by decide⟩ (fun w h Y => PySem.W.kIn_of Y) ?F (fun ns hl => FBlaw.q_law ns hl)
  case F =>
    intro w mg fa h KX G hmg
    obtain ⟨a_is_whole, d_is_whole, u_is_whole⟩ : ∃ f fd, FB.FnAt _ mg "is_whole" FBlaw.s_is_whole f fd ["thing"] := by
      refine' FB.fnAt_mk KX G ?a ?l ?c ?k fun _ _ _ _ _ _ us hl => match us, hl with | [_], _ => rfl
      (case a => k_is); (case l => k_is); (case c => k_is); (case k => k_is)
    obtain ⟨a_is_within, d_is_within, u_is_within⟩ : ∃ f fd, FB.FnAt _ mg "is_within" FBlaw.s_is_within f fd ["thing", "least", "most"] := by
      refine' FB.fnAt_mk KX G ?a ?l ?c ?k fun _ _ _ _ _ _ us hl => match us, hl with | [_, _, _], _ => rfl
      (case a => k_is); (case l => k_is); (case c => k_is); (case k => k_is)
    obtain ⟨a_rises, d_rises, u_rises⟩ : ∃ f fd, FB.FnAt _ mg "rises" FBlaw.s_rises f fd ["row"] := by
      refine' FB.fnAt_mk KX G ?a ?l ?c ?k fun _ _ _ _ _ _ us hl => match us, hl with | [_], _ => rfl
      (case a => k_is); (case l => k_is); (case c => k_is); (case k => k_is)
    obtain ⟨a_is_way, d_is_way, u_is_way⟩ : ∃ f fd, FB.FnAt _ mg "is_way" FBlaw.s_is_way f fd ["thing"] := by
      refine' FB.fnAt_mk KX G ?a ?l ?c ?k fun _ _ _ _ _ _ us hl => match us, hl with | [_], _ => rfl
      (case a => k_is); (case l => k_is); (case c => k_is); (case k => k_is)
    obtain ⟨a_is_house, d_is_house, u_is_house⟩ : ∃ f fd, FB.FnAt _ mg "is_house" FBlaw.s_is_house f fd ["thing"] := by
      refine' FB.fnAt_mk KX G ?a ?l ?c ?k fun _ _ _ _ _ _ us hl => match us, hl with | [_], _ => rfl
      (case a => k_is); (case l => k_is); (case c => k_is); (case k => k_is)
    obtain ⟨a_place_by, d_place_by, u_place_by⟩ : ∃ f fd, FB.FnAt _ mg "place_by" FBlaw.s_place_by f fd ["house", "tick"] := by
      refine' FB.fnAt_mk KX G ?a ?l ?c ?k fun _ _ _ _ _ _ us hl => match us, hl with | [_, _], _ => rfl
      (case a => k_is); (case l => k_is); (case c => k_is); (case k => k_is)
    obtain ⟨a_is_net, d_is_net, u_is_net⟩ : ∃ f fd, FB.FnAt _ mg "is_net" FBlaw.s_is_net f fd ["thing"] := by
      refine' FB.fnAt_mk KX G ?a ?l ?c ?k fun _ _ _ _ _ _ us hl => match us, hl with | [_], _ => rfl
      (case a => k_is); (case l => k_is); (case c => k_is); (case k => k_is)
    obtain ⟨a_need_net, d_need_net, u_need_net⟩ : ∃ f fd, FB.FnAt _ mg "need_net" FBlaw.s_need_net f fd ["thing"] := by
      refine' FB.fnAt_mk KX G ?a ?l ?c ?k fun _ _ _ _ _ _ us hl => match us, hl with | [_], _ => rfl
      (case a => k_is); (case l => k_is); (case c => k_is); (case k => k_is)
    obtain ⟨a_all_stands, d_all_stands, u_all_stands⟩ : ∃ f fd, FB.FnAt _ mg "all_stands" FBlaw.s_all_stands f fd ["net"] := by
      refine' FB.fnAt_mk KX G ?a ?l ?c ?k fun _ _ _ _ _ _ us hl => match us, hl with | [_], _ => rfl
      (case a => k_is); (case l => k_is); (case c => k_is); (case k => k_is)
    obtain ⟨a_far, d_far, u_far⟩ : ∃ f fd, FB.FnAt _ mg "far" FBlaw.s_far f fd ["one", "other"] := by
      refine' FB.fnAt_mk KX G ?a ?l ?c ?k fun _ _ _ _ _ _ us hl => match us, hl with | [_, _], _ => rfl
      (case a => k_is); (case l => k_is); (case c => k_is); (case k => k_is)
    obtain ⟨a_is_sign_by, d_is_sign_by, u_is_sign_by⟩ : ∃ f fd, FB.FnAt _ mg "is_sign_by" FBlaw.s_is_sign_by f fd ["net", "thing"] := by
      refine' FB.fnAt_mk KX G ?a ?l ?c ?k fun _ _ _ _ _ _ us hl => match us, hl with | [_, _], _ => rfl
      (case a => k_is); (case l => k_is); (case c => k_is); (case k => k_is)
    obtain ⟨a_due_at, d_due_at, u_due_at⟩ : ∃ f fd, FB.FnAt _ mg "due_at" FBlaw.s_due_at f fd ["net", "stand", "house", "tick"] := by
      refine' FB.fnAt_mk KX G ?a ?l ?c ?k fun _ _ _ _ _ _ us hl => match us, hl with | [_, _, _, _], _ => rfl
      (case a => k_is); (case l => k_is); (case c => k_is); (case k => k_is)
    obtain ⟨a_slip_by, d_slip_by, u_slip_by⟩ : ∃ f fd, FB.FnAt _ mg "slip_by" FBlaw.s_slip_by f fd ["net", "stand", "sign"] := by
      refine' FB.fnAt_mk KX G ?a ?l ?c ?k fun _ _ _ _ _ _ us hl => match us, hl with | [_, _, _], _ => rfl
      (case a => k_is); (case l => k_is); (case c => k_is); (case k => k_is)
    obtain ⟨a_fits_by, d_fits_by, u_fits_by⟩ : ∃ f fd, FB.FnAt _ mg "fits_by" FBlaw.s_fits_by f fd ["net", "stand", "sign"] := by
      refine' FB.fnAt_mk KX G ?a ?l ?c ?k fun _ _ _ _ _ _ us hl => match us, hl with | [_, _, _], _ => rfl
      (case a => k_is); (case l => k_is); (case c => k_is); (case k => k_is)
    obtain ⟨a_are_signs_by, d_are_signs_by, u_are_signs_by⟩ : ∃ f fd, FB.FnAt _ mg "are_signs_by" FBlaw.s_are_signs_by f fd ["net", "thing"] := by
      refine' FB.fnAt_mk KX G ?a ?l ?c ?k fun _ _ _ _ _ _ us hl => match us, hl with | [_, _], _ => rfl
      (case a => k_is); (case l => k_is); (case c => k_is); (case k => k_is)
    obtain ⟨a_need_signs, d_need_signs, u_need_signs⟩ : ∃ f fd, FB.FnAt _ mg "need_signs" FBlaw.s_need_signs f fd ["net", "thing"] := by
      refine' FB.fnAt_mk KX G ?a ?l ?c ?k fun _ _ _ _ _ _ us hl => match us, hl with | [_, _], _ => rfl
      (case a => k_is); (case l => k_is); (case c => k_is); (case k => k_is)
    obtain ⟨a_lies_at, d_lies_at, u_lies_at⟩ : ∃ f fd, FB.FnAt _ mg "lies_at" FBlaw.s_lies_at f fd ["net", "signs", "stand"] := by
      refine' FB.fnAt_mk KX G ?a ?l ?c ?k fun _ _ _ _ _ _ us hl => match us, hl with | [_, _, _], _ => rfl
      (case a => k_is); (case l => k_is); (case c => k_is); (case k => k_is)
    obtain ⟨a_told_stories, d_told_stories, u_told_stories⟩ : ∃ f fd, FB.FnAt _ mg "told_stories" FBlaw.s_told_stories f fd ["net", "signs"] := by
      refine' FB.fnAt_mk KX G ?a ?l ?c ?k fun _ _ _ _ _ _ us hl => match us, hl with | [_, _], _ => rfl
      (case a => k_is); (case l => k_is); (case c => k_is); (case k => k_is)
    obtain ⟨a_fewest_by, d_fewest_by, u_fewest_by⟩ : ∃ f fd, FB.FnAt _ mg "fewest_by" FBlaw.s_fewest_by f fd ["net", "signs"] := by
      refine' FB.fnAt_mk KX G ?a ?l ?c ?k fun _ _ _ _ _ _ us hl => match us, hl with | [_, _], _ => rfl
      (case a => k_is); (case l => k_is); (case c => k_is); (case k => k_is)
    obtain ⟨a_fewest_lies, d_fewest_lies, u_fewest_lies⟩ : ∃ f fd, FB.FnAt _ mg "fewest_lies" FBlaw.s_fewest_lies f fd ["net", "signs"] := by
      refine' FB.fnAt_mk KX G ?a ?l ?c ?k fun _ _ _ _ _ _ us hl => match us, hl with | [_, _], _ => rfl
      (case a => k_is); (case l => k_is); (case c => k_is); (case k => k_is)
    obtain ⟨a_named, d_named, u_named⟩ : ∃ f fd, FB.FnAt _ mg "named" FBlaw.s_named f fd ["net", "signs"] := by
      refine' FB.fnAt_mk KX G ?a ?l ?c ?k fun _ _ _ _ _ _ us hl => match us, hl with | [_, _], _ => rfl
      (case a => k_is); (case l => k_is); (case c => k_is); (case k => k_is)
    obtain ⟨a_need_many, d_need_many, u_need_many⟩ : ∃ f fd, FB.FnAt _ mg "need_many" FBlaw.s_need_many f fd ["thing"] := by
      refine' FB.fnAt_mk KX G ?a ?l ?c ?k fun _ _ _ _ _ _ us hl => match us, hl with | [_], _ => rfl
      (case a => k_is); (case l => k_is); (case c => k_is); (case k => k_is)
    obtain ⟨a_lot_but, d_lot_but, u_lot_but⟩ : ∃ f fd, FB.FnAt _ mg "lot_but" FBlaw.s_lot_but f fd ["net", "signs", "many"] := by
      refine' FB.fnAt_mk KX G ?a ?l ?c ?k fun _ _ _ _ _ _ us hl => match us, hl with | [_, _, _], _ => rfl
      (case a => k_is); (case l => k_is); (case c => k_is); (case k => k_is)
    obtain ⟨a_is_firm, d_is_firm, u_is_firm⟩ : ∃ f fd, FB.FnAt _ mg "is_firm" FBlaw.s_is_firm f fd ["net", "signs", "many"] := by
      refine' FB.fnAt_mk KX G ?a ?l ?c ?k fun _ _ _ _ _ _ us hl => match us, hl with | [_, _, _], _ => rfl
      (case a => k_is); (case l => k_is); (case c => k_is); (case k => k_is)
    obtain ⟨a__law_cell_at, d__law_cell_at, u__law_cell_at⟩ : ∃ f fd, FB.FnAt _ mg "_law_cell_at" FBlaw.s__law_cell_at f fd ["_law_script", "_law_k"] := by
      refine' FB.fnAt_mk KX G ?a ?l ?c ?k fun _ _ _ _ _ _ us hl => match us, hl with | [_, _], _ => rfl
      (case a => k_is); (case l => k_is); (case c => k_is); (case k => k_is)
    obtain ⟨a__law_pen, d__law_pen, u__law_pen⟩ : ∃ f fd, FB.FnAt _ mg "_law_pen" FBlaw.s__law_pen f fd ["_law_cell"] := by
      refine' FB.fnAt_mk KX G ?a ?l ?c ?k fun _ _ _ _ _ _ us hl => match us, hl with | [_], _ => rfl
      (case a => k_is); (case l => k_is); (case c => k_is); (case k => k_is)
    obtain ⟨a__law_draw, d__law_draw, u__law_draw⟩ : ∃ f fd, FB.FnAt _ mg "_law_draw" FBlaw.s__law_draw f fd ["_law_pen_here", "_law_many"] := by
      refine' FB.fnAt_mk KX G ?a ?l ?c ?k fun _ _ _ _ _ _ us hl => match us, hl with | [_, _], _ => rfl
      (case a => k_is); (case l => k_is); (case c => k_is); (case k => k_is)
    obtain ⟨a__law_right, d__law_right, u__law_right⟩ : ∃ f fd, FB.FnAt _ mg "_law_right" FBlaw.s__law_right f fd ["_law_wide", "_law_one", "_law_other", "_law_more"] := by
      refine' FB.fnAt_mk KX G ?a ?l ?c ?k fun _ _ _ _ _ _ us hl => match us, hl with | [_, _, _, _], _ => rfl
      (case a => k_is); (case l => k_is); (case c => k_is); (case k => k_is)
    obtain ⟨a_law, d_law, u_law, bl⟩ : ∃ f fd, FB.FnAt _ mg "law" FBlaw.s_law f fd ["_law_script"] ∧ ∀ (s : Shared) (u : Value), BindsTo s fd ⟨[u], []⟩ [("_law_script", u)] := by
      refine' FB.fnLaw_mk KX G ?a ?l ?c ?k fun _ _ _ _ _ _ us hl => match us, hl with | [_], _ => rfl
      (case a => k_is); (case l => k_is); (case c => k_is); (case k => k_is)
    obtain ⟨e_NoNet, x_NoNet⟩ : ∃ C, FB.ExAt _ mg "NoNet" C := by
      refine' FB.exAt_mk KX G ?a ?xq ?xk ?xe ?xt
      (case a => k_is); (case xq => first | rfl | kernel_rfl | decide +kernel); (case xk => k_is); (case xe => k_is); (case xt => k_is)
    obtain ⟨e_NoNumber, x_NoNumber⟩ : ∃ C, FB.ExAt _ mg "NoNumber" C := by
      refine' FB.exAt_mk KX G ?a ?xq ?xk ?xe ?xt
      (case a => k_is); (case xq => first | rfl | kernel_rfl | decide +kernel); (case xk => k_is); (case xe => k_is); (case xt => k_is)
    obtain ⟨e_NoSigns, x_NoSigns⟩ : ∃ C, FB.ExAt _ mg "NoSigns" C := by
      refine' FB.exAt_mk KX G ?a ?xq ?xk ?xe ?xt
      (case a => k_is); (case xq => first | rfl | kernel_rfl | decide +kernel); (case xk => k_is); (case xe => k_is); (case xt => k_is)
    obtain ⟨v_BOUNDS, w_BOUNDS, c_BOUNDS⟩ : ∃ v u, mg "BOUNDS" = some u ∧ L2.RelV v u ∧ ∀ th G, FB.Rep _ th G v (FB.D.tup [(FB.D.tup [(FB.D.int 0), (FB.D.int 255)]), (FB.D.tup [(FB.D.int (-50)), (FB.D.int 100)]), (FB.D.tup [(FB.D.int (-50)), (FB.D.int 100)]), (FB.D.tup [(FB.D.int (-7)), (FB.D.int 7)]), (FB.D.tup [(FB.D.int (-7)), (FB.D.int 7)])]) := by
      refine' FB.const_mk KX G ?a (FB.kr_tup ?l0 (FB.krl_cons (FB.kr_tup ?l1 (FB.krl_cons FB.kr_int (FB.krl_cons FB.kr_int FB.krl_nil))) (FB.krl_cons (FB.kr_tup ?l2 (FB.krl_cons FB.kr_int (FB.krl_cons FB.kr_int FB.krl_nil))) (FB.krl_cons (FB.kr_tup ?l3 (FB.krl_cons FB.kr_int (FB.krl_cons FB.kr_int FB.krl_nil))) (FB.krl_cons (FB.kr_tup ?l4 (FB.krl_cons FB.kr_int (FB.krl_cons FB.kr_int FB.krl_nil))) (FB.krl_cons (FB.kr_tup ?l5 (FB.krl_cons FB.kr_int (FB.krl_cons FB.kr_int FB.krl_nil))) FB.krl_nil))))))
      (case a => k_is); (case l0 => k_is); (case l1 => k_is); (case l2 => k_is); (case l3 => k_is); (case l4 => k_is); (case l5 => k_is)
    obtain ⟨v_MOST_CLOCKS, w_MOST_CLOCKS, c_MOST_CLOCKS⟩ : ∃ v u, mg "MOST_CLOCKS" = some u ∧ L2.RelV v u ∧ ∀ th G, FB.Rep _ th G v (FB.D.int 12) := by
      refine' FB.const_mk KX G ?a FB.kr_int
      (case a => k_is)
    obtain ⟨v_MOST_HEARD, w_MOST_HEARD, c_MOST_HEARD⟩ : ∃ v u, mg "MOST_HEARD" = some u ∧ L2.RelV v u ∧ ∀ th G, FB.Rep _ th G v (FB.D.int 3000) := by
      refine' FB.const_mk KX G ?a FB.kr_int
      (case a => k_is)
    obtain ⟨v_MOST_HOUSES, w_MOST_HOUSES, c_MOST_HOUSES⟩ : ∃ v u, mg "MOST_HOUSES" = some u ∧ L2.RelV v u ∧ ∀ th G, FB.Rep _ th G v (FB.D.int 6) := by
      refine' FB.const_mk KX G ?a FB.kr_int
      (case a => k_is)
    obtain ⟨v_MOST_LIES, w_MOST_LIES, c_MOST_LIES⟩ : ∃ v u, mg "MOST_LIES" = some u ∧ L2.RelV v u ∧ ∀ th G, FB.Rep _ th G v (FB.D.int 12) := by
      refine' FB.const_mk KX G ?a FB.kr_int
      (case a => k_is)
    obtain ⟨v_MOST_SIDE, w_MOST_SIDE, c_MOST_SIDE⟩ : ∃ v u, mg "MOST_SIDE" = some u ∧ L2.RelV v u ∧ ∀ th G, FB.Rep _ th G v (FB.D.int 12) := by
      refine' FB.const_mk KX G ?a FB.kr_int
      (case a => k_is)
    obtain ⟨v_MOST_SIGNS, w_MOST_SIGNS, c_MOST_SIGNS⟩ : ∃ v u, mg "MOST_SIGNS" = some u ∧ L2.RelV v u ∧ ∀ th G, FB.Rep _ th G v (FB.D.int 12) := by
      refine' FB.const_mk KX G ?a FB.kr_int
      (case a => k_is)
    obtain ⟨v_MOST_SLIP, w_MOST_SLIP, c_MOST_SLIP⟩ : ∃ v u, mg "MOST_SLIP" = some u ∧ L2.RelV v u ∧ ∀ th G, FB.Rep _ th G v (FB.D.int 4) := by
      refine' FB.const_mk KX G ?a FB.kr_int
      (case a => k_is)
    obtain ⟨v_MOST_TICK, w_MOST_TICK, c_MOST_TICK⟩ : ∃ v u, mg "MOST_TICK" = some u ∧ L2.RelV v u ∧ ∀ th G, FB.Rep _ th G v (FB.D.int 300) := by
      refine' FB.const_mk KX G ?a FB.kr_int
      (case a => k_is)
    obtain ⟨v_MOST_WAYS, w_MOST_WAYS, c_MOST_WAYS⟩ : ∃ v u, mg "MOST_WAYS" = some u ∧ L2.RelV v u ∧ ∀ th G, FB.Rep _ th G v (FB.D.int 3) := by
      refine' FB.const_mk KX G ?a FB.kr_int
      (case a => k_is)
    have n_abs := PySem.W.mg_none_of (n := "abs") KX G (by k_is)
    have n_all := PySem.W.mg_none_of (n := "all") KX G (by k_is)
    have n_any := PySem.W.mg_none_of (n := "any") KX G (by k_is)
    have n_bool := PySem.W.mg_none_of (n := "bool") KX G (by k_is)
    have n_enumerate := PySem.W.mg_none_of (n := "enumerate") KX G (by k_is)
    have n_int := PySem.W.mg_none_of (n := "int") KX G (by k_is)
    have n_isinstance := PySem.W.mg_none_of (n := "isinstance") KX G (by k_is)
    have n_len := PySem.W.mg_none_of (n := "len") KX G (by k_is)
    have n_list := PySem.W.mg_none_of (n := "list") KX G (by k_is)
    have n_max := PySem.W.mg_none_of (n := "max") KX G (by k_is)
    have n_min := PySem.W.mg_none_of (n := "min") KX G (by k_is)
    have n_range := PySem.W.mg_none_of (n := "range") KX G (by k_is)
    have n_sorted := PySem.W.mg_none_of (n := "sorted") KX G (by k_is)
    have n_tuple := PySem.W.mg_none_of (n := "tuple") KX G (by k_is)
    have n_zip := PySem.W.mg_none_of (n := "zip") KX G (by k_is)
    have T : FBlaw.Tx _ mg ⟨a_is_whole, d_is_whole, a_is_within, d_is_within, a_rises, d_rises, a_is_way, d_is_way, a_is_house, d_is_house, a_place_by, d_place_by, a_is_net, d_is_net, a_need_net, d_need_net, a_all_stands, d_all_stands, a_far, d_far, a_is_sign_by, d_is_sign_by, a_due_at, d_due_at, a_slip_by, d_slip_by, a_fits_by, d_fits_by, a_are_signs_by, d_are_signs_by, a_need_signs, d_need_signs, a_lies_at, d_lies_at, a_told_stories, d_told_stories, a_fewest_by, d_fewest_by, a_fewest_lies, d_fewest_lies, a_named, d_named, a_need_many, d_need_many, a_lot_but, d_lot_but, a_is_firm, d_is_firm, a__law_cell_at, d__law_cell_at, a__law_pen, d__law_pen, a__law_draw, d__law_draw, a__law_right, d__law_right, a_law, d_law, e_NoNet, e_NoNumber, e_NoSigns, v_BOUNDS, w_BOUNDS, v_MOST_CLOCKS, w_MOST_CLOCKS, v_MOST_HEARD, w_MOST_HEARD, v_MOST_HOUSES, w_MOST_HOUSES, v_MOST_LIES, w_MOST_LIES, v_MOST_SIDE, w_MOST_SIDE, v_MOST_SIGNS, w_MOST_SIGNS, v_MOST_SLIP, w_MOST_SLIP, v_MOST_TICK, w_MOST_TICK, v_MOST_WAYS, w_MOST_WAYS⟩ := ⟨u_is_whole, u_is_within, u_rises, u_is_way, u_is_house, u_place_by, u_is_net, u_need_net, u_all_stands, u_far, u_is_sign_by, u_due_at, u_slip_by, u_fits_by, u_are_signs_by, u_need_signs, u_lies_at, u_told_stories, u_fewest_by, u_fewest_lies, u_named, u_need_many, u_lot_but, u_is_firm, u__law_cell_at, u__law_pen, u__law_draw, u__law_right, u_law, x_NoNet, x_NoNumber, x_NoSigns, c_BOUNDS, c_MOST_CLOCKS, c_MOST_HEARD, c_MOST_HOUSES, c_MOST_LIES, c_MOST_SIDE, c_MOST_SIGNS, c_MOST_SLIP, c_MOST_TICK, c_MOST_WAYS, n_abs, n_all, n_any, n_bool, n_enumerate, n_int, n_isinstance, n_len, n_list, n_max, n_min, n_range, n_sorted, n_tuple, n_zip⟩
    have e := hmg.symm.trans u_law.gm
    cases e
    exact ⟨d_law, bl, fun base _ _ => FBlaw.fg_law T⟩
