import PyProof.Rows.All
import Wide.All
import OpenK.AllK
import Wide.FinOn
import HandS.ForMost
import HandS.ForExc
import HandS.Deep
import HandS.IsInst
import HandS.Flow
import HandS.Style
import HandS.TupAny
import HandS.TupMul
import PyProof.Rows.IntBool
import HandS.Zip
import HandS.Walk
import HandS.ExcInit
import HandS.Lambda
import KE.GoesEnum
import HandS.Defaults
import HandS.Strs
import HandS.Codes
import HandS.SetFor
import HandS.ReCall
import HandS.IterVal
import HandS.Dict
import HandS.OwnEq
import HandS.HeadHook4
import KE.KExcSuper
import HandS.ExcSuper
import HandS.HotCalls
import HandS.ExcField
import HandS.ExcIs
import KE.KExcIs
import KE.KDflt
import PyProof.ReprRoads
import HandS.ListItems
import KE.KDictZip
import HandS.HeadNt
import HandS.HeadWalk
import KE.KStateDown
import HandS.Head0
import HandS.Head1
import HandS.Head2
import HandS.EndTab
import HandS.EndBits
import PySem.Challenge.RW_waterhours_k16_whole_turns
set_option Elab.async false
set_option linter.all false
set_option maxRecDepth 100000
set_option maxHeartbeats 4000000
/-! WA: data, what stands for it in a heap, environments of data, expressions by data. -/
namespace WL
open L2 PySem PySem.Spec
open LamX (ExtN)

/-! ### data -/
inductive D where
  | non | bl (b : Bool) | int (i : Int) | str (x : Str)
  | tup (xs : List D) | lst (xs : List D)
  | ins (C : Addr) (ks : List Str) (ds : List D)
  | row
  | adr (a : Addr)
  | dic (ks : List Key) (ds : List D)
  | tpn (xs : List D)
/-- the list that the draws come from: an object known by its form alone -/
def RowAt (a sa : Addr) (h : Heap) : Prop := ∃ (i x y : Int) (t0 t1 t2 : Tok) (n : Nat), 0 ≤ i ∧ 0 ≤ x ∧ x < 2147483647 ∧ 0 ≤ y ∧
  h.get? a = some { cls := .type "list", data := .seq #[.ref sa, .int i t0, .int x t1, .int y t2] n }
def rowO (a sa : Addr) : HO := .ext (RowAt a sa)

/-- the script: a list of ints that nothing here writes -/
def ScrAt (K : PySem.W.Frag) (A : Addr → Prop) (H : Hp) (sa : Addr) (ns : List Int) : Prop := (Rd H sa (.lst (ns.map V.int)) ∧ ¬ A sa) ∨ ∀ H1, SqL K H1 sa (ns.map V.int)

/-- a tuple whose object has no dict, as one knows -/
def NdT (K : PySem.W.Frag) (H : Hp) (a : Addr) (xs : List V) : Prop := (∃ o : Obj, o.dict = none ∧ H a = some (.frz o (.tup xs))) ∨ ((∃ o : Obj, K.lookup a = some o ∧ o.cls = .type "tuple" ∧ o.dict = none) ∧ ∀ H1, SqT K H1 a xs)
mutual
/-- v stands for d in H; A: addresses that are no part of it -/
inductive Rp (K : PySem.W.Frag) (A : Addr → Prop) (H : Hp) : V → D → Prop
  | non : Rp K A H .non .non
  | bl (b : Bool) : Rp K A H (.bl b) (.bl b)
  | int (i : Int) : Rp K A H (.int i) (.int i)
  | str (x : Str) : Rp K A H (.str x) (.str x)
  | tup {a : Addr} {xs : List V} {ds : List D} : SqT K H a xs → RpAll K A H xs ds → Rp K A H (.ref a) (.tup ds)
  | lst {a : Addr} {xs : List V} {ds : List D} : H a = some (.lst xs) → ¬ A a → RpAll K A H xs ds → Rp K A H (.ref a) (.lst ds)
  | ins {a C dx : Addr} {ks : List Str} {vs : List V} {ds : List D} : H a = some (.ins C dx (ks.zip vs)) → ks.length = vs.length → ¬ A a → RpAll K A H vs ds → Rp K A H (.ref a) (.ins C ks ds)
  | row {a sa : Addr} {ns : List Int} : H a = some (rowO a sa) → ScrAt K A H sa ns → ¬ A a → Rp K A H (.ref a) .row
  | adr (a : Addr) : Rp K A H (.ref a) (.adr a)
  | dic {a : Addr} {ks : List Key} {vs : List V} {ds : List D} : H a = some (.dK (ks.zip vs)) → ks.length = vs.length → ¬ A a → RpAll K A H vs ds → Rp K A H (.ref a) (.dic ks ds)
  | tpn {a : Addr} {xs : List V} {ds : List D} : NdT K H a xs → RpAll K A H xs ds → Rp K A H (.ref a) (.tpn ds)
inductive RpAll (K : PySem.W.Frag) (A : Addr → Prop) (H : Hp) : List V → List D → Prop
  | nil : RpAll K A H [] []
  | cons {v : V} {vs : List V} {d : D} {ds : List D} : Rp K A H v d → RpAll K A H vs ds → RpAll K A H (v :: vs) (d :: ds)
end

section
variable {K : PySem.W.Frag} {A A' : Addr → Prop} {H H' H1 : Hp}
/-- all but what stands at A (and the tables) is as it was -/
def Keeps (A : Addr → Prop) (H H' : Hp) : Prop := ∀ b o, H b = some o → ¬ A b → (∀ ps, o ≠ .tbl ps) → H' b = some o
theorem Keeps.refl : Keeps A H H := fun _ _ e _ _ => e
theorem Keeps.ext (e : ExtN H H') : Keeps A H H' := fun b o q _ n => e b o q n
/-- what may be in A -/
def AOk (A : Addr → Prop) (H : Hp) : Prop := ∀ a, A a → (∃ xs, H a = some (.lst xs)) ∨ ∃ C dx fs, H a = some (.ins C dx fs)
/-- nothing stands at a, or a table -/
def Nt (H : Hp) (a : Addr) : Prop := ∀ o, H a = some o → ∃ ps, o = .tbl ps
theorem Nt.of {a : Addr} (h : H a = none) : Nt H a := fun o e => by rw [h] at e; cases e
theorem Nt.back {a : Addr} (h : Nt H' a) (e : ExtN H H') : Nt H a := fun o q => by
  by_cases z : ∃ ps, o = .tbl ps
  · exact z
  · exact h o (e a o q fun ps w => z ⟨ps, w⟩)
theorem Nt.ne {a b : Addr} {o : HO} (h : Nt H a) (e : H b = some o) (n : ∀ ps, o ≠ .tbl ps) : b ≠ a := fun z => by
  subst z
  obtain ⟨ps, q⟩ := h o e
  exact n ps q
def Fresh (A A' : Addr → Prop) (H : Hp) : Prop := ∀ a, A' a → A a ∨ Nt H a

theorem AOk.no {a : Addr} {o : HO} (k : AOk A H) (e : H a = some o) (h1 : ∀ xs, o ≠ .lst xs) (h2 : ∀ C dx fs, o ≠ .ins C dx fs) : ¬ A a := fun z => by
  rcases k a z with ⟨xs, q⟩ | ⟨C, dx, fs, q⟩
  · rw [e] at q; exact h1 xs (Option.some.inj q)
  · rw [e] at q; exact h2 _ _ _ (Option.some.inj q)
theorem AOk.ext (k : AOk A H) (e : ExtN H H') : AOk A H' := fun a z => by
  rcases k a z with ⟨xs, q⟩ | ⟨C, dx, fs, q⟩
  · exact .inl ⟨xs, e a _ q fun _ z => nomatch z⟩
  · exact .inr ⟨C, dx, fs, e a _ q fun _ z => nomatch z⟩

theorem sqT_keep {a : Addr} {xs : List V} (ok : AOk A H) (k : Keeps A H H') (h : SqT K H a xs) : SqT K H' a xs := by
  rcases h with (h | ⟨o, h⟩) | h
  · exact .inl (.inl (k _ _ h (ok.no h (fun _ z => nomatch z) fun _ _ _ z => nomatch z) fun _ z => nomatch z))
  · exact .inl (.inr ⟨o, k _ _ h (ok.no h (fun _ z => nomatch z) fun _ _ _ z => nomatch z) fun _ z => nomatch z⟩)
  · exact .inr h
theorem ndT_keep {a : Addr} {xs : List V} (ok : AOk A H) (k : Keeps A H H') (h : NdT K H a xs) : NdT K H' a xs := by
  rcases h with ⟨o, d, h⟩ | h
  · exact .inl ⟨o, d, k _ _ h (ok.no h (fun _ z => nomatch z) fun _ _ _ z => nomatch z) fun _ z => nomatch z⟩
  · exact .inr h
theorem NdT.seq {a : Addr} {xs : List V} (h : NdT K H a xs) : SqT K H a xs := by
  rcases h with ⟨o, _, h⟩ | ⟨_, h⟩
  · exact .inl (.inr ⟨o, h⟩)
  · exact h H
theorem ScrAt.move {sa : Addr} {ns : List Int} (h : ScrAt K A H sa ns) (k : Keeps A H H') (f : Fresh A A' H) : ScrAt K A' H' sa ns := by
  rcases h with ⟨h | ⟨o, h⟩, n⟩ | h
  · refine .inl ⟨.inl (k _ _ h n fun _ z => nomatch z), fun z => ?_⟩
    rcases f _ z with q | q
    · exact n q
    · obtain ⟨_, w⟩ := q _ h; cases w
  · refine .inl ⟨.inr ⟨o, k _ _ h n fun _ z => nomatch z⟩, fun z => ?_⟩
    rcases f _ z with q | q
    · exact n q
    · obtain ⟨_, w⟩ := q _ h; cases w
  · exact .inr h
theorem ScrAt.seq {sa : Addr} {ns : List Int} (h : ScrAt K A H sa ns) : SqL K H sa (ns.map V.int) := by
  rcases h with ⟨h, _⟩ | h
  · exact .inl h
  · exact h H
theorem sqL_keep {a : Addr} {xs : List V} (k : Keeps A H H') (h : SqL K H a xs) (n : ¬ A a) : SqL K H' a xs := by
  rcases h with (h | ⟨o, h⟩) | h
  · exact .inl (.inl (k _ _ h n fun _ z => nomatch z))
  · exact .inl (.inr ⟨o, k _ _ h n fun _ z => nomatch z⟩)
  · exact .inr h

mutual
/-- what stands for data goes on to do so -/
theorem Rp.move (ok : AOk A H) (k : Keeps A H H') (f : Fresh A A' H) : ∀ {v : V} {d : D}, Rp K A H v d → Rp K A' H' v d
  | _, _, .non => .non
  | _, _, .bl b => .bl b
  | _, _, .int i => .int i
  | _, _, .str x => .str x
  | _, _, .tup h r => .tup (sqT_keep ok k h) (RpAll.move ok k f r)
  | _, _, .lst h n r => .lst (k _ _ h n fun _ z => nomatch z) (fun z => by
      rcases f _ z with q | q
      · exact n q
      · obtain ⟨_, w⟩ := q _ h; cases w) (RpAll.move ok k f r)
  | _, _, .ins h e n r => .ins (k _ _ h n fun _ z => nomatch z) e (fun z => by
      rcases f _ z with q | q
      · exact n q
      · obtain ⟨_, w⟩ := q _ h; cases w) (RpAll.move ok k f r)
  | _, _, .row h s n => .row (k _ _ h n fun _ z => nomatch z) (s.move k f) (fun z => by
      rcases f _ z with q | q
      · exact n q
      · obtain ⟨_, w⟩ := q _ h; cases w)
  | _, _, .adr a => .adr a
  | _, _, .tpn h r => .tpn (ndT_keep ok k h) (RpAll.move ok k f r)
  | _, _, .dic h e n r => .dic (k _ _ h n fun _ z => nomatch z) e (fun z => by
      rcases f _ z with q | q
      · exact n q
      · obtain ⟨_, w⟩ := q _ h; cases w) (RpAll.move ok k f r)
theorem RpAll.move (ok : AOk A H) (k : Keeps A H H') (f : Fresh A A' H) : ∀ {vs : List V} {ds : List D}, RpAll K A H vs ds → RpAll K A' H' vs ds
  | _, _, .nil => .nil
  | _, _, .cons r t => .cons (Rp.move ok k f r) (RpAll.move ok k f t)
end
theorem Fresh.refl : Fresh A A H := fun _ z => .inl z
theorem Rp.ext (ok : AOk A H) (e : ExtN H H') {v : V} {d : D} (r : Rp K A H v d) : Rp K A H' v d := r.move ok (.ext e) .refl
theorem RpAll.ext (ok : AOk A H) (e : ExtN H H') {vs : List V} {ds : List D} (r : RpAll K A H vs ds) : RpAll K A H' vs ds := r.move ok (.ext e) .refl
theorem RpAll.length : ∀ {vs : List V} {ds : List D}, RpAll K A H vs ds → vs.length = ds.length
  | _, _, .nil => rfl
  | _, _, .cons _ t => congrArg (· + 1) (RpAll.length t)
theorem RpAll.get : ∀ {vs : List V} {ds : List D} {i : Nat} {d : D}, RpAll K A H vs ds → ds[i]? = some d → ∃ v, vs[i]? = some v ∧ Rp K A H v d
  | _, _, 0, _, .cons r _, e => by simp at e; subst e; exact ⟨_, rfl, r⟩
  | _, _, i + 1, _, .cons _ t, e => by
    obtain ⟨v, h, r⟩ := RpAll.get (i := i) t (by simpa using e)
    exact ⟨v, by simpa using h, r⟩
theorem RpAll.getV : ∀ {vs : List V} {ds : List D} {i : Nat} {v : V}, RpAll K A H vs ds → vs[i]? = some v → ∃ d, ds[i]? = some d ∧ Rp K A H v d
  | _, _, 0, _, .cons r _, e => by simp at e; subst e; exact ⟨_, rfl, r⟩
  | _, _, i + 1, _, .cons _ t, e => by
    obtain ⟨v, h, r⟩ := RpAll.getV (i := i) t (by simpa using e)
    exact ⟨v, by simpa using h, r⟩
theorem RpAll.append : ∀ {vs us : List V} {ds es : List D}, RpAll K A H vs ds → RpAll K A H us es → RpAll K A H (vs ++ us) (ds ++ es)
  | _, _, _, _, .nil, s => s
  | _, _, _, _, .cons r t, s => .cons r (RpAll.append t s)
theorem RpAll.drop : ∀ {vs : List V} {ds : List D} (n : Nat), RpAll K A H vs ds → RpAll K A H (vs.drop n) (ds.drop n)
  | _, _, 0, r => r
  | _, _, _ + 1, .nil => .nil
  | _, _, n + 1, .cons _ t => RpAll.drop n t
theorem RpAll.take : ∀ {vs : List V} {ds : List D} (n : Nat), RpAll K A H vs ds → RpAll K A H (vs.take n) (ds.take n)
  | _, _, 0, _ => .nil
  | _, _, _ + 1, .nil => .nil
  | _, _, n + 1, .cons r t => .cons r (RpAll.take n t)
theorem RpAll.rev {vs : List V} {ds : List D} (r : RpAll K A H vs ds) : RpAll K A H vs.reverse ds.reverse := by
  induction ds generalizing vs with
  | nil => cases r; exact .nil
  | cons d ds ih =>
    cases r with
    | cons r t =>
      rw [List.reverse_cons, List.reverse_cons]
      exact (ih t).append (.cons r .nil)
theorem RpAll.set {v : V} {d : D} (q : Rp K A H v d) : ∀ {vs : List V} {ds : List D} (n : Nat), RpAll K A H vs ds → RpAll K A H (vs.set n v) (ds.set n d)
  | _, _, _, .nil => .nil
  | _, _, 0, .cons _ t => .cons q t
  | _, _, n + 1, .cons r t => .cons r (RpAll.set q n t)
theorem RpAll.ints (K : PySem.W.Frag) (A : Addr → Prop) (H : Hp) : ∀ ns : List Int, RpAll K A H (ns.map V.int) (ns.map D.int)
  | [] => .nil
  | n :: r => .cons (.int n) (RpAll.ints K A H r)
theorem RpAll.ofInts : ∀ {ns : List Int} {vs : List V}, RpAll K A H vs (ns.map D.int) → vs = ns.map V.int
  | [], _, .nil => rfl
  | _ :: _, _, .cons (.int _) t => congrArg (_ :: ·) (RpAll.ofInts t)
theorem RpAll.ofBls : ∀ {ns : List Bool} {vs : List V}, RpAll K A H vs (ns.map D.bl) → vs = ns.map V.bl
  | [], _, .nil => rfl
  | _ :: _, _, .cons (.bl _) t => congrArg (_ :: ·) (RpAll.ofBls t)
theorem RpAll.ofStrs : ∀ {ns : List Str} {vs : List V}, RpAll K A H vs (ns.map D.str) → vs = ns.map V.str
  | [], _, .nil => rfl
  | _ :: _, _, .cons (.str _) t => congrArg (_ :: ·) (RpAll.ofStrs t)
end

/-! ### environments -/
inductive Sl where
  | dat (d : D) | own (ds : List D) | obj (C : Addr) (ks : List Str) (ds : List D)
abbrev DEnv := List (Option Sl)
@[simp] def look : DEnv → Nat → Option Sl
  | [], _ => none
  | x :: _, 0 => x
  | _ :: r, n + 1 => look r n
@[simp] def put : DEnv → Nat → Option Sl → DEnv
  | [], _, _ => []
  | _ :: r, 0, y => y :: r
  | x :: r, n + 1, y => x :: put r n y
theorem put_length (y : Option Sl) : ∀ (ρ : DEnv) (i : Nat), (put ρ i y).length = ρ.length
  | [], _ => rfl
  | _ :: _, 0 => rfl
  | _ :: r, n + 1 => congrArg (· + 1) (put_length y r n)
theorem look_put_ne (y : Option Sl) : ∀ (ρ : DEnv) (i j : Nat), j ≠ i → look (put ρ i y) j = look ρ j
  | [], _, _, _ => rfl
  | _ :: _, 0, 0, h => absurd rfl h
  | _ :: _, 0, _ + 1, _ => rfl
  | _ :: _, _ + 1, 0, _ => rfl
  | _ :: r, i + 1, j + 1, h => look_put_ne y r i j fun e => h (congrArg (· + 1) e)
theorem look_put_eq {y : Option Sl} : ∀ {ρ : DEnv} {i : Nat} {s : Sl}, look (put ρ i y) i = some s → y = some s ∧ i < ρ.length
  | [], _, _, h => nomatch h
  | _ :: _, 0, _, h => ⟨h, Nat.succ_pos _⟩
  | _ :: r, i + 1, _, h => let ⟨a, b⟩ := look_put_eq (ρ := r) (i := i) h; ⟨a, Nat.succ_lt_succ b⟩
theorem look_lt : ∀ {ρ : DEnv} {i : Nat} {s : Sl}, look ρ i = some s → i < ρ.length
  | [], _, _, h => nomatch h
  | _ :: _, 0, _, _ => Nat.succ_pos _
  | _ :: r, i + 1, _, h => Nat.succ_lt_succ (look_lt (ρ := r) (i := i) h)

/-- how one heap goes on to another, beyond what is tracked and kept -/
structure Gr where
  r : Hp → Hp → Prop
  refl : ∀ H, r H H
  trans : ∀ {H H1 H2}, r H H1 → r H1 H2 → r H H2
  same : ∀ {H H'}, Same H H' → r H H'
  ext : ∀ {H H'}, r H H' → ExtN H H'
  mutd : ∀ {H0 H : Hp} {p : Addr} {o : HO}, r H0 H → Nt H0 p → ((∃ xs, H p = some (.lst xs)) ∨ ∃ C dx fs, H p = some (.ins C dx fs)) → r H0 (upd H p o)
theorem upd_fresh_same {H : Hp} {p : Addr} {o : HO} (h : H p = none) : Same H (upd H p o) := fun b u e => by
  rw [upd_ne (ne_of_none e h)]; exact e
theorem extN_same {H H' : Hp} (e : Same H H') : ExtN H H' := fun b o q _ => e b o q
def GrSame : Gr where
  r := Same
  refl := Same.refl
  trans := Same.trans
  same := id
  ext := extN_same
  mutd := fun {H0 H p o} g n hm b u e => by
    have q := g b u e
    rw [upd_ne]
    · exact q
    · intro z
      subst z
      obtain ⟨ps, w⟩ := n u e
      subst w
      rcases hm with ⟨xs, w⟩ | ⟨C, dx, fs, w⟩ <;> (rw [q] at w; cases w)

/-- an error that a def lets out: its class, its fields -/
structure Xn where
  C : Addr
  ks : List Str
  ds : List D
structure Yx where
  G : Gr
  H0 : Hp
  A0 : Addr → Prop
  ex : XK
  ob : Addr → Addr → Prop
def RpX (K : PySem.W.Frag) (A : Addr → Prop) (H : Hp) (cls : Value) (dd : Option Addr) (x : Xn) : Prop :=
  cls = .ref x.C ∧ ∃ (d : Addr) (vs : List V), dd = some d ∧ H d = some (.xd (x.ks.zip vs)) ∧ x.ks.length = vs.length ∧ RpAll K A H vs x.ds
def ExOk (K : PySem.W.Frag) (Y : Yx) (E : Xn → Prop) : Prop := ∀ (x : Xn) (cls : Value) (dd : Option Addr) (H : Hp), E x → Y.G.r Y.H0 H → RpX K Y.A0 H cls dd x → Y.ex cls dd H

def SlOk (K : PySem.W.Frag) (Y : Yx) (A : Addr → Prop) (H : Hp) (σ : St) (i : Nat) : Sl → Prop
  | .dat d => ∃ v, σ[i]? = some (some v) ∧ Rp K A H v d
  | .own ds => ∃ (p : Addr) (xs : List V), σ[i]? = some (some (.ref p)) ∧ H p = some (.lst xs) ∧ A p ∧ Nt Y.H0 p ∧ RpAll K A H xs ds
  | .obj C ks ds => ∃ (p dx : Addr) (vs : List V), σ[i]? = some (some (.ref p)) ∧ H p = some (.ins C dx (ks.zip vs)) ∧ ks.length = vs.length ∧ A p ∧ (Nt Y.H0 p ∧ Y.ob p dx) ∧ RpAll K A H vs ds
def isDat : Sl → Bool
  | .dat _ => true
  | _ => false
structure EnvOk (K : PySem.W.Frag) (Y : Yx) (A : Addr → Prop) (H : Hp) (σ : St) (ρ : DEnv) : Prop where
  go : Y.G.r Y.H0 H
  a0 : ∀ a, Y.A0 a → A a ∧ ¬ Nt Y.H0 a
  fr : ∀ a, A a → Y.A0 a ∨ Nt Y.H0 a
  aok : AOk A H
  len : σ.length = ρ.length
  sl : ∀ i s, look ρ i = some s → SlOk K Y A H σ i s
  dist : ∀ i j p s t, look ρ i = some s → look ρ j = some t → isDat s = false → isDat t = false → σ[i]? = some (some (.ref p)) → σ[j]? = some (some (.ref p)) → i = j
section
variable {K : PySem.W.Frag} {Y : Yx} {A A' : Addr → Prop} {H H' : Hp} {σ : St} {ρ : DEnv}
theorem EnvOk.step (e : EnvOk K Y A H σ ρ) (g : Y.G.r H H') : EnvOk K Y A H' σ ρ := by
  have x := Y.G.ext g
  refine ⟨Y.G.trans e.go g, e.a0, e.fr, e.aok.ext x, e.len, fun i s h => ?_, e.dist⟩
  have q := e.sl i s h
  cases s with
  | dat d => obtain ⟨v, a, b⟩ := q; exact ⟨v, a, b.ext e.aok x⟩
  | own ds => obtain ⟨p, xs, a, b, c, d, r⟩ := q; exact ⟨p, xs, a, x _ _ b (fun _ z => nomatch z), c, d, r.ext e.aok x⟩
  | obj C ks ds => obtain ⟨p, dx, vs, a, b, l, c, d, r⟩ := q; exact ⟨p, dx, vs, a, x _ _ b (fun _ z => nomatch z), l, c, d, r.ext e.aok x⟩
theorem EnvOk.setDat (e : EnvOk K Y A H σ ρ) {i : Nat} {v : V} {d : D} (r : Rp K A H v d) : EnvOk K Y A H (σ.set i (some v)) (put ρ i (some (.dat d))) := by
  refine ⟨e.go, e.a0, e.fr, e.aok, by rw [List.length_set, put_length]; exact e.len, fun j s h => ?_, fun j k p s t h1 h2 i1 i2 e1 e2 => ?_⟩
  · by_cases hj : j = i
    · subst hj
      obtain ⟨h1, h2⟩ := look_put_eq h
      cases h1
      exact ⟨v, List.getElem?_set_self (by rw [e.len]; exact h2), r⟩
    · rw [look_put_ne _ _ _ _ hj] at h
      have q := e.sl j s h
      cases s <;> (rw [SlOk, List.getElem?_set_ne (Ne.symm hj)]; exact q)
  · have nj : j ≠ i := fun z => by
      subst z
      obtain ⟨q, _⟩ := look_put_eq h1
      cases q; cases i1
    have nk : k ≠ i := fun z => by
      subst z
      obtain ⟨q, _⟩ := look_put_eq h2
      cases q; cases i2
    rw [look_put_ne _ _ _ _ nj] at h1
    rw [look_put_ne _ _ _ _ nk] at h2
    rw [List.getElem?_set_ne (Ne.symm nj)] at e1
    rw [List.getElem?_set_ne (Ne.symm nk)] at e2
    exact e.dist j k p s t h1 h2 i1 i2 e1 e2
/-- another heap, another A: all that is held stands there -/
theorem EnvOk.move (e : EnvOk K Y A H σ ρ) (g : Y.G.r Y.H0 H') (a0 : ∀ a, Y.A0 a → A' a) (ok : AOk A' H') (k : Keeps A H H') (f : Fresh A A' H)
    (w : ∀ i s, look ρ i = some s → isDat s = false → SlOk K Y A' H' σ i s) : EnvOk K Y A' H' σ ρ := by
  refine ⟨g, fun a z => ⟨a0 a z, (e.a0 a z).2⟩, fun a z => (f a z).elim (e.fr a) fun n => .inr (n.back (Y.G.ext e.go)), ok, e.len, fun i s h => ?_, e.dist⟩
  cases s with
  | dat d =>
    obtain ⟨v, a, b⟩ := e.sl i _ h
    exact ⟨v, a, b.move e.aok k f⟩
  | own ds => exact w i _ h rfl
  | obj C ks ds => exact w i _ h rfl
end
end WL
namespace WL
open L2 PySem PySem.Spec
open LamX (ExtN)

/-! ### expressions by data -/
abbrev M := (D → Prop) → (Xn → Prop) → Prop
abbrev EM := DEnv → M
abbrev EMs := DEnv → (List D → Prop) → (Xn → Prop) → Prop
abbrev EMt := DEnv → (Bool → Prop) → (Xn → Prop) → Prop

def liftG {α β : Type} (X : Cx) (Y : Yx) (R : (Addr → Prop) → Hp → Hp → α → β → Prop) (m : DEnv → (β → Prop) → (Xn → Prop) → Prop) : St → Hp → (α → Hp → Prop) → Prop := fun σ H Q =>
  ∃ (A : Addr → Prop) (ρ : DEnv) (Qd : β → Prop) (E : Xn → Prop), EnvOk X.K Y A H σ ρ ∧ ExOk X.K Y E ∧ m ρ Qd E ∧ ∀ v H' d, Y.G.r H H' → R A H H' v d → Qd d → Q v H'

/-- as Rp, but the thing itself may be one that is owned -/
inductive Rq (K : PySem.W.Frag) (A : Addr → Prop) (H : Hp) : V → D → Prop
  | non : Rq K A H .non .non
  | bl (b : Bool) : Rq K A H (.bl b) (.bl b)
  | int (i : Int) : Rq K A H (.int i) (.int i)
  | str (x : Str) : Rq K A H (.str x) (.str x)
  | tup {a : Addr} {xs : List V} {ds : List D} : SqT K H a xs → RpAll K A H xs ds → Rq K A H (.ref a) (.tup ds)
  | lst {a : Addr} {xs : List V} {ds : List D} : H a = some (.lst xs) → RpAll K A H xs ds → Rq K A H (.ref a) (.lst ds)
  | ins {a C dx : Addr} {ks : List Str} {vs : List V} {ds : List D} : H a = some (.ins C dx (ks.zip vs)) → ks.length = vs.length → RpAll K A H vs ds → Rq K A H (.ref a) (.ins C ks ds)
  | row {a sa : Addr} {ns : List Int} : H a = some (rowO a sa) → ScrAt K A H sa ns → Rq K A H (.ref a) .row
  | adr (a : Addr) : Rq K A H (.ref a) (.adr a)
  | dic {a : Addr} {ks : List Key} {vs : List V} {ds : List D} : H a = some (.dK (ks.zip vs)) → ks.length = vs.length → RpAll K A H vs ds → Rq K A H (.ref a) (.dic ks ds)
  | tpn {a : Addr} {xs : List V} {ds : List D} : NdT K H a xs → RpAll K A H xs ds → Rq K A H (.ref a) (.tpn ds)
inductive RqAll (K : PySem.W.Frag) (A : Addr → Prop) (H : Hp) : List V → List D → Prop
  | nil : RqAll K A H [] []
  | cons {v : V} {vs : List V} {d : D} {ds : List D} : Rq K A H v d → RqAll K A H vs ds → RqAll K A H (v :: vs) (d :: ds)
section
variable {K : PySem.W.Frag} {A : Addr → Prop} {H H' : Hp}
theorem Rp.q {v : V} {d : D} (r : Rp K A H v d) : Rq K A H v d := by
  cases r with
  | non => exact .non
  | bl b => exact .bl b
  | int i => exact .int i
  | str x => exact .str x
  | tup h r => exact .tup h r
  | lst h n r => exact .lst h r
  | ins h e n r => exact .ins h e r
  | row h s n => exact .row h s
  | adr a => exact .adr a
  | dic h e n r => exact .dic h e r
  | tpn h r => exact .tpn h r
theorem Rq.ext (ok : AOk A H) (e : ExtN H H') {v : V} {d : D} (r : Rq K A H v d) : Rq K A H' v d := by
  cases r with
  | non => exact .non
  | bl b => exact .bl b
  | int i => exact .int i
  | str x => exact .str x
  | tup h r => exact .tup (sqT_keep ok (.ext e) h) (r.ext ok e)
  | lst h r => exact .lst (e _ _ h fun _ z => nomatch z) (r.ext ok e)
  | ins h l r => exact .ins (e _ _ h fun _ z => nomatch z) l (r.ext ok e)
  | row h s => exact .row (e _ _ h fun _ z => nomatch z) (s.move (.ext e) .refl)
  | adr a => exact .adr a
  | dic h l r => exact .dic (e _ _ h fun _ z => nomatch z) l (r.ext ok e)
  | tpn h r => exact .tpn (ndT_keep ok (.ext e) h) (r.ext ok e)
end
abbrev Ap (A : Addr → Prop) (p : Addr) : Addr → Prop := fun a => A a ∨ a = p
def rD (K : PySem.W.Frag) (A : Addr → Prop) (_ H' : Hp) (v : V) (d : D) : Prop := Rp K A H' v d
def rQ (K : PySem.W.Frag) (A : Addr → Prop) (_ H' : Hp) (v : V) (d : D) : Prop := Rq K A H' v d
def rDs (K : PySem.W.Frag) (A : Addr → Prop) (_ H' : Hp) (v : List V) (d : List D) : Prop := RpAll K A H' v d
def rQs (K : PySem.W.Frag) (A : Addr → Prop) (_ H' : Hp) (v : List V) (d : List D) : Prop := RqAll K A H' v d
def rB (_ : Addr → Prop) (_ _ : Hp) (a b : Bool) : Prop := a = b
/-- a new list -/
def rF (K : PySem.W.Frag) (A : Addr → Prop) (H H' : Hp) (v : V) (ds : List D) : Prop := ∃ (p : Addr) (xs : List V), v = .ref p ∧ Nt H p ∧ H' p = some (.lst xs) ∧ RpAll K (Ap A p) H' xs ds

theorem pe_imp {X : Cx} {e : Expr} {t t' : TE} (h : PE X e t) (k : ∀ σ H Q, t' σ H Q → t σ H Q) : PE X e t' := ⟨fun pins s σ H Q I q => h.run pins s σ H Q I (k _ _ _ q)⟩
theorem pt_imp {X : Cx} {e : Expr} {t t' : TT} (h : PT X e t) (k : ∀ σ H Q, t' σ H Q → t σ H Q) : PT X e t' := ⟨fun pins s σ H Q I q => h.run pins s σ H Q I (k _ _ _ q)⟩
theorem pa_imp {X : Cx} {e : List Expr} {t t' : TA} (h : PA X e t) (k : ∀ σ H Q, t' σ H Q → t σ H Q) : PA X e t' := ⟨fun pos pins s σ H Q I q => h.run pos pins s σ H Q I (k _ _ _ q)⟩
theorem pw_imp {X : Cx} {e : Expr} {t t' : TT} (h : PW X e t) (k : ∀ σ H Q, t' σ H Q → t σ H Q) : PW X e t' := ⟨fun wh pins s σ H Q I q => h.run wh pins s σ H Q I (k _ _ _ q)⟩

def PD (X : Cx) (Y : Yx) (e : Expr) (m : EM) : Prop := PE X e (liftG X Y (rD X.K) m)
def PQ (X : Cx) (Y : Yx) (e : Expr) (m : EM) : Prop := PE X e (liftG X Y (rQ X.K) m)
def PF (X : Cx) (Y : Yx) (e : Expr) (m : EMs) : Prop := PE X e (liftG X Y (rF X.K) m)
def PAd (X : Cx) (Y : Yx) (es : List Expr) (m : EMs) : Prop := PA X es (liftG X Y (rDs X.K) m)
def PAq (X : Cx) (Y : Yx) (es : List Expr) (m : EMs) : Prop := PA X es (liftG X Y (rQs X.K) m)
def PTd (X : Cx) (Y : Yx) (e : Expr) (m : EMt) : Prop := PT X e (liftG X Y rB m)
def PWd (X : Cx) (Y : Yx) (e : Expr) (m : EMt) : Prop := PW X e (liftG X Y rB m)

@[simp ↓] def mK (d : D) (_ : DEnv) (Q : D → Prop) (_ : Xn → Prop) : Prop := Q d
@[simp ↓] def mVar (i : Nat) (ρ : DEnv) (Q : D → Prop) (_ : Xn → Prop) : Prop := match look ρ i with
  | some (.dat d) => Q d
  | _ => False
@[simp ↓] def mOwn (i : Nat) (ρ : DEnv) (Q : D → Prop) (_ : Xn → Prop) : Prop := match look ρ i with
  | some (.own ds) => Q (.lst ds)
  | _ => False
@[simp ↓] def mNil (_ : DEnv) (Q : List D → Prop) (_ : Xn → Prop) : Prop := Q []
@[simp ↓] def mCons (a : EM) (r : EMs) (ρ : DEnv) (Q : List D → Prop) (E : Xn → Prop) : Prop := a ρ (fun x => r ρ (fun xs => Q (x :: xs)) E) E
/-- a list that was just made -/
@[simp ↓] def mNew (m : EMs) (ρ : DEnv) (Q : D → Prop) (E : Xn → Prop) : Prop := m ρ (fun ds => Q (.lst ds)) E
@[simp ↓] def mTup (m : EMs) (ρ : DEnv) (Q : D → Prop) (E : Xn → Prop) : Prop := m ρ (fun ds => ds.length ≤ 1000 ∧ Q (.tup ds)) E
@[simp ↓] def mLst (m : EMs) (ρ : DEnv) (Q : List D → Prop) (E : Xn → Prop) : Prop := m ρ (fun ds => ds.length ≤ 1000 ∧ Q ds) E

section
variable {X : Cx} {Y : Yx} {e a b : Expr} {es : List Expr} {m ma mb : EM} {ms : EMs} {x : Str} {pos : Pos} {i : Nat}
theorem pq (h : PD X Y e m) : PQ X Y e m := pe_imp h fun σ H Q ⟨A, ρ, Qd, E, env, ex, hm, k⟩ => ⟨A, ρ, Qd, E, env, ex, hm, fun v H' d g r q => k v H' d g r.q q⟩
theorem pd_new {m : EMs} (h : PF X Y e m) : PD X Y e (mNew m) := pe_imp h fun σ H Q ⟨A, ρ, Qd, E, env, ex, hm, k⟩ =>
  ⟨A, ρ, _, E, env, ex, hm, fun v H' ds g ⟨p, xs, e1, hp, hl, r⟩ q => by
    subst e1
    have g' := env.step g
    refine k _ H' _ g (.lst hl (fun z => ?_) (r.move (A' := A) (H' := H') ?_ .refl fun a z => .inl (.inl z))) q
    · rcases env.aok p z with ⟨ys, w⟩ | ⟨C, dx, fs, w⟩ <;> (obtain ⟨_, q⟩ := hp _ w; cases q)
    · intro a z
      rcases z with z | z
      · exact g'.aok a z
      · subst z; exact .inl ⟨xs, hl⟩⟩
theorem pd_var (hN : X.N[i]? = some x := by rfl) (hv : Vis X.env.scope x := by first | exact Or.inl rfl | exact Or.inr (Or.inl rfl) | exact Or.inr (Or.inr rfl)) (hd : (x == ("__debug__" : Str)) = false := by decide)
    (hcd : (x == ("__classdict__" : Str)) = false := by decide) : PD X Y (.Name x pos) (mVar i) := by
  refine pe_imp (pe_var hN hv hd hcd) fun σ H Q ⟨A, ρ, Qd, E, env, ex, hm, k⟩ => ?_
  unfold mVar at hm
  split at hm
  · rename_i d h
    obtain ⟨v, h1, h2⟩ := env.sl i _ h
    exact ⟨v, h1, k v H d (Y.G.refl H) h2 hm⟩
  · exact hm.elim
theorem pq_own (hN : X.N[i]? = some x := by rfl) (hv : Vis X.env.scope x := by first | exact Or.inl rfl | exact Or.inr (Or.inl rfl) | exact Or.inr (Or.inr rfl)) (hd : (x == ("__debug__" : Str)) = false := by decide)
    (hcd : (x == ("__classdict__" : Str)) = false := by decide) : PQ X Y (.Name x pos) (mOwn i) := by
  refine pe_imp (pe_var hN hv hd hcd) fun σ H Q ⟨A, ρ, Qd, E, env, ex, hm, k⟩ => ?_
  unfold mOwn at hm
  split at hm
  · rename_i d h
    obtain ⟨p, xs, h1, h2, _, _, r⟩ := env.sl i _ h
    exact ⟨_, h1, k _ H _ (Y.G.refl H) (.lst h2 r) hm⟩
  · exact hm.elim
theorem pd_const {v : V} {d : D} (h : PE X e (tC v)) (r : ∀ K A H, Rp K A H v d) : PD X Y e (mK d) :=
  pe_imp h fun σ H Q ⟨A, ρ, Qd, E, env, ex, hm, k⟩ => k v H d (Y.G.refl H) (r _ _ _) hm
theorem pd_int {z : Int} {j : Nat} : PD X Y (.Constant (.int z) j pos) (mK (.int z)) := pd_const pe_int fun _ _ _ => .int _
theorem pd_bl {z : Bool} {j : Nat} : PD X Y (.Constant (.bool z) j pos) (mK (.bl z)) := pd_const pe_bl fun _ _ _ => .bl _
theorem pd_non {j : Nat} : PD X Y (.Constant .none j pos) (mK .non) := pd_const pe_non fun _ _ _ => .non
theorem pd_str {z : Str} {j : Nat} : PD X Y (.Constant (.str z) j pos) (mK (.str z)) := pd_const pe_str fun _ _ _ => .str _
/-- a module's constant -/
theorem pd_glob {v : V} {d : D} {u : Value} (hg : Gl X x) (hm : X.mg x = some u) (r : RelV v u) (q : ∀ K A H, Rp K A H v d) (hd : (x == ("__debug__" : Str)) = false := by decide) : PD X Y (.Name x pos) (mK d) :=
  pd_const (pe_glob hg hm r hd) q
theorem pd_globInt {z : Int} (hg : Gl X x) (hm : ∃ t, X.mg x = some (.int z t)) (hd : (x == ("__debug__" : Str)) = false := by decide) : PD X Y (.Name x pos) (mK (.int z)) := by
  obtain ⟨t, h⟩ := hm
  exact pd_glob (v := .int z) hg h ⟨t, rfl⟩ (fun _ _ _ => .int z) hd
theorem pd_globStr {z : Str} (hg : Gl X x) (hm : ∃ t, X.mg x = some (.str z t)) (hd : (x == ("__debug__" : Str)) = false := by decide) : PD X Y (.Name x pos) (mK (.str z)) := by
  obtain ⟨t, h⟩ := hm
  exact pd_glob (v := .str z) hg h ⟨t, rfl⟩ (fun _ _ _ => .str z) hd

theorem pad_nil : PAd X Y [] mNil := pa_imp pa_nil fun σ H Q ⟨A, ρ, Qd, E, env, ex, hm, k⟩ => k [] H [] (Y.G.refl H) .nil hm
theorem pad_cons (ha : PD X Y e m) (hr : PAd X Y es ms) (hs : starEach (e :: es) X.env = (false, eval e X.env) :: starEach es X.env := by rfl) : PAd X Y (e :: es) (mCons m ms) :=
  pa_imp (pa_cons ha hr hs) fun σ H Q ⟨A, ρ, Qd, E, env, ex, hm, k⟩ => ⟨A, ρ, _, E, env, ex, hm, fun v H1 d g1 r1 h1 =>
    ⟨A, ρ, _, E, env.step g1, ex, h1, fun vs H2 ds g2 r2 h2 => k (v :: vs) H2 (d :: ds) (Y.G.trans g1 g2) (.cons (r1.ext (env.step g1).aok (Y.G.ext g2)) r2) h2⟩⟩
theorem paq_nil : PAq X Y [] mNil := pa_imp pa_nil fun σ H Q ⟨A, ρ, Qd, E, env, ex, hm, k⟩ => k [] H [] (Y.G.refl H) .nil hm
theorem paq_cons (ha : PQ X Y e m) (hr : PAq X Y es ms) (hs : starEach (e :: es) X.env = (false, eval e X.env) :: starEach es X.env := by rfl) : PAq X Y (e :: es) (mCons m ms) :=
  pa_imp (pa_cons ha hr hs) fun σ H Q ⟨A, ρ, Qd, E, env, ex, hm, k⟩ => ⟨A, ρ, _, E, env, ex, hm, fun v H1 d g1 r1 h1 =>
    ⟨A, ρ, _, E, env.step g1, ex, h1, fun vs H2 ds g2 r2 h2 => k (v :: vs) H2 (d :: ds) (Y.G.trans g1 g2) (.cons (Rq.ext (env.step g1).aok (Y.G.ext g2) r1) r2) h2⟩⟩
/-- as a plain tuple -/
@[simp] def unN : D → D
  | .tpn xs => .tup xs
  | d => d
@[simp ↓] def mUn (a : EM) (ρ : DEnv) (Q : D → Prop) (E : Xn → Prop) : Prop := a ρ (fun d => Q (unN d)) E
theorem Rp.un {K : PySem.W.Frag} {A : Addr → Prop} {H : Hp} {v : V} {d : D} (r : Rp K A H v d) : Rp K A H v (unN d) := by
  cases r with
  | tpn h r => exact .tup h.seq r
  | non => exact .non
  | bl b => exact .bl b
  | int i => exact .int i
  | str x => exact .str x
  | tup h r => exact .tup h r
  | lst h n r => exact .lst h n r
  | ins h e n r => exact .ins h e n r
  | row h s n => exact .row h s n
  | adr a => exact .adr a
  | dic h e n r => exact .dic h e n r
theorem pd_un (h : PD X Y e m) : PD X Y e (mUn m) := pe_imp h fun σ H Q ⟨A, ρ, Qd, E, env, ex, hm, k⟩ => ⟨A, ρ, _, E, env, ex, hm, fun v H' d g r q => k v H' _ g r.un q⟩
theorem small {n : Nat} (h : n ≤ 1000) : n ≤ sizeLine := Nat.le_of_lt (small1000 h)
theorem pd_tup {k : Nat} (h : PAd X Y es ms) : PD X Y (.Tuple es k pos) (mTup ms) :=
  pe_imp (pe_tup h) fun σ H Q ⟨A, ρ, Qd, E, env, ex, hm, k⟩ => ⟨A, ρ, _, E, env, ex, hm, fun vs H1 ds g1 r1 h1 => by
    refine ⟨by rw [r1.length]; exact small h1.1, fun p hp => ?_⟩
    have g2 := Y.G.trans g1 (Y.G.same (upd_fresh_same (o := .tup vs) hp))
    exact k _ _ _ g2 (.tup (SqT.of upd_same) (r1.ext (env.step g1).aok (extN_same (upd_fresh_same hp)))) h1.2⟩
theorem pf_lst (h : PAd X Y es ms) : PF X Y (.List es pos) (mLst ms) :=
  pe_imp (pe_lst h) fun σ H Q ⟨A, ρ, Qd, E, env, ex, hm, k⟩ => ⟨A, ρ, _, E, env, ex, hm, fun vs H1 ds g1 r1 h1 => by
    refine ⟨by rw [r1.length]; exact small h1.1, fun p hp => ?_⟩
    have s := upd_fresh_same (o := .lst vs) hp
    exact k _ _ _ (Y.G.trans g1 (Y.G.same s)) ⟨p, vs, rfl, (Nt.of hp).back (Y.G.ext g1), upd_same, r1.move (env.step g1).aok (.ext (extN_same s)) fun a z => by
      rcases z with z | z
      · exact .inl z
      · subst z; exact .inr (Nt.of hp)⟩ h1.2⟩
end
end WL
namespace WL
open L2 PySem PySem.Spec
open LamX (ExtN)

/-! ### operators by data -/
/-- a two-place operation: what it makes of two data -/
abbrev F2 := D → D → (D → Prop) → Prop
def opZ (X : Cx) (Y : Yx) (F : F2) : R2 := fun x y H Q => ∃ (A : Addr → Prop) (d e : D) (Qd : D → Prop), AOk A H ∧ Rq X.K A H x d ∧ Rq X.K A H y e ∧ F d e Qd ∧ ∀ v H' r, Y.G.r H H' → Rp X.K A H' v r → Qd r → Q v H'
def OpD (X : Cx) (Y : Yx) (f : Value → Value → Sem Value) (F : F2) : Prop := OpR X f (opZ X Y F)
/-- one that answers by a bool -/
abbrev FB := D → D → (Bool → Prop) → Prop
def opB (X : Cx) (F : FB) : R2 := fun x y H Q => ∃ (A : Addr → Prop) (d e : D) (Qd : Bool → Prop), AOk A H ∧ Rq X.K A H x d ∧ Rq X.K A H y e ∧ F d e Qd ∧ ∀ b, Qd b → Q (.bl b) H
def OpB (X : Cx) (f : Value → Value → Sem Value) (F : FB) : Prop := OpR X f (opB X F)
@[simp ↓] def m2 (F : F2) (a b : EM) (ρ : DEnv) (Q : D → Prop) (E : Xn → Prop) : Prop := a ρ (fun x => b ρ (fun y => F x y Q) E) E
@[simp ↓] def m2v (F : FB) (a b : EM) (ρ : DEnv) (Q : D → Prop) (E : Xn → Prop) : Prop := a ρ (fun x => b ρ (fun y => F x y fun c => Q (.bl c)) E) E
@[simp ↓] def m2t (F : FB) (a b : EM) (ρ : DEnv) (Q : Bool → Prop) (E : Xn → Prop) : Prop := a ρ (fun x => b ρ (fun y => F x y Q) E) E

section
variable {X : Cx} {Y : Yx} {a b c e : Expr} {ma mb mc : EM} {pos : Pos}
theorem pd_op {op : Operator} {F : F2} (ho : OpD X Y (binaryOp op) F) (ha : PQ X Y a ma) (hb : PQ X Y b mb) : PD X Y (.BinOp a op b pos) (m2 F ma mb) :=
  pe_imp (pe_op ho ha hb) fun σ H Q ⟨A, ρ, Qd, E, env, ex, hm, k⟩ => ⟨A, ρ, _, E, env, ex, hm, fun v H1 d g1 r1 h1 => ⟨A, ρ, _, E, env.step g1, ex, h1, fun w H2 d2 g2 r2 h2 =>
    ⟨A, d, d2, Qd, ((env.step g1).step g2).aok, Rq.ext (env.step g1).aok (Y.G.ext g2) r1, r2, h2, fun u H3 r g3 r3 h3 => k u H3 r (Y.G.trans g1 (Y.G.trans g2 g3)) r3 h3⟩⟩⟩
theorem pd_cmp {op : CmpOp} {F : FB} (ho : OpB X (compareOp op) F) (ha : PQ X Y a ma) (hb : PQ X Y b mb) (hm : behindInMarks op b = false) : PD X Y (.Compare a [op] [b] pos) (m2v F ma mb) :=
  pe_imp (pe_cmpR ho ha hb hm) fun σ H Q ⟨A, ρ, Qd, E, env, ex, hm, k⟩ => ⟨A, ρ, _, E, env, ex, hm, fun v H1 d g1 r1 h1 => ⟨A, ρ, _, E, env.step g1, ex, h1, fun w H2 d2 g2 r2 h2 =>
    ⟨A, d, d2, _, ((env.step g1).step g2).aok, Rq.ext (env.step g1).aok (Y.G.ext g2) r1, r2, h2, fun c h3 => k (.bl c) H2 (.bl c) (Y.G.trans g1 g2) (.bl c) h3⟩⟩⟩
theorem ptd_cmp {op : CmpOp} {F : FB} (ho : OpB X (compareOp op) F) (ha : PQ X Y a ma) (hb : PQ X Y b mb) (hm : behindInMarks op b = false) : PTd X Y (.Compare a [op] [b] pos) (m2t F ma mb) :=
  pt_imp (pt_cmpR ho ha hb hm) fun σ H Q ⟨A, ρ, Qd, E, env, ex, hm, k⟩ => ⟨A, ρ, _, E, env, ex, hm, fun v H1 d g1 r1 h1 => ⟨A, ρ, _, E, env.step g1, ex, h1, fun w H2 d2 g2 r2 h2 =>
    ⟨A, d, d2, _, ((env.step g1).step g2).aok, Rq.ext (env.step g1).aok (Y.G.ext g2) r1, r2, h2, fun c h3 => ⟨c, rfl, k c H2 c (Y.G.trans g1 g2) rfl h3⟩⟩⟩⟩
/-- a op b op' c -/
@[simp ↓] def m3v (F F' : FB) (a b c : EM) (ρ : DEnv) (Q : D → Prop) (E : Xn → Prop) : Prop := a ρ (fun x => b ρ (fun y => F x y fun k => if k = true then c ρ (fun z => F' y z fun k' => Q (.bl k')) E else Q (.bl false)) E) E
@[simp ↓] def m3t (F F' : FB) (a b c : EM) (ρ : DEnv) (Q : Bool → Prop) (E : Xn → Prop) : Prop := a ρ (fun x => b ρ (fun y => F x y fun k => if k = true then c ρ (fun z => F' y z Q) E else Q false) E) E
theorem pd_chain {op op' : CmpOp} {F F' : FB} (ho : OpB X (compareOp op) F) (ho' : OpB X (compareOp op') F') (ha : PQ X Y a ma) (hb : PQ X Y b mb) (hc : PQ X Y c mc) (hm : lastMarks [op, op'] [b, c] = false := by with_unfolding_all rfl) :
    PD X Y (.Compare a [op, op'] [b, c] pos) (m3v F F' ma mb mc) :=
  pe_imp (pe_chain ho ho' ha hb hc hm) fun σ H Q ⟨A, ρ, Qd, E, env, ex, hm, k⟩ => ⟨A, ρ, _, E, env, ex, hm, fun v H1 d g1 r1 h1 => ⟨A, ρ, _, E, env.step g1, ex, h1, fun w H2 d2 g2 r2 h2 => by
    have env2 := (env.step g1).step g2
    refine ⟨A, d, d2, _, env2.aok, Rq.ext (env.step g1).aok (Y.G.ext g2) r1, r2, h2, fun c h3 => ⟨c, rfl, ?_⟩⟩
    cases c with
    | false => exact k _ H2 (.bl false) (Y.G.trans g1 g2) (.bl false) h3
    | true => exact ⟨A, ρ, _, E, env2, ex, h3, fun u H3 d3 g3 r3 h3 => ⟨A, d2, d3, _, (env2.step g3).aok, Rq.ext env2.aok (Y.G.ext g3) r2, r3, h3, fun c h4 => k (.bl c) H3 (.bl c) (Y.G.trans g1 (Y.G.trans g2 g3)) (.bl c) h4⟩⟩⟩⟩
theorem ptd_chain {op op' : CmpOp} {F F' : FB} (ho : OpB X (compareOp op) F) (ho' : OpB X (compareOp op') F') (ha : PQ X Y a ma) (hb : PQ X Y b mb) (hc : PQ X Y c mc) (hm : lastMarks [op, op'] [b, c] = false := by with_unfolding_all rfl) :
    PTd X Y (.Compare a [op, op'] [b, c] pos) (m3t F F' ma mb mc) :=
  pt_imp (pt_chain ho ho' ha hb hc hm) fun σ H Q ⟨A, ρ, Qd, E, env, ex, hm, k⟩ => ⟨A, ρ, _, E, env, ex, hm, fun v H1 d g1 r1 h1 => ⟨A, ρ, _, E, env.step g1, ex, h1, fun w H2 d2 g2 r2 h2 => by
    have env2 := (env.step g1).step g2
    refine ⟨A, d, d2, _, env2.aok, Rq.ext (env.step g1).aok (Y.G.ext g2) r1, r2, h2, fun c h3 => ⟨c, rfl, ?_⟩⟩
    cases c with
    | false => exact ⟨false, rfl, k false H2 false (Y.G.trans g1 g2) rfl h3⟩
    | true => exact ⟨A, ρ, _, E, env2, ex, h3, fun u H3 d3 g3 r3 h3 => ⟨A, d2, d3, _, (env2.step g3).aok, Rq.ext env2.aok (Y.G.ext g3) r2, r3, h3, fun c h4 => ⟨c, rfl, k c H3 c (Y.G.trans g1 (Y.G.trans g2 g3)) rfl h4⟩⟩⟩⟩⟩

/-! ### tests -/
@[simp ↓] def mAnd (a b : EMt) (ρ : DEnv) (Q : Bool → Prop) (E : Xn → Prop) : Prop := a ρ (fun c => if c = true then b ρ Q E else Q false) E
@[simp ↓] def mOr (a b : EMt) (ρ : DEnv) (Q : Bool → Prop) (E : Xn → Prop) : Prop := a ρ (fun c => if c = true then Q true else b ρ Q E) E
@[simp ↓] def mNot (a : EMt) (ρ : DEnv) (Q : Bool → Prop) (E : Xn → Prop) : Prop := a ρ (fun c => Q (!c)) E
@[simp ↓] def mAndV (a b : EM) (ρ : DEnv) (Q : D → Prop) (E : Xn → Prop) : Prop := a ρ (fun x => match x with | .bl c => if c = true then b ρ Q E else Q (.bl false) | _ => False) E
@[simp ↓] def mOrV (a b : EM) (ρ : DEnv) (Q : D → Prop) (E : Xn → Prop) : Prop := a ρ (fun x => match x with | .bl c => if c = true then Q (.bl true) else b ρ Q E | _ => False) E
@[simp ↓] def mNotV (a : EM) (ρ : DEnv) (Q : D → Prop) (E : Xn → Prop) : Prop := a ρ (fun x => match x with | .bl c => Q (.bl (!c)) | _ => False) E
@[simp ↓] def mIf (t : EMt) (a b : EM) (ρ : DEnv) (Q : D → Prop) (E : Xn → Prop) : Prop := t ρ (fun c => if c = true then a ρ Q E else b ρ Q E) E
/-- a datum's truth -/
def truM : D → (Bool → Prop) → Prop
  | .non, Q => Q false
  | .bl b, Q => Q b
  | .int i, Q => Q (i != 0)
  | .str x, Q => x.length ≤ 1000 ∧ Q ((x.length : Int) != 0)
  | .tup ds, Q => Q (!ds.isEmpty)
  | .lst ds, Q => Q (!ds.isEmpty)
  | _, _ => False
@[simp] theorem truM_e1  {Q : Bool → Prop} : truM (.non) Q = (Q false) := rfl
@[simp] theorem truM_e2 {b : Bool} {Q : Bool → Prop} : truM (.bl b) Q = (Q b) := rfl
@[simp] theorem truM_e3 {i : Int} {Q : Bool → Prop} : truM (.int i) Q = (Q (i != 0)) := rfl
@[simp] theorem truM_e4 {x : Str} {Q : Bool → Prop} : truM (.str x) Q = (x.length ≤ 1000 ∧ Q ((x.length : Int) != 0)) := rfl
@[simp] theorem truM_e5 {ds : List D} {Q : Bool → Prop} : truM (.tup ds) Q = (Q (!ds.isEmpty)) := rfl
@[simp] theorem truM_e6 {ds : List D} {Q : Bool → Prop} : truM (.lst ds) Q = (Q (!ds.isEmpty)) := rfl
@[simp ↓] def mTru (a : EM) (ρ : DEnv) (Q : Bool → Prop) (E : Xn → Prop) : Prop := a ρ (fun x => truM x Q) E
variable {ta tb tc : EMt} {rest : List Expr}
theorem pwd_and1 (ha : PTd X Y a ta) : PWd X Y (.BoolOp .And [a] pos) ta := pw_and1 ha
theorem pwd_or1 (ha : PTd X Y a ta) : PWd X Y (.BoolOp .Or [a] pos) ta := pw_or1 ha
theorem pwd_and (ha : PTd X Y a ta) (hb : PWd X Y (.BoolOp .And (b :: rest) pos) tb) : PWd X Y (.BoolOp .And (a :: b :: rest) pos) (mAnd ta tb) :=
  pw_imp (pw_and ha hb) fun σ H Q ⟨A, ρ, Qd, E, env, ex, hm, k⟩ => ⟨A, ρ, _, E, env, ex, hm, fun v H1 d g1 r1 h1 => by
    cases r1
    cases v with
    | true => exact ⟨A, ρ, Qd, E, env.step g1, ex, h1, fun u H2 d2 g2 r2 h2 => k u H2 d2 (Y.G.trans g1 g2) r2 h2⟩
    | false => exact k false H1 false g1 rfl h1⟩
theorem pwd_or (ha : PTd X Y a ta) (hb : PWd X Y (.BoolOp .Or (b :: rest) pos) tb) : PWd X Y (.BoolOp .Or (a :: b :: rest) pos) (mOr ta tb) :=
  pw_imp (pw_or ha hb) fun σ H Q ⟨A, ρ, Qd, E, env, ex, hm, k⟩ => ⟨A, ρ, _, E, env, ex, hm, fun v H1 d g1 r1 h1 => by
    cases r1
    cases v with
    | false => exact ⟨A, ρ, Qd, E, env.step g1, ex, h1, fun u H2 d2 g2 r2 h2 => k u H2 d2 (Y.G.trans g1 g2) r2 h2⟩
    | true => exact k true H1 true g1 rfl h1⟩
theorem pwd_pt (h : PWd X Y a ta) : PTd X Y a ta := PW.pt h
theorem ptd_not (ha : PTd X Y a ta) : PTd X Y (.UnaryOp .Not a pos) (mNot ta) :=
  pt_imp (pt_not ha) fun σ H Q ⟨A, ρ, Qd, E, env, ex, hm, k⟩ => ⟨A, ρ, _, E, env, ex, hm, fun v H1 d g1 r1 h1 => by cases r1; exact k _ H1 _ g1 rfl h1⟩
theorem ptd_tru (ha : PQ X Y a ma) (he : ∀ whole, isTrue a X.env whole = (do let v ← whole; standAt a.pos; holding [v] (truthy v)) := by intro _; rfl) : PTd X Y a (mTru ma) :=
  pt_imp (pt_truth ha he) fun σ H Q ⟨A, ρ, Qd, E, env, ex, hm, k⟩ => ⟨A, ρ, _, E, env, ex, hm, fun v H1 d g1 r1 h1 => by
    have il : ∀ {vs : List V} {ds : List D}, RpAll X.K A H1 vs ds → (!vs.isEmpty) = !ds.isEmpty := fun r => by cases r <;> rfl
    cases r1 with
    | non => exact ⟨false, rfl, k _ H1 _ g1 rfl h1⟩
    | bl b => exact ⟨b, rfl, k _ H1 _ g1 rfl h1⟩
    | int i => exact ⟨_, rfl, k _ H1 _ g1 rfl h1⟩
    | str x => exact ⟨_, ⟨small h1.1, rfl⟩, k _ H1 _ g1 rfl h1.2⟩
    | tup h r => exact ⟨_, .inr (.inl ⟨_, h, rfl⟩), k _ H1 _ g1 (il r) h1⟩
    | lst h r => exact ⟨_, .inl ⟨_, SqL.of h, rfl⟩, k _ H1 _ g1 (il r) h1⟩
    | ins _ _ _ => exact h1.elim
    | row _ _ => exact h1.elim
    | adr _ => exact h1.elim
    | dic _ _ _ => exact h1.elim
    | tpn _ _ => exact h1.elim⟩
theorem pd_one {op : BoolOp} (h : PD X Y a ma) : PD X Y (.BoolOp op [a] pos) ma := pe_one h
theorem pd_and (ha : PD X Y a ma) (hb : PD X Y (.BoolOp .And (b :: rest) pos) mb) : PD X Y (.BoolOp .And (a :: b :: rest) pos) (mAndV ma mb) :=
  pe_imp (pe_and ha hb) fun σ H Q ⟨A, ρ, Qd, E, env, ex, hm, k⟩ => ⟨A, ρ, _, E, env, ex, hm, fun v H1 d g1 r1 h1 => by
    cases r1 with
    | bl c =>
      refine ⟨c, rfl, ?_⟩
      cases c with
      | true => exact ⟨A, ρ, Qd, E, env.step g1, ex, h1, fun u H2 d2 g2 r2 h2 => k u H2 d2 (Y.G.trans g1 g2) r2 h2⟩
      | false => exact k _ H1 _ g1 (.bl false) h1
    | _ => exact h1.elim⟩
theorem pd_or (ha : PD X Y a ma) (hb : PD X Y (.BoolOp .Or (b :: rest) pos) mb) : PD X Y (.BoolOp .Or (a :: b :: rest) pos) (mOrV ma mb) :=
  pe_imp (pe_or ha hb) fun σ H Q ⟨A, ρ, Qd, E, env, ex, hm, k⟩ => ⟨A, ρ, _, E, env, ex, hm, fun v H1 d g1 r1 h1 => by
    cases r1 with
    | bl c =>
      refine ⟨c, rfl, ?_⟩
      cases c with
      | false => exact ⟨A, ρ, Qd, E, env.step g1, ex, h1, fun u H2 d2 g2 r2 h2 => k u H2 d2 (Y.G.trans g1 g2) r2 h2⟩
      | true => exact k _ H1 _ g1 (.bl true) h1
    | _ => exact h1.elim⟩
theorem pd_not (ha : PD X Y a ma) : PD X Y (.UnaryOp .Not a pos) (mNotV ma) :=
  pe_imp (pe_not ha) fun σ H Q ⟨A, ρ, Qd, E, env, ex, hm, k⟩ => ⟨A, ρ, _, E, env, ex, hm, fun v H1 d g1 r1 h1 => by
    cases r1 with
    | bl c => exact ⟨c, rfl, k _ H1 _ g1 (.bl _) h1⟩
    | _ => exact h1.elim⟩
theorem pd_if (hc : PTd X Y c tc) (ha : PD X Y a ma) (hb : PD X Y b mb) : PD X Y (.IfExp c a b pos) (mIf tc ma mb) :=
  pe_imp (pe_ifExp hc ha hb) fun σ H Q ⟨A, ρ, Qd, E, env, ex, hm, k⟩ => ⟨A, ρ, _, E, env, ex, hm, fun v H1 d g1 r1 h1 => by
    cases r1
    cases v with
    | true => exact ⟨A, ρ, Qd, E, env.step g1, ex, h1, fun u H2 d2 g2 r2 h2 => k u H2 d2 (Y.G.trans g1 g2) r2 h2⟩
    | false => exact ⟨A, ρ, Qd, E, env.step g1, ex, h1, fun u H2 d2 g2 r2 h2 => k u H2 d2 (Y.G.trans g1 g2) r2 h2⟩⟩
end

/-! ### the operators -/
def addM : F2
  | .int i, .int j, Q => Q (.int (i + j))
  | .int i, .bl b, Q => Q (.int (i + if b = true then 1 else 0))
  | .bl b, .int i, Q => Q (.int ((if b = true then 1 else 0) + i))
  | .str x, .str y, Q => x.length + y.length ≤ 1000 ∧ Q (.str (x ++ y))
  | .tup xs, .tup ys, Q => xs.length + ys.length ≤ 1000 ∧ Q (.tup (xs ++ ys))
  | .lst xs, .lst ys, Q => xs.length + ys.length ≤ 100000 ∧ Q (.lst (xs ++ ys))
  | _, _, _ => False
@[simp] theorem addM_e1 {i : Int} {j : Int} {Q : D → Prop} : addM (.int i) (.int j) Q = (Q (.int (i + j))) := rfl
@[simp] theorem addM_e2 {i : Int} {b : Bool} {Q : D → Prop} : addM (.int i) (.bl b) Q = (Q (.int (i + if b = true then 1 else 0))) := rfl
@[simp] theorem addM_e3 {b : Bool} {i : Int} {Q : D → Prop} : addM (.bl b) (.int i) Q = (Q (.int ((if b = true then 1 else 0) + i))) := rfl
@[simp] theorem addM_e4 {x : Str} {y : Str} {Q : D → Prop} : addM (.str x) (.str y) Q = (x.length + y.length ≤ 1000 ∧ Q (.str (x ++ y))) := rfl
@[simp] theorem addM_e5 {xs : List D} {ys : List D} {Q : D → Prop} : addM (.tup xs) (.tup ys) Q = (xs.length + ys.length ≤ 1000 ∧ Q (.tup (xs ++ ys))) := rfl
@[simp] theorem addM_e6 {xs : List D} {ys : List D} {Q : D → Prop} : addM (.lst xs) (.lst ys) Q = (xs.length + ys.length ≤ 100000 ∧ Q (.lst (xs ++ ys))) := rfl
def subM : F2
  | .int i, .int j, Q => Q (.int (i - j))
  | .bl b, .int i, Q => Q (.int ((if b = true then 1 else 0) - i))
  | _, _, _ => False
@[simp] theorem subM_e1 {i : Int} {j : Int} {Q : D → Prop} : subM (.int i) (.int j) Q = (Q (.int (i - j))) := rfl
@[simp] theorem subM_e2 {b : Bool} {i : Int} {Q : D → Prop} : subM (.bl b) (.int i) Q = (Q (.int ((if b = true then 1 else 0) - i))) := rfl
def big (i : Int) : Prop := -(2 ^ 64) < i ∧ i < 2 ^ 64
def mulM : F2
  | .int i, .int j, Q => (big i ∨ big j) ∧ Q (.int (i * j))
  | .str x, .int n, Q => x.length ≤ 1000 ∧ 0 ≤ n ∧ n ≤ 1000 ∧ Q (.str (Txt.mul x n))
  | .lst xs, .int n, Q => xs.length ≤ 1000 ∧ 0 ≤ n ∧ n ≤ 1000 ∧ Q (.lst (List.replicate n.toNat xs).flatten)
  | _, _, _ => False
@[simp] theorem mulM_e1 {i : Int} {j : Int} {Q : D → Prop} : mulM (.int i) (.int j) Q = ((big i ∨ big j) ∧ Q (.int (i * j))) := rfl
@[simp] theorem mulM_e2 {x : Str} {n : Int} {Q : D → Prop} : mulM (.str x) (.int n) Q = (x.length ≤ 1000 ∧ 0 ≤ n ∧ n ≤ 1000 ∧ Q (.str (Txt.mul x n))) := rfl
@[simp] theorem mulM_e3 {xs : List D} {n : Int} {Q : D → Prop} : mulM (.lst xs) (.int n) Q = (xs.length ≤ 1000 ∧ 0 ≤ n ∧ n ≤ 1000 ∧ Q (.lst (List.replicate n.toNat xs).flatten)) := rfl
def fdvM : F2
  | .int i, .int j, Q => (0 < j ∧ j < 1073741824) ∧ Q (.int (i / j))
  | _, _, _ => False
@[simp] theorem fdvM_e1 {i : Int} {j : Int} {Q : D → Prop} : fdvM (.int i) (.int j) Q = ((0 < j ∧ j < 1073741824) ∧ Q (.int (i / j))) := rfl
def modM : F2
  | .int i, .int j, Q => 0 < j ∧ Q (.int (i % j))
  | _, _, _ => False
@[simp] theorem modM_e1 {i : Int} {j : Int} {Q : D → Prop} : modM (.int i) (.int j) Q = (0 < j ∧ Q (.int (i % j))) := rfl
def powM : F2
  | .int i, .int j, Q => (0 ≤ j ∧ j ≤ 1000000 ∧ i.natAbs < 2 ^ 64) ∧ Q (.int (i ^ j.toNat))
  | _, _, _ => False
@[simp] theorem powM_e1 {i : Int} {j : Int} {Q : D → Prop} : powM (.int i) (.int j) Q = ((0 ≤ j ∧ j ≤ 1000000 ∧ i.natAbs < 2 ^ 64) ∧ Q (.int (i ^ j.toNat))) := rfl
theorem mulOk_small {x : Str} {n : Int} (h1 : x.length ≤ 1000) (h2 : 0 ≤ n) (h3 : n ≤ 1000) : MulOk x n := by
  refine ⟨?_, fun a b => ?_, fun a b => ?_⟩
  · rw [decide_eq_false (by omega), decide_eq_false (by omega)]; rfl
  · have q : (1000 : Int) ≤ (2 ^ 63 - 1) / n := by
      refine Int.le_ediv_of_mul_le (by omega) ?_
      have : 1000 * n ≤ 1000000 := by omega
      omega
    omega
  · have q : x.length * n.toNat ≤ 1000 * 1000 := Nat.mul_le_mul h1 (by omega)
    unfold PySem.Builtin.Str.tooLong
    simp only [decide_eq_false_iff_not]
    simp only [sizeLine]
    omega
section
variable {X : Cx} {Y : Yx}
theorem opd_add : OpD X Y (binaryOp .Add) addM := by
  intro pins s σ H x y v u Q I rx ry ⟨A, d, e, Qd, ok, r1, r2, f, k⟩
  cases r1 <;> cases r2 <;> (try exact f.elim)
  case int.int i j => exact op_add pins s σ H _ _ v u Q I rx ry ⟨_, _, rfl, rfl, k _ _ _ (Y.G.refl _) (.int _) f⟩
  case int.bl i b =>
    obtain ⟨t, rfl⟩ := rx
    cases ry
    exact PySem.add_int_bool ⟨.int _, H, I.tok _, ⟨_, rfl⟩, k _ _ _ (Y.G.refl _) (.int _) f⟩
  case bl.int b i =>
    obtain ⟨t, rfl⟩ := ry
    cases rx
    exact PySem.IntBool.add_bool_int ⟨.int _, H, I.tok _, ⟨_, rfl⟩, k _ _ _ (Y.G.refl _) (.int _) f⟩
  case str.str a b => exact op_add_str pins s σ H _ _ v u Q I rx ry ⟨_, _, rfl, rfl, small f.1, k _ _ _ (Y.G.refl _) (.str _) f.2⟩
  case tup.tup a xs ds h1 q1 b ys es h2 q2 =>
    refine op_catA pins s σ H _ _ v u Q I rx ry ⟨a, b, xs, ys, rfl, rfl, h1, h2, ?_, fun z => ?_, fun z z2 => ?_, fun z z2 p hp => ?_⟩
    · rw [q1.length, q2.length]; exact small f.1
    · subst z
      cases q1
      exact k _ _ _ (Y.G.refl _) (.tup h2 q2) f.2
    · subst z2
      cases q2
      exact k _ _ _ (Y.G.refl _) (.tup h1 q1) (by have q := f.2; rwa [List.append_nil] at q)
    · have g := Y.G.same (upd_fresh_same (o := .tup (xs ++ ys)) hp)
      exact k _ _ _ g (.tup (SqT.of upd_same) ((q1.append q2).ext ok (Y.G.ext g))) f.2
  case lst.lst a xs ds h1 q1 b ys es h2 q2 =>
    refine op_cat pins s σ H _ _ v u Q I rx ry ⟨a, b, xs, ys, rfl, rfl, h1, h2, ?_, fun p hp => ?_⟩
    · rw [q1.length, q2.length]; exact Nat.le_trans f.1 (by decide)
    · have g := Y.G.same (upd_fresh_same (o := .lst (xs ++ ys)) hp)
      refine k _ _ _ g (.lst upd_same (fun z => ?_) ((q1.append q2).ext ok (Y.G.ext g))) f.2
      rcases ok p z with ⟨ys, w⟩ | ⟨C, dx, fs, w⟩ <;> (rw [hp] at w; cases w)
theorem opd_sub : OpD X Y (binaryOp .Sub) subM := by
  intro pins s σ H x y v u Q I rx ry ⟨A, d, e, Qd, ok, r1, r2, f, k⟩
  cases r1 <;> cases r2 <;> (try exact f.elim)
  case int.int i j => exact op_sub pins s σ H _ _ v u Q I rx ry ⟨_, _, rfl, rfl, k _ _ _ (Y.G.refl _) (.int _) f⟩
  case bl.int b i =>
    obtain ⟨t, rfl⟩ := ry
    cases rx
    exact PySem.IntBool.sub_bool_int ⟨.int _, H, I.tok _, ⟨_, rfl⟩, k _ _ _ (Y.G.refl _) (.int _) f⟩
theorem opd_mul : OpD X Y (binaryOp .Mult) mulM := by
  intro pins s σ H x y v u Q I rx ry ⟨A, d, e, Qd, ok, r1, r2, f, k⟩
  cases r1 <;> cases r2 <;> (try exact f.elim)
  case int.int i j => exact op_mul pins s σ H _ _ v u Q I rx ry ⟨_, _, rfl, rfl, f.1, k _ _ _ (Y.G.refl _) (.int _) f.2⟩
  case str.int x n =>
    obtain ⟨t, rfl⟩ := rx
    obtain ⟨t', rfl⟩ := ry
    exact PySem.SB.mul (mulOk_small f.1 f.2.1 f.2.2.1) fun t' q => ⟨.str _, H, I.tok _, ⟨_, rfl⟩, k _ _ _ (Y.G.refl _) (.str _) f.2.2.2⟩
  case lst.int a xs ds h1 q1 n =>
    refine op_rep pins s σ H _ _ v u Q I rx ry ⟨a, n, xs, rfl, rfl, h1, by have := f.2.1; omega, by have := f.2.2.1; omega, ?_, fun p hp => ?_⟩
    · have e1 := q1.length
      have e2 : xs.length * n.toNat ≤ 1000 * 1000 := Nat.mul_le_mul (by rw [e1]; exact f.1) (by have := f.2.2.1; omega)
      exact Nat.le_trans e2 (by decide)
    · have g := Y.G.same (upd_fresh_same (o := .lst (List.replicate n.toNat xs).flatten) hp)
      have rr : ∀ m : Nat, RpAll X.K A H (List.replicate m xs).flatten (List.replicate m ds).flatten := fun m => by
        induction m with
        | zero => exact .nil
        | succ m ih =>
          rw [List.replicate_succ, List.replicate_succ, List.flatten_cons, List.flatten_cons]
          exact q1.append ih
      refine k _ _ _ g (.lst upd_same (fun z => ?_) ((rr _).ext ok (Y.G.ext g))) f.2.2.2
      rcases ok p z with ⟨ys, w⟩ | ⟨C, dx, fs, w⟩ <;> (rw [hp] at w; cases w)
theorem opd_fdv : OpD X Y (binaryOp .FloorDiv) fdvM := by
  intro pins s σ H x y v u Q I rx ry ⟨A, d, e, Qd, ok, r1, r2, f, k⟩
  cases r1 <;> cases r2 <;> (try exact f.elim)
  case int.int i j => exact op_fdiv pins s σ H _ _ v u Q I rx ry ⟨_, _, rfl, rfl, f.1, k _ _ _ (Y.G.refl _) (.int _) f.2⟩
theorem opd_mod : OpD X Y (binaryOp .Mod) modM := by
  intro pins s σ H x y v u Q I rx ry ⟨A, d, e, Qd, ok, r1, r2, f, k⟩
  cases r1 <;> cases r2 <;> (try exact f.elim)
  case int.int i j => exact op_mod pins s σ H _ _ v u Q I rx ry ⟨_, _, rfl, rfl, f.1, k _ _ _ (Y.G.refl _) (.int _) f.2⟩
theorem opd_pow : OpD X Y (binaryOp .Pow) powM := by
  intro pins s σ H x y v u Q I rx ry ⟨A, d, e, Qd, ok, r1, r2, f, k⟩
  cases r1 <;> cases r2 <;> (try exact f.elim)
  case int.int i j => exact op_pow pins s σ H _ _ v u Q I rx ry ⟨_, _, rfl, rfl, f.1, k _ _ _ (Y.G.refl _) (.int _) f.2⟩
end
end WL
namespace WL
open L2 PySem PySem.Spec
open LamX (ExtN)

/-! ### data as the library has it; ==, in -/
mutual
def pd : D → PyData
  | .non => .none
  | .bl b => .bool b
  | .int i => .int i
  | .str x => .str x
  | .tup xs => .tuple (pds xs)
  | .lst xs => .list (pds xs)
  | .ins _ _ _ => .none
  | .row => .none
  | .adr _ => .none
  | .dic _ _ => .none
  | .tpn _ => .none
def pds : List D → List PyData
  | [] => []
  | d :: r => pd d :: pds r
end
mutual
/-- plain data, nested at most so deep -/
def okD : Nat → D → Bool
  | _, .non => true
  | _, .bl _ => true
  | _, .int _ => true
  | _, .str x => PyData.strOk x && decide (x.length ≤ 1000)
  | n, .tup xs => okDs n xs
  | n, .lst xs => okDs n xs
  | _, .ins _ _ _ => false
  | _, .row => false
  | _, .adr _ => false
  | _, .dic _ _ => false
  | _, .tpn _ => false
def okDs : Nat → List D → Bool
  | _, [] => true
  | 0, _ :: _ => false
  | n + 1, d :: r => okD n d && okDs (n + 1) r
end
mutual
def eqD : D → D → Bool
  | .non, .non => true
  | .bl a, .bl b => a == b
  | .bl a, .int j => (if a = true then 1 else 0) == j
  | .int i, .bl b => i == (if b = true then 1 else 0)
  | .int i, .int j => i == j
  | .str x, .str y => x == y
  | .tup xs, .tup ys => eqDs xs ys
  | .lst xs, .lst ys => eqDs xs ys
  | _, _ => false
def eqDs : List D → List D → Bool
  | [], [] => true
  | x :: xs, y :: ys => eqD x y && eqDs xs ys
  | _, _ => false
end
section
variable {K : PySem.W.Frag} {A : Addr → Prop} {H : Hp}
mutual
theorem okD_lay : ∀ (n : Nat) (d : D), okD n d = true → (pd d).canLay0 = true
  | _, .non, _ => rfl
  | _, .bl _, _ => rfl
  | _, .int _, _ => rfl
  | _, .str x, h => by rw [okD, Bool.and_eq_true] at h; exact h.1
  | n, .tup xs, h => okDs_lay n xs h
  | n, .lst xs, h => okDs_lay n xs h
theorem okDs_lay : ∀ (n : Nat) (ds : List D), okDs n ds = true → PyData.canLayAll0 (pds ds) = true
  | _, [], _ => rfl
  | n + 1, d :: r, h => by
    rw [okDs, Bool.and_eq_true] at h
    rw [pds, PyData.canLayAll0, okD_lay n d h.1, okDs_lay (n + 1) r h.2]
    rfl
end
mutual
theorem okD_depth : ∀ (n : Nat) (d : D), okD n d = true → (pd d).depth ≤ n + 1
  | _, .non, _ => Nat.zero_le _
  | _, .bl _, _ => Nat.zero_le _
  | _, .int _, _ => Nat.zero_le _
  | _, .str x, h => Nat.zero_le _
  | n, .tup xs, h => Nat.succ_le_succ (okDs_depth n xs h)
  | n, .lst xs, h => Nat.succ_le_succ (okDs_depth n xs h)
theorem okDs_depth : ∀ (n : Nat) (ds : List D), okDs n ds = true → PyData.depthAll (pds ds) ≤ n
  | _, [], _ => Nat.zero_le _
  | n + 1, d :: r, h => by
    rw [okDs, Bool.and_eq_true] at h
    rw [pds, PyData.depthAll]
    exact Nat.max_le.mpr ⟨okD_depth n d h.1, okDs_depth (n + 1) r h.2⟩
end
mutual
theorem okD_mono : ∀ (n m : Nat) (d : D), n ≤ m → okD n d = true → okD m d = true
  | _, _, .non, _, _ => rfl
  | _, _, .bl _, _, _ => rfl
  | _, _, .int _, _, _ => rfl
  | _, _, .str _, _, h => h
  | n, m, .tup xs, e, h => okDs_mono n m xs e h
  | n, m, .lst xs, e, h => okDs_mono n m xs e h
theorem okDs_mono : ∀ (n m : Nat) (ds : List D), n ≤ m → okDs n ds = true → okDs m ds = true
  | _, _, [], _, _ => by rw [okDs]
  | n + 1, 0, d :: r, e, h => absurd e (by omega)
  | n + 1, m + 1, d :: r, e, h => by
    rw [okDs, Bool.and_eq_true] at h ⊢
    exact ⟨okD_mono n m d (by omega) h.1, okDs_mono (n + 1) (m + 1) r e h.2⟩
end
/-- what == and in ask -/
def Ok (d : D) : Prop := okD 60 d = true
theorem Ok.shaped {d : D} (h : Ok d) : SeqAt.shaped (pd d) = true := by
  unfold SeqAt.shaped
  rw [okD_lay 60 d h, Bool.true_and]
  exact decide_eq_true (Nat.le_trans (okD_depth 60 d h) (by decide))
mutual
theorem eqD_pd : ∀ d e : D, (∃ n, okD n d = true) → (∃ n, okD n e = true) → PyData.eqv (pd d) (pd e) = eqD d e
  | .non, e, _, ⟨_, h⟩ => by cases e <;> first | rfl | cases h
  | .bl a, e, _, ⟨_, h⟩ => by cases e <;> first | rfl | cases h
  | .int i, e, _, ⟨_, h⟩ => by cases e <;> first | rfl | cases h
  | .str x, e, _, ⟨_, h⟩ => by cases e <;> first | rfl | cases h
  | .tup xs, e, ⟨n, g⟩, ⟨m, h⟩ => by
    cases e with
    | tup ys => exact eqDs_pd xs ys ⟨n, g⟩ ⟨m, h⟩
    | _ => first | rfl | cases h
  | .lst xs, e, ⟨n, g⟩, ⟨m, h⟩ => by
    cases e with
    | lst ys => exact eqDs_pd xs ys ⟨n, g⟩ ⟨m, h⟩
    | _ => first | rfl | cases h
  | .ins _ _ _, _, ⟨_, g⟩, _ => nomatch g
  | .row, _, ⟨_, g⟩, _ => nomatch g
theorem eqDs_pd : ∀ ds es : List D, (∃ n, okDs n ds = true) → (∃ n, okDs n es = true) → PyData.eqvAll (pds ds) (pds es) = eqDs ds es
  | [], [], _, _ => rfl
  | [], _ :: _, _, _ => rfl
  | _ :: _, [], _, _ => rfl
  | d :: ds, e :: es, ⟨n, g⟩, ⟨m, h⟩ => by
    cases n with
    | zero => cases g
    | succ n =>
      cases m with
      | zero => cases h
      | succ m =>
        rw [okDs, Bool.and_eq_true] at g h
        rw [pds, pds, PyData.eqvAll, eqDs, eqD_pd d e ⟨n, g.1⟩ ⟨m, h.1⟩, eqDs_pd ds es ⟨n + 1, g.2⟩ ⟨m + 1, h.2⟩]
end
theorem Ok.eqv {d e : D} (h : Ok d) (g : Ok e) : PyData.eqv (pd d) (pd e) = eqD d e := eqD_pd d e ⟨_, h⟩ ⟨_, g⟩
mutual
theorem dp_of : ∀ (d : D) (v : V) (n : Nat), Rp K A H v d → okD n d = true → Dp K H v (pd d)
  | .non, _, _, r, _ => by cases r; exact .non
  | .bl b, _, _, r, _ => by cases r; exact .bl b
  | .int i, _, _, r, _ => by cases r; exact .int i
  | .str x, _, _, r, _ => by cases r; exact .str x
  | .tup xs, _, n, r, o => by
    cases r with
    | tup h r => exact .tup h (dps_of xs _ n r o)
  | .lst xs, _, n, r, o => by
    cases r with
    | lst h _ r => exact .lst (SqL.of h) (dps_of xs _ n r o)
  | .ins _ _ _, _, _, _, o => nomatch o
  | .row, _, _, _, o => nomatch o
theorem dps_of : ∀ (ds : List D) (vs : List V) (n : Nat), RpAll K A H vs ds → okDs n ds = true → DpAll K H vs (pds ds)
  | [], _, _, r, _ => by cases r; exact .nil
  | d :: ds, _, 0, _, o => nomatch o
  | d :: ds, _, n + 1, r, o => by
    rw [okDs, Bool.and_eq_true] at o
    cases r with
    | cons r t => exact .cons (dp_of d _ n r o.1) (dps_of ds _ (n + 1) t o.2)
end
theorem Rp.dp {v : V} {d : D} {n : Nat} (r : Rp K A H v d) (o : okD n d = true) : Dp K H v (pd d) := dp_of d v n r o
theorem RpAll.dp {vs : List V} {ds : List D} {n : Nat} (r : RpAll K A H vs ds) (o : okDs n ds = true) : DpAll K H vs (pds ds) := dps_of ds vs n r o
theorem Rq.dp {v : V} {d : D} {n : Nat} (r : Rq K A H v d) (o : okD n d = true) : Dp K H v (pd d) := by
  cases r with
  | non => exact .non
  | bl b => exact .bl b
  | int i => exact .int i
  | str x => exact .str x
  | tup h r => exact .tup h (r.dp o)
  | lst h r => exact .lst (SqL.of h) (r.dp o)
  | ins _ _ _ => cases o
  | row _ _ => cases o
  | adr _ => cases o
  | dic _ _ _ => cases o
  | tpn _ _ => cases o
end

@[simp] def eqM (d : D) (e : D) (Q : Bool → Prop) : Prop := (Ok d ∧ Ok e) ∧ Q (eqD d e)
@[simp] def neM (d : D) (e : D) (Q : Bool → Prop) : Prop := (Ok d ∧ Ok e) ∧ Q (!eqD d e)
def ltM : FB
  | .int i, .int j, Q => Q (decide (i < j))
  | .str x, .str y, Q => Q (decide (x.cps.toList < y.cps.toList))
  | _, _, _ => False
@[simp] theorem ltM_e1 {i : Int} {j : Int} {Q : Bool → Prop} : ltM (.int i) (.int j) Q = (Q (decide (i < j))) := rfl
@[simp] theorem ltM_e2 {x : Str} {y : Str} {Q : Bool → Prop} : ltM (.str x) (.str y) Q = (Q (decide (x.cps.toList < y.cps.toList))) := rfl
def leM : FB
  | .int i, .int j, Q => Q (decide (i ≤ j))
  | _, _, _ => False
@[simp] theorem leM_e1 {i : Int} {j : Int} {Q : Bool → Prop} : leM (.int i) (.int j) Q = (Q (decide (i ≤ j))) := rfl
def gtM : FB
  | .int i, .int j, Q => Q (decide (j < i))
  | _, _, _ => False
@[simp] theorem gtM_e1 {i : Int} {j : Int} {Q : Bool → Prop} : gtM (.int i) (.int j) Q = (Q (decide (j < i))) := rfl
def geM : FB
  | .int i, .int j, Q => Q (decide (j ≤ i))
  | _, _, _ => False
@[simp] theorem geM_e1 {i : Int} {j : Int} {Q : Bool → Prop} : geM (.int i) (.int j) Q = (Q (decide (j ≤ i))) := rfl
/-- a text within a text -/
def inS (x y : Str) : Bool := !(Builtin.Str.occurrences y x 0 y.length 1).isEmpty
theorem inS_one (c : Nat) (z : Str) : inS ⟨#[c]⟩ z = decide (c ∈ z.cps.toList) := (PySem.StrLaws.found_one z c).symm ▸ rfl
def inB (d : D) : List D → Bool
  | [] => false
  | e :: r => eqD e d || inB d r
@[simp] def inM (d : D) (e : D) (Q : Bool → Prop) : Prop := match e with
  | .lst ds => (Ok d ∧ Ok (.lst ds)) ∧ Q (inB d ds)
  | .tup ds => (Ok d ∧ Ok (.tup ds)) ∧ Q (inB d ds)
  | .str y => (match d with | .str x => Q (inS x y) | _ => False)
  | _ => False
@[simp] def notInM (d : D) (e : D) (Q : Bool → Prop) : Prop := inM d e fun b => Q (!b)
@[simp] def isM (d : D) (e : D) (Q : Bool → Prop) : Prop := match d, e with
  | .non, .non => Q true
  | _, .non => Q false
  | .bl a, .bl b => Q (decide (a = b))
  | _, _ => False
@[simp] def isNotM (d : D) (e : D) (Q : Bool → Prop) : Prop := isM d e fun b => Q (!b)
theorem inB_any {d : D} (h : Ok d) : ∀ {ds : List D} {n : Nat}, okDs n ds = true → (pds ds).any (fun z => PyData.eqv z (pd d)) = inB d ds
  | [], _, _ => rfl
  | e :: r, 0, g => nomatch g
  | e :: r, n + 1, g => by
    rw [okDs, Bool.and_eq_true] at g
    rw [pds, List.any_cons, inB, eqD_pd e d ⟨n, g.1⟩ ⟨60, h⟩, inB_any h g.2]
/-- room on the inner stack alone -/
structure RoomU (k : Nat) (A : Around) : Prop where
  un : A.units + 16 * k + 200 < cLine
theorem RoomU.units {k : Nat} {A : Around} (r : RoomU k A) : A.units + 64 < cLine := by have := r.un; omega
section
variable {X : Cx} {Y : Yx} {k : Nat}
theorem opb_eq (hr : RoomU k X.A) : OpB X (compareOp .Eq) eqM := by
  intro pins s σ H x y v u Q I rx ry ⟨A, d, e, Qd, ok, r1, r2, f, q⟩
  exact op_eqD hr.units pins s σ H _ _ v u Q I rx ry ⟨_, _, r1.dp f.1.1, r2.dp f.1.2, f.1.1.shaped, f.1.2.shaped, by rw [f.1.1.eqv f.1.2]; exact q _ f.2⟩
theorem opb_ne (hr : RoomU k X.A) : OpB X (compareOp .NotEq) neM := by
  intro pins s σ H x y v u Q I rx ry ⟨A, d, e, Qd, ok, r1, r2, f, q⟩
  exact op_neD hr.units pins s σ H _ _ v u Q I rx ry ⟨_, _, r1.dp f.1.1, r2.dp f.1.2, f.1.1.shaped, f.1.2.shaped, by rw [f.1.1.eqv f.1.2]; exact q _ f.2⟩
theorem opb_lt : OpB X (compareOp .Lt) ltM := by
  intro pins s σ H x y v u Q I rx ry ⟨A, d, e, Qd, ok, r1, r2, f, q⟩
  cases r1 <;> cases r2 <;> (try exact f.elim)
  case int.int i j => exact op_lt pins s σ H _ _ v u Q I rx ry ⟨_, _, rfl, rfl, q _ f⟩
  case str.str i j => exact op_lt_str pins s σ H _ _ v u Q I rx ry ⟨_, _, rfl, rfl, q _ f⟩
theorem opb_le : OpB X (compareOp .LtE) leM := by
  intro pins s σ H x y v u Q I rx ry ⟨A, d, e, Qd, ok, r1, r2, f, q⟩
  cases r1 <;> cases r2 <;> (try exact f.elim)
  case int.int i j => exact op_le pins s σ H _ _ v u Q I rx ry ⟨_, _, rfl, rfl, q _ f⟩
theorem opb_gt : OpB X (compareOp .Gt) gtM := by
  intro pins s σ H x y v u Q I rx ry ⟨A, d, e, Qd, ok, r1, r2, f, q⟩
  cases r1 <;> cases r2 <;> (try exact f.elim)
  case int.int i j => exact op_gt pins s σ H _ _ v u Q I rx ry ⟨_, _, rfl, rfl, q _ f⟩
theorem opb_ge : OpB X (compareOp .GtE) geM := by
  intro pins s σ H x y v u Q I rx ry ⟨A, d, e, Qd, ok, r1, r2, f, q⟩
  cases r1 <;> cases r2 <;> (try exact f.elim)
  case int.int i j => exact op_ge pins s σ H _ _ v u Q I rx ry ⟨_, _, rfl, rfl, q _ f⟩
theorem opb_is : OpB X (compareOp .Is) isM := by
  intro pins s σ H x y v u Q I rx ry ⟨A, d, e, Qd, ok, r1, r2, f, q⟩
  cases r2 with
  | non =>
    refine op_isN pins s σ H _ _ v u Q I rx ry ⟨rfl, ?_⟩
    cases r1 <;> exact q _ f
  | bl b =>
    cases r1 with
    | bl a => exact op_isBl pins s σ H _ _ v u Q I rx ry ⟨_, _, rfl, rfl, q _ f⟩
    | _ => exact f.elim
  | _ => cases r1 <;> exact f.elim
theorem opb_isNot : OpB X (compareOp .IsNot) isNotM := by
  intro pins s σ H x y v u Q I rx ry ⟨A, d, e, Qd, ok, r1, r2, f, q⟩
  cases r2 with
  | non =>
    refine op_notN pins s σ H _ _ v u Q I rx ry ⟨rfl, ?_⟩
    cases r1 <;> exact q _ f
  | bl b =>
    cases r1 with
    | bl a => exact op_notBl pins s σ H _ _ v u Q I rx ry ⟨_, _, rfl, rfl, q _ f⟩
    | _ => exact f.elim
  | _ => cases r1 <;> exact f.elim
theorem opb_in (hr : RoomU k X.A) : OpB X (compareOp .In) inM := by
  intro pins s σ H x y v u Q I rx ry ⟨A, d, e, Qd, ok, r1, r2, f, q⟩
  have hu : X.A.units + 65 < cLine := by have := hr.un; omega
  cases r2 with
  | lst h r =>
    have f2 : okDs 60 _ = true := f.1.2
    refine op_inD hu pins s σ H _ _ v u Q I rx ry ⟨_, _, r1.dp f.1.1, (Rq.lst h r).dp f.1.2, f.1.1.shaped, f.1.2.shaped, ?_⟩
    rw [inB_any f.1.1 f2]
    exact q _ f.2
  | tup h r =>
    have f2 : okDs 60 _ = true := f.1.2
    obtain ⟨as, w1⟩ := Dp.reads I _ x v (r1.dp f.1.1) rx
    obtain ⟨bs, w2⟩ := Dp.reads I _ _ u ((Rq.tup h r).dp f.1.2) ry
    refine SeqAt.in_tuple_reads w2 w1 (SeqAt.canLay_of_shaped f.1.2.shaped) (SeqAt.canLay_of_shaped f.1.1.shaped) (by have := SeqAt.depth_of_shaped f.1.1.shaped; show X.A.units + 1 + _ < cLine; omega) ⟨.bl _, H, I, rfl, ?_⟩
    have g := q _ f.2
    rw [← inB_any f.1.1 f2] at g
    exact g
  | str y =>
    cases r1 with
    | str x => exact op_in_str pins s σ H _ _ v u Q I rx ry ⟨_, _, rfl, rfl, q _ f⟩
    | _ => exact f.elim
  | _ => exact f.elim
theorem opb_notIn (hr : RoomU k X.A) : OpB X (compareOp .NotIn) notInM := by
  intro pins s σ H x y v u Q I rx ry ⟨A, d, e, Qd, ok, r1, r2, f, q⟩
  have hu : X.A.units + 65 < cLine := by have := hr.un; omega
  cases r2 with
  | lst h r =>
    have f2 : okDs 60 _ = true := f.1.2
    refine op_notInD hu pins s σ H _ _ v u Q I rx ry ⟨_, _, r1.dp f.1.1, (Rq.lst h r).dp f.1.2, f.1.1.shaped, f.1.2.shaped, ?_⟩
    rw [inB_any f.1.1 f2]
    exact q _ f.2
  | tup h r =>
    have f2 : okDs 60 _ = true := f.1.2
    obtain ⟨as, w1⟩ := Dp.reads I _ x v (r1.dp f.1.1) rx
    obtain ⟨bs, w2⟩ := Dp.reads I _ _ u ((Rq.tup h r).dp f.1.2) ry
    refine SeqAt.notIn_tuple_reads w2 w1 (SeqAt.canLay_of_shaped f.1.2.shaped) (SeqAt.canLay_of_shaped f.1.1.shaped) (by have := SeqAt.depth_of_shaped f.1.1.shaped; show X.A.units + 1 + _ < cLine; omega) ⟨.bl _, H, I, rfl, ?_⟩
    have g := q _ f.2
    rw [← inB_any f.1.1 f2] at g
    exact g
  | str y =>
    cases r1 with
    | str x => exact op_notin_str pins s σ H _ _ v u Q I rx ry ⟨_, _, rfl, rfl, q _ f⟩
    | _ => exact f.elim
  | _ => exact f.elim
end
end WL
namespace WL
open L2 PySem PySem.Spec
open LamX (ExtN)

/-! ### the context in which a text runs -/
structure Cok (k : Nat) (X : Cx) (Y : Yx) : Prop where
  pass : Passes (L2.CX X.prog X.w) X Y.ex
  calm : X.calm = true
  room : Room k X.A
  nd : X.N.Nodup
  tk : Takes X (fun cls d _ H => Y.ex cls d H)
theorem Cok.ru {k : Nat} {X : Cx} {Y : Yx} (c : Cok k X Y) : RoomU k X.A := ⟨c.room.un⟩
abbrev Yx.blk (Y : Yx) : Yx := { Y with ex := fun _ _ _ => False }

/-! ### places, slices -/
def optQ {α : Type} : Option α → (α → Prop) → Prop
  | some x, Q => Q x
  | none, _ => False
@[simp] theorem optQ_s {α : Type} (x : α) (Q : α → Prop) : optQ (some x) Q = Q x := rfl
@[simp] theorem optQ_n {α : Type} (Q : α → Prop) : optQ none Q = False := rfl
def ixM : F2
  | .lst ds, .int k, Q => optQ (atI ds k) Q
  | .tup ds, .int k, Q => optQ (atI ds k) Q
  | .str x, .int k, Q => x.length ≤ 1000 ∧ optQ (atI x.cps.toList k) fun c => Q (.str ⟨#[c]⟩)
  | _, _, _ => False
@[simp] theorem ixM_e1 {ds : List D} {k : Int} {Q : D → Prop} : ixM (.lst ds) (.int k) Q = (optQ (atI ds k) Q) := rfl
@[simp] theorem ixM_e2 {ds : List D} {k : Int} {Q : D → Prop} : ixM (.tup ds) (.int k) Q = (optQ (atI ds k) Q) := rfl
@[simp] theorem ixM_e3 {x : Str} {k : Int} {Q : D → Prop} : ixM (.str x) (.int k) Q = (x.length ≤ 1000 ∧ optQ (atI x.cps.toList k) fun c => Q (.str ⟨#[c]⟩)) := rfl
def cutL {α : Type} (xs : List α) (lo hi : Option Int) : List α := (xs.drop (HT.sIx xs.length 0 lo)).take (HT.sIx xs.length xs.length hi - HT.sIx xs.length 0 lo)
@[simp] def slM : D → Option Int → Option Int → (D → Prop) → Prop
  | .tup ds, lo, hi, Q => Q (.tup (cutL ds lo hi))
  | .lst ds, lo, hi, Q => Q (.lst (cutL ds lo hi))
  | .str x, lo, hi, Q => x.length ≤ 1000 ∧ Q (.str (cutS x lo hi))
  | _, _, _, _ => False
abbrev EMo := DEnv → (Option Int → Prop) → (Xn → Prop) → Prop
def rO (_ : Addr → Prop) (_ _ : Hp) (a b : Option Int) : Prop := a = b
def POd (X : Cx) (Y : Yx) (e : Option Expr) (m : EMo) : Prop := PO X e (liftG X Y rO m)
@[simp ↓] def moN (_ : DEnv) (Q : Option Int → Prop) (_ : Xn → Prop) : Prop := Q none
@[simp ↓] def moS (a : EM) (ρ : DEnv) (Q : Option Int → Prop) (E : Xn → Prop) : Prop := a ρ (fun x => match x with | .int i => Q (some i) | _ => False) E
@[simp ↓] def mSl (a : EM) (l u : EMo) (ρ : DEnv) (Q : D → Prop) (E : Xn → Prop) : Prop := a ρ (fun x => l ρ (fun lo => u ρ (fun hi => slM x lo hi Q) E) E) E
section
variable {K : PySem.W.Frag} {A : Addr → Prop} {H : Hp}
theorem RpAll.atI {xs : List V} {ds : List D} {k : Int} {d : D} (r : RpAll K A H xs ds) (h : L2.atI ds k = some d) : ∃ v, L2.atI xs k = some v ∧ Rp K A H v d := by
  unfold L2.atI at h ⊢
  rw [r.length]
  cases e : ixN ds.length k with
  | none => rw [e] at h; cases h
  | some j =>
    rw [e] at h
    exact r.get h
theorem RpAll.cut {xs : List V} {ds : List D} (r : RpAll K A H xs ds) (lo hi : Option Int) : RpAll K A H (cutV xs lo hi) (cutL ds lo hi) := by
  unfold cutV cutL
  rw [r.length]
  exact (r.drop _).take _
end
theorem no_new {A : Addr → Prop} {H : Hp} {p : Addr} (ok : AOk A H) (hp : H p = none) : ¬ A p := fun z => by
  rcases ok p z with ⟨ys, w⟩ | ⟨C, dx, fs, w⟩ <;> (rw [hp] at w; cases w)
section
variable {K : PySem.W.Frag} {A : Addr → Prop} {H : Hp} {p : Addr} {xs : List V} {ds : List D}
theorem Rp.newT (ok : AOk A H) (hp : H p = none) (r : RpAll K A H xs ds) : Rp K A (upd H p (.tup xs)) (.ref p) (.tup ds) := .tup (SqT.of upd_same) (r.ext ok (extN_same (upd_fresh_same hp)))
theorem Rp.newL (ok : AOk A H) (hp : H p = none) (r : RpAll K A H xs ds) : Rp K A (upd H p (.lst xs)) (.ref p) (.lst ds) := .lst upd_same (no_new ok hp) (r.ext ok (extN_same (upd_fresh_same hp)))
end
section
variable {X : Cx} {Y : Yx} {a b e : Expr} {ma mb : EM} {pos p2 : Pos} {lo hi : Option Expr} {ml mu : EMo}
theorem ixd : IxR X (opZ X Y ixM) := by
  intro value slice pins s σ H x y v u Q I rx ry ⟨A, d, e, Qd, ok, r1, r2, f, k⟩ hs
  cases r1 <;> cases r2 <;> (try exact f.elim)
  case lst.int a xs ds h q i =>
    replace f : optQ (atI ds i) Qd := f
    cases w : atI ds i with
    | none => rw [w] at f; exact f.elim
    | some z =>
      rw [w] at f
      obtain ⟨v', hv, rv⟩ := q.atI w
      exact ix_seq value slice pins s σ H _ _ v u Q I rx ry (.inl ⟨a, xs, i, v', rfl, rfl, SqL.of h, hv, k _ _ _ (Y.G.refl _) rv f⟩) hs
  case tup.int a xs ds h q i =>
    replace f : optQ (atI ds i) Qd := f
    cases w : atI ds i with
    | none => rw [w] at f; exact f.elim
    | some z =>
      rw [w] at f
      obtain ⟨v', hv, rv⟩ := q.atI w
      exact ix_seq value slice pins s σ H _ _ v u Q I rx ry (.inr (.inl ⟨a, xs, i, v', rfl, rfl, h, hv, k _ _ _ (Y.G.refl _) rv f⟩)) hs
  case str.int x i =>
    obtain ⟨hl, f⟩ := f
    cases w : atI x.cps.toList i with
    | none => rw [w] at f; exact f.elim
    | some z =>
      rw [w] at f
      exact ix_seq value slice pins s σ H _ _ v u Q I rx ry (.inr (.inr ⟨x, i, z, rfl, rfl, small hl, w, k _ _ _ (Y.G.refl _) (.str _) f⟩)) hs
theorem pd_ix (ha : PQ X Y a ma) (hb : PD X Y b mb) (hs : PlainIx b := by exact fun _ _ => rfl) : PD X Y (.Subscript a b pos) (m2 ixM ma mb) :=
  pe_imp (pe_ix ixd ha hb hs) fun σ H Q ⟨A, ρ, Qd, E, env, ex, hm, k⟩ => ⟨A, ρ, _, E, env, ex, hm, fun v H1 d g1 r1 h1 => ⟨A, ρ, _, E, env.step g1, ex, h1, fun w H2 d2 g2 r2 h2 =>
    ⟨A, d, d2, Qd, ((env.step g1).step g2).aok, Rq.ext (env.step g1).aok (Y.G.ext g2) r1, r2.q, h2, fun u H3 r g3 r3 h3 => k u H3 r (Y.G.trans g1 (Y.G.trans g2 g3)) r3 h3⟩⟩⟩
theorem pod_none : POd X Y none moN := ⟨fun pins s σ H Q I ⟨A, ρ, Qd, E, env, ex, hm, k⟩ => po_none.run pins s σ H Q I (k none H none (Y.G.refl H) rfl hm)⟩
theorem pod_some (h : PD X Y e ma) : POd X Y (some e) (moS ma) := ⟨fun pins s σ H Q I ⟨A, ρ, Qd, E, env, ex, hm, k⟩ => (po_some h).run pins s σ H Q I ⟨A, ρ, _, E, env, ex, hm, fun v H1 d g1 r1 h1 => by
  cases r1 with
  | int i => exact ⟨i, rfl, k _ _ _ g1 rfl h1⟩
  | _ => exact h1.elim⟩⟩
def slZ (X : Cx) (Y : Yx) : V → Option Int → Option Int → Hp → VK → Prop := fun x lo hi H Q => ∃ (A : Addr → Prop) (d : D) (Qd : D → Prop), AOk A H ∧ Rq X.K A H x d ∧ slM d lo hi Qd ∧ ∀ v H' r, Y.G.r H H' → Rp X.K A H' v r → Qd r → Q v H'
theorem sld : SlR X (slZ X Y) := by
  intro pins s σ H x v vl vu lo hi sl Q I rx hs pl pu ⟨A, d, Qd, ok, r1, f, k⟩
  cases r1 with
  | tup h r =>
    refine sl_tupA pins s σ H _ v vl vu lo hi sl Q I rx hs pl pu ⟨_, _, rfl, h, fun z => ?_, fun z p hp => ?_⟩
    · refine k _ _ _ (Y.G.refl _) (.tup h ?_) f
      have q := r.cut lo hi
      unfold cutV at q
      rw [z.1, z.2, List.drop_zero, Nat.sub_zero, List.take_length] at q
      exact q
    · exact k _ _ _ (Y.G.same (upd_fresh_same hp)) (Rp.newT ok hp (r.cut lo hi)) f
  | lst h r =>
    exact sl_list pins s σ H _ v vl vu lo hi sl Q I rx hs pl pu ⟨_, _, rfl, SqL.of h, fun p hp => k _ _ _ (Y.G.same (upd_fresh_same hp)) (Rp.newL ok hp (r.cut lo hi)) f⟩
  | str x => exact sl_str pins s σ H _ v vl vu lo hi sl Q I rx hs pl pu ⟨_, rfl, small f.1, k _ _ _ (Y.G.refl _) (.str _) f.2⟩
  | _ => exact f.elim
theorem pd_slice (he : PQ X Y e ma) (hl : POd X Y lo ml) (hu : POd X Y hi mu) : PD X Y (.Subscript e (.Slice lo hi none p2) pos) (mSl ma ml mu) :=
  pe_imp (pe_slice sld he hl hu) fun σ H Q ⟨A, ρ, Qd, E, env, ex, hm, k⟩ => ⟨A, ρ, _, E, env, ex, hm, fun v H1 d g1 r1 h1 => ⟨A, ρ, _, E, env.step g1, ex, h1, fun l H2 l2 g2 e2 h2 => by
    have env2 := (env.step g1).step g2
    cases e2
    exact ⟨A, ρ, _, E, env2, ex, h2, fun u H3 u2 g3 e3 h3 => by
      cases e3
      exact ⟨A, d, Qd, (env2.step g3).aok, Rq.ext env2.aok (Y.G.ext g3) (Rq.ext (env.step g1).aok (Y.G.ext g2) r1), h3, fun u H3 r g4 r3 h3 => k u H3 r (Y.G.trans g1 (Y.G.trans g2 (Y.G.trans g3 g4))) r3 h3⟩⟩⟩⟩
end

/-! ### attributes of own things -/
/-- the place of a name among the attributes -/
def ixF (f : Str) : List Str → Option Nat
  | [] => none
  | k :: r => if f = k then some 0 else (ixF f r).map (· + 1)
theorem ixF_some {f : Str} : ∀ {ks : List Str} {j : Nat} {vs : List V}, ixF f ks = some j → ks.length = vs.length → (ks.zip vs).lookup f = vs[j]?
  | [], _, _, h, _ => nomatch h
  | k :: r, j, [], _, hl => nomatch hl
  | k :: r, j, v :: vs, h, hl => by
    unfold ixF at h
    by_cases e : f = k
    · rw [if_pos e] at h
      cases h
      subst e
      simp [List.zip_cons_cons, List.lookup_cons]
    · rw [if_neg e] at h
      cases q : ixF f r with
      | none => rw [q] at h; cases h
      | some i =>
        rw [q] at h
        cases h
        rw [List.zip_cons_cons, List.lookup_cons]
        have : (f == k) = false := beq_eq_false_iff_ne.mpr e
        rw [this]
        simpa using ixF_some (ks := r) (vs := vs) q (Nat.succ.inj hl)
theorem ixF_none {f : Str} : ∀ {ks : List Str} {vs : List V}, ixF f ks = none → (ks.zip vs).lookup f = none
  | [], _, _ => rfl
  | k :: r, [], _ => rfl
  | k :: r, v :: vs, h => by
    unfold ixF at h
    by_cases e : f = k
    · rw [if_pos e] at h; cases h
    · rw [if_neg e] at h
      cases q : ixF f r with
      | some i => rw [q] at h; cases h
      | none =>
        rw [List.zip_cons_cons, List.lookup_cons, beq_eq_false_iff_ne.mpr e]
        exact ixF_none q
def atM (C : Addr) (ks : List Str) (j : Nat) (d : D) (Q : D → Prop) : Prop := match d with
  | .ins C' ks' ds => C' = C ∧ ks' = ks ∧ optQ ds[j]? Q
  | _ => False
@[simp] theorem atM_ins (C C' : Addr) (ks ks' : List Str) (j : Nat) (ds : List D) (Q : D → Prop) : atM C ks j (.ins C' ks' ds) Q = (C' = C ∧ ks' = ks ∧ optQ ds[j]? Q) := rfl
@[simp ↓] def mAttr (C : Addr) (ks : List Str) (j : Nat) (a : EM) (ρ : DEnv) (Q : D → Prop) (E : Xn → Prop) : Prop := a ρ (fun d => atM C ks j d Q) E
section
variable {X : Cx} {Y : Yx} {e : Expr} {ma : EM} {pos : Pos} {f : Str} {C : Addr} {ks : List Str} {j : Nat}
theorem pd_attr (he : PD X Y e ma) (c : Cls X.K C) (n : NoAttr X.K C f) (hj : ixF f ks = some j := by decide +kernel) (hb : attributeBase e f X.env (eval e X.env) = eval e X.env := by rfl) : PD X Y (.Attribute e f pos) (mAttr C ks j ma) :=
  pe_imp (pe_fld he hb) fun σ H Q ⟨A, ρ, Qd, E, env, ex, hm, k⟩ => ⟨A, ρ, _, E, env, ex, hm, fun v H1 d g1 r1 h1 => by
    cases r1 with
    | @ins a0 C0 dx0 ks0 vs ds h l n' r =>
      obtain ⟨e1, e2, h1⟩ := h1
      subst e1
      subst e2
      cases w : ds[j]? with
      | none => rw [w] at h1; exact h1.elim
      | some z =>
        rw [w] at h1
        obtain ⟨v', hv, rv⟩ := r.get w
        exact ⟨_, _, _, _, v', rfl, h, c, n, (ixF_some hj l).trans hv, k _ _ _ g1 rv h1⟩
    | _ => exact h1.elim⟩
end

/-! ### calls of the text's own defs -/
/-- n arguments, data all; it gives back data, or lets an error out -/
def spD (K : PySem.W.Frag) (n : Nat) (m : List D → M) : Sp := fun vs H Q E => ∃ (A : Addr → Prop) (ds : List D) (Qd : D → Prop) (Ed : Xn → Prop), AOk A H ∧ RpAll K A H vs ds ∧ ds.length = n ∧ m ds Qd Ed ∧
  (∀ d v H', Qd d → Same H H' → Rp K A H' v d → Q v H') ∧ ∀ x cls dd H', Ed x → Same H H' → RpX K A H' cls dd x → E cls dd H'
structure FnAt (P : Program) (w : World) (K : PySem.W.Frag) (mg : Str → Option Value) (base : Heap) (k : Nat) (x : Str) (n : Nat) (m : List D → M) : Prop where
  ex : ∃ (f : Addr) (fd : FuncData) (ps : List Str), mg x = some (.ref f) ∧ PySem.W.keepIn K (.ref f) = true ∧ Binds K fd ps [] ∧ FnOk P w K mg base (L2.CX P w) k f fd ps (spD K n m)
theorem RpX.weak {K : PySem.W.Frag} {A A' : Addr → Prop} {H : Hp} {cls : Value} {dd : Option Addr} {x : Xn} (ok : AOk A H) (f : ∀ a, A' a → A a) (h : RpX K A H cls dd x) : RpX K A' H cls dd x := by
  obtain ⟨e, d, vs, h1, h2, h3, r⟩ := h
  exact ⟨e, d, vs, h1, h2, h3, r.move ok .refl fun a z => .inl (f a z)⟩
@[simp ↓] def mCall (n : Nat) (m : List D → M) (ms : EMs) (ρ : DEnv) (Q : D → Prop) (E : Xn → Prop) : Prop := ms ρ (fun ds => ds.length = n ∧ m ds Q E) E
section
variable {X : Cx} {Y : Yx} {e : Expr} {es : List Expr} {ms : EMs} {p pos : Pos} {x : Str} {n k j : Nat} {m : List D → M}
theorem FnAt.mono {P : Program} {w : World} {K : PySem.W.Frag} {mg : Str → Option Value} {base : Heap} (F : FnAt P w K mg base j x n m) (h : j ≤ k) : FnAt P w K mg base k x n m := by
  obtain ⟨f, fd, ps, a, b, c, d⟩ := F.ex
  exact ⟨f, fd, ps, a, b, c, d.mono h⟩
theorem pd_call (c : Cok k X Y) (F : FnAt X.prog X.w X.K X.mg X.base j x n m) (ha : PAd X Y (e :: es) ms) (hj : j ≤ k := by decide) (hg : Gl X x := by rfl) (hdb : (x == ("__debug__" : Str)) = false := by decide)
    (he : starEach (e :: es) X.env = (false, eval e X.env) :: starEach es X.env := by rfl) (hpl : (backTo pos (starEach es X.env)).any (·.1) = false := by rfl) : PD X Y (.Call (.Name x p) (e :: es) [] pos) (mCall n m ms) := by
  obtain ⟨f, fd, ps, h1, h2, h3, h4⟩ := F.ex
  refine pe_imp (pe_call h4 (c.room.mono hj) hg h1 h2 h3 .nil c.pass ha hdb he hpl) fun σ H Q ⟨A, ρ, Qd, E, env, ex, hm, k⟩ => ⟨A, ρ, _, E, env, ex, hm, fun vs H1 ds g1 r1 h1 => ?_⟩
  have env1 := env.step g1
  refine ⟨A, ds, Qd, E, env1.aok, by rw [List.append_nil]; exact r1, h1.1, h1.2, fun d v H' q s r => k v H' d (Y.G.trans g1 (Y.G.same s)) r q, fun x cls dd H' q s r => ?_⟩
  exact ex x cls dd H' q (Y.G.trans env1.go (Y.G.same s)) (r.weak (env1.aok.ext (extN_same s)) fun a z => (env.a0 a z).1)
end
end WL
namespace WL
open L2 PySem PySem.Spec
open LamX (ExtN)

/-! ### statements by data -/
structure Kt where
  nx : DEnv → Prop
  rt : D → Prop
  rf : List D → Prop
  bk : DEnv → Prop
  ct : DEnv → Prop
  ex : Xn → Prop
abbrev SM := DEnv → Kt → Prop
structure Stp (A : Addr → Prop) (H : Hp) (A' : Addr → Prop) (H' : Hp) : Prop where
  keep : Keeps A H H'
  fr : Fresh A A' H
section
variable {A A1 A2 : Addr → Prop} {H H1 H2 : Hp}
theorem Stp.refl : Stp A H A H := ⟨.refl, .refl⟩
theorem Stp.ext (e : ExtN H H1) : Stp A H A H1 := ⟨.ext e, .refl⟩
theorem Stp.trans (s : Stp A H A1 H1) (t : Stp A1 H1 A2 H2) : Stp A H A2 H2 := by
  refine ⟨fun b o e n nt => t.keep b o (s.keep b o e n nt) (fun z => ?_) nt, fun a z => ?_⟩
  · rcases s.fr b z with q | q
    · exact n q
    · obtain ⟨ps, w⟩ := q o e
      exact nt ps w
  · rcases t.fr a z with q | q
    · exact s.fr a q
    · by_cases y : A a
      · exact .inl y
      · refine .inr fun o e => ?_
        by_cases w : ∃ ps, o = .tbl ps
        · exact w
        · exact q o (s.keep a o e y fun ps u => w ⟨ps, u⟩)
end
structure EndsOk (X : Cx) (Y : Yx) (A : Addr → Prop) (H : Hp) (K : Kt) (E : Ends) : Prop where
  nx : ∀ A' σ' H' ρ', Stp A H A' H' → EnvOk X.K Y A' H' σ' ρ' → K.nx ρ' → E.nx σ' H'
  bk : ∀ A' σ' H' ρ', Stp A H A' H' → EnvOk X.K Y A' H' σ' ρ' → K.bk ρ' → E.bk σ' H'
  ct : ∀ A' σ' H' ρ', Stp A H A' H' → EnvOk X.K Y A' H' σ' ρ' → K.ct ρ' → E.ct σ' H'
  rt : ∀ v H' d, Y.G.r Y.H0 H' → Rp X.K Y.A0 H' v d → K.rt d → E.rt v H'
  rf : ∀ p H' xs ds, Y.G.r Y.H0 H' → Nt Y.H0 p → H' p = some (.lst xs) → RpAll X.K (Ap Y.A0 p) H' xs ds → K.rf ds → E.rt (.ref p) H'
theorem EndsOk.step {X : Cx} {Y : Yx} {A A1 : Addr → Prop} {H H1 : Hp} {K : Kt} {E : Ends} (e : EndsOk X Y A H K E) (s : Stp A H A1 H1) : EndsOk X Y A1 H1 K E :=
  ⟨fun A' σ' H' ρ' t => e.nx A' σ' H' ρ' (s.trans t), fun A' σ' H' ρ' t => e.bk A' σ' H' ρ' (s.trans t), fun A' σ' H' ρ' t => e.ct A' σ' H' ρ' (s.trans t), e.rt, e.rf⟩
def liftS (X : Cx) (Y : Yx) (t : SM) : TS := fun E σ H => ∃ (A : Addr → Prop) (ρ : DEnv) (K : Kt), EnvOk X.K Y A H σ ρ ∧ ExOk X.K Y K.ex ∧ t ρ K ∧ EndsOk X Y A H K E
def PSd (X : Cx) (Y : Yx) (st : Stmt) (t : SM) : Prop := PS X st (liftS X Y t)
def PSsd (X : Cx) (Y : Yx) (st : List Stmt) (t : SM) : Prop := PSs X st (liftS X Y t)
theorem ps_imp {X : Cx} {e : Stmt} {t t' : TS} (h : PS X e t) (k : ∀ E σ H, t' E σ H → t E σ H) : PS X e t' := ⟨fun pins s σ H E I q => h.run pins s σ H E I (k _ _ _ q)⟩
theorem pss_imp {X : Cx} {e : List Stmt} {t t' : TS} (h : PSs X e t) (k : ∀ E σ H, t' E σ H → t E σ H) : PSs X e t' := ⟨fun pins s σ H E I q => h.run pins s σ H E I (k _ _ _ q)⟩

@[simp ↓] def sNext (ρ : DEnv) (K : Kt) : Prop := K.nx ρ
@[simp ↓] def sSeq (t u : SM) (ρ : DEnv) (K : Kt) : Prop := t ρ { K with nx := fun ρ' => u ρ' K }
@[simp ↓] def sIf (c : EMt) (t u : SM) (ρ : DEnv) (K : Kt) : Prop := c ρ (fun b => if b = true then t ρ K else u ρ K) K.ex
@[simp ↓] def sRet (m : EM) (ρ : DEnv) (K : Kt) : Prop := m ρ K.rt K.ex
@[simp ↓] def sRetN (_ : DEnv) (K : Kt) : Prop := K.rt .non
@[simp ↓] def sRetF (m : EMs) (ρ : DEnv) (K : Kt) : Prop := m ρ K.rf K.ex
@[simp ↓] def sRetO (i : Nat) (ρ : DEnv) (K : Kt) : Prop := match look ρ i with
  | some (.own ds) => K.rf ds
  | _ => False
@[simp ↓] def sDrop (m : EM) (ρ : DEnv) (K : Kt) : Prop := m ρ (fun _ => K.nx ρ) K.ex
@[simp ↓] def sSet (m : EM) (i : Nat) (ρ : DEnv) (K : Kt) : Prop := m ρ (fun d => K.nx (put ρ i (some (.dat d)))) K.ex
@[simp ↓] def sOwn (m : EMs) (i : Nat) (ρ : DEnv) (K : Kt) : Prop := m ρ (fun ds => K.nx (put ρ i (some (.own ds)))) K.ex
@[simp ↓] def sApp (i : Nat) (m : EM) (ρ : DEnv) (K : Kt) : Prop := match look ρ i with
  | some (.own ds) => m ρ (fun d => ds.length ≤ 100000 ∧ K.nx (put ρ i (some (.own (ds ++ [d]))))) K.ex
  | _ => False
@[simp ↓] def sSto (i : Nat) (mi me : EM) (ρ : DEnv) (K : Kt) : Prop := match look ρ i with
  | some (.own ds) => me ρ (fun d => mi ρ (fun x => match x with | .int k => optQ (ixN ds.length k) fun j => K.nx (put ρ i (some (.own (ds.set j d)))) | _ => False) K.ex) K.ex
  | _ => False
@[simp ↓] def sBreak (ρ : DEnv) (K : Kt) : Prop := K.bk ρ
@[simp ↓] def sCont (ρ : DEnv) (K : Kt) : Prop := K.ct ρ
/-- what is owned is given away: plain data from now on -/
@[simp ↓] def sFrz (i : Nat) (ρ : DEnv) (K : Kt) : Prop := match look ρ i with
  | some (.own ds) => K.nx (put ρ i (some (.dat (.lst ds))))
  | _ => False

section
variable {K : PySem.W.Frag} {Y : Yx} {A : Addr → Prop} {H H' : Hp} {σ : St} {ρ : DEnv} {i : Nat} {p : Addr} {xs xs' : List V} {ds ds' : List D}
theorem AOk.own (ok : AOk A H) (h : (∃ xs, H p = some (.lst xs)) ∨ ∃ C dx fs, H p = some (.ins C dx fs)) : AOk (Ap A p) H := fun a z => by
  rcases z with z | z
  · exact ok a z
  · subst z; exact h
theorem AOk.upd (ok : AOk A H) : AOk A (upd H p (.lst xs)) := fun a z => by
  by_cases e : a = p
  · subst e; exact .inl ⟨xs, upd_same⟩
  · rw [upd_ne e]; exact ok a z
theorem keeps_upd {o : HO} (h : A p) : Keeps A H (upd H p o) := fun b u e n _ => by
  rw [upd_ne (fun z => n (by subst z; exact h))]; exact e
/-- a new list in the slot i, owned -/
theorem EnvOk.setOwn (e : EnvOk K Y A H σ ρ) (g : Y.G.r H H') (n : Nt H p) (h : H' p = some (.lst xs)) (r : RpAll K (Ap A p) H' xs ds) : EnvOk K Y (Ap A p) H' (σ.set i (some (.ref p))) (put ρ i (some (.own ds))) := by
  have x := Y.G.ext g
  have e1 := e.step g
  have fr : Fresh A (Ap A p) H := fun a z => z.elim .inl fun z => .inr (z ▸ n)
  have nsl : ∀ j s, look ρ j = some s → isDat s = false → σ[j]? ≠ some (some (.ref p)) := fun j s hs hd z => by
    have q := e.sl j s hs
    cases s with
    | dat d => cases hd
    | own ds =>
      obtain ⟨q1, ys, w1, w2, _⟩ := q
      rw [w1] at z
      cases z
      obtain ⟨_, w⟩ := n _ w2
      cases w
    | obj C ks ds =>
      obtain ⟨q1, dx, ys, w1, w2, _⟩ := q
      rw [w1] at z
      cases z
      obtain ⟨_, w⟩ := n _ w2
      cases w
  refine ⟨e1.go, fun a z => ⟨.inl (e.a0 a z).1, (e.a0 a z).2⟩, fun a z => z.elim (e.fr a) fun z => .inr (z ▸ n.back (Y.G.ext e.go)), e1.aok.own (.inl ⟨xs, h⟩), by rw [List.length_set, put_length]; exact e.len, fun j s hs => ?_, fun j k q s t h1 h2 i1 i2 e1' e2' => ?_⟩
  · by_cases hj : j = i
    · subst hj
      obtain ⟨q1, q2⟩ := look_put_eq hs
      cases q1
      exact ⟨p, xs, List.getElem?_set_self (by rw [e.len]; exact q2), h, .inr rfl, n.back (Y.G.ext e.go), r⟩
    · rw [look_put_ne _ _ _ _ hj] at hs
      have q := e.sl j s hs
      cases s with
      | dat d =>
        obtain ⟨v, a, b⟩ := q
        exact ⟨v, by rw [List.getElem?_set_ne (Ne.symm hj)]; exact a, b.move e.aok (.ext x) fr⟩
      | own es =>
        obtain ⟨q1, ys, a, b, c, d, r'⟩ := q
        exact ⟨q1, ys, by rw [List.getElem?_set_ne (Ne.symm hj)]; exact a, x _ _ b (fun _ z => nomatch z), .inl c, d, r'.move e.aok (.ext x) fr⟩
      | obj C ks es =>
        obtain ⟨q1, dx, ys, a, b, l, c, d, r'⟩ := q
        exact ⟨q1, dx, ys, by rw [List.getElem?_set_ne (Ne.symm hj)]; exact a, x _ _ b (fun _ z => nomatch z), l, .inl c, d, r'.move e.aok (.ext x) fr⟩
  · by_cases hj : j = i
    · by_cases hk : k = i
      · rw [hj, hk]
      · subst hj
        rw [look_put_ne _ _ _ _ hk] at h2
        rw [List.getElem?_set_ne (Ne.symm hk)] at e2'
        rw [List.getElem?_set_self (by rw [e.len]; exact (look_put_eq h1).2)] at e1'
        cases e1'
        exact absurd e2' (nsl k t h2 i2)
    · rw [look_put_ne _ _ _ _ hj] at h1
      rw [List.getElem?_set_ne (Ne.symm hj)] at e1'
      by_cases hk : k = i
      · subst hk
        rw [List.getElem?_set_self (by rw [e.len]; exact (look_put_eq h2).2)] at e2'
        cases e2'
        exact absurd e1' (nsl j s h1 i1)
      · rw [look_put_ne _ _ _ _ hk] at h2
        rw [List.getElem?_set_ne (Ne.symm hk)] at e2'
        exact e.dist j k q s t h1 h2 i1 i2 e1' e2'
/-- the owned list in the slot i is written -/
theorem EnvOk.updOwn (e : EnvOk K Y A H σ ρ) (hl : look ρ i = some (.own ds)) (hs : σ[i]? = some (some (.ref p))) (hp : H p = some (.lst xs)) (ap : A p) (np : Nt Y.H0 p) (r : RpAll K A H xs' ds') :
    EnvOk K Y A (upd H p (.lst xs')) σ (put ρ i (some (.own ds'))) := by
  have kp : Keeps A H (upd H p (.lst xs')) := keeps_upd ap
  refine ⟨Y.G.mutd e.go np (.inl ⟨xs, hp⟩), e.a0, e.fr, e.aok.upd, by rw [put_length]; exact e.len, fun j s h => ?_, fun j k q s t h1 h2 i1 i2 e1 e2 => ?_⟩
  · by_cases hj : j = i
    · subst hj
      obtain ⟨q1, q2⟩ := look_put_eq h
      cases q1
      exact ⟨p, xs', hs, upd_same, ap, np, r.move e.aok kp .refl⟩
    · rw [look_put_ne _ _ _ _ hj] at h
      have q := e.sl j s h
      cases s with
      | dat d =>
        obtain ⟨v, a, b⟩ := q
        exact ⟨v, a, b.move e.aok kp .refl⟩
      | own es =>
        obtain ⟨q1, ys, a, b, c, d, r'⟩ := q
        have ne : q1 ≠ p := fun z => hj (e.dist j i p _ _ h hl rfl rfl (z ▸ a) hs)
        exact ⟨q1, ys, a, by rw [upd_ne ne]; exact b, c, d, r'.move e.aok kp .refl⟩
      | obj C ks es =>
        obtain ⟨q1, dx, ys, a, b, l, c, d, r'⟩ := q
        have ne : q1 ≠ p := fun z => hj (e.dist j i p _ _ h hl rfl rfl (z ▸ a) hs)
        exact ⟨q1, dx, ys, a, by rw [upd_ne ne]; exact b, l, c, d, r'.move e.aok kp .refl⟩
  · have f : ∀ j s, look (put ρ i (some (.own ds'))) j = some s → isDat s = false → ∃ s', look ρ j = some s' ∧ isDat s' = false := fun j s h hd => by
      by_cases hj : j = i
      · subst hj; exact ⟨_, hl, rfl⟩
      · rw [look_put_ne _ _ _ _ hj] at h; exact ⟨s, h, hd⟩
    obtain ⟨s', a1, a2⟩ := f j s h1 i1
    obtain ⟨t', b1, b2⟩ := f k t h2 i2
    exact e.dist j k q s' t' a1 b1 a2 b2 e1 e2
end

section
variable {X : Cx} {Y : Yx} {st : Stmt} {rest a b : List Stmt} {t u : SM} {e c : Expr} {m mi : EM} {ms : EMs} {mt : EMt} {pos : Pos} {i : Nat} {x : Str}
theorem pssd_nil : PSsd X Y [] sNext := pss_imp pss_nil fun E σ H ⟨A, ρ, K, env, ex, h, en⟩ => en.nx A σ H ρ .refl env h
theorem pssd_cons (h1 : PSd X Y st t) (h2 : PSsd X Y rest u) : PSsd X Y (st :: rest) (sSeq t u) :=
  pss_imp (pss_cons h1 h2) fun E σ H ⟨A, ρ, K, env, ex, h, en⟩ => ⟨A, ρ, { K with nx := fun ρ' => u ρ' K }, env, ex, h, ⟨fun A' σ' H' ρ' s env' q => ⟨A', ρ', K, env', ex, q, en.step s⟩, en.bk, en.ct, en.rt, en.rf⟩⟩
theorem pssd_one (h1 : PSd X Y st t) : PSsd X Y [st] t := pss_one h1
theorem psd_if (hc : PTd X Y c mt) (ha : PSsd X Y a t) (hb : PSsd X Y b u) : PSd X Y (.If c a b pos) (sIf mt t u) :=
  ps_imp (ps_if hc ha hb) fun E σ H ⟨A, ρ, K, env, ex, h, en⟩ => ⟨A, ρ, _, _, env, ex, h, fun v H1 d g1 r1 h1 => by
    cases r1
    have s := Stp.ext (A := A) (Y.G.ext g1)
    cases v with
    | true => exact ⟨A, ρ, K, env.step g1, ex, h1, en.step s⟩
    | false => exact ⟨A, ρ, K, env.step g1, ex, h1, en.step s⟩⟩
theorem psd_ret (he : PD X Y e m) : PSd X Y (.Return (some e) pos) (sRet m) :=
  ps_imp (ps_ret he) fun E σ H ⟨A, ρ, K, env, ex, h, en⟩ => ⟨A, ρ, _, _, env, ex, h, fun v H1 d g1 r1 h1 =>
    en.rt v H1 d (Y.G.trans env.go g1) (r1.move (env.step g1).aok .refl fun a z => .inl (env.a0 a z).1) h1⟩
theorem psd_retN : PSd X Y (.Return none pos) sRetN :=
  ps_imp ps_retN fun E σ H ⟨A, ρ, K, env, ex, h, en⟩ => en.rt .non H .non env.go .non h
theorem psd_retF (he : PF X Y e ms) : PSd X Y (.Return (some e) pos) (sRetF ms) :=
  ps_imp (ps_ret he) fun E σ H ⟨A, ρ, K, env, ex, h, en⟩ => ⟨A, ρ, _, _, env, ex, h, fun v H1 d g1 ⟨p, xs, e1, n, hl, r⟩ h1 => by
    subst e1
    refine en.rf p H1 xs d (Y.G.trans env.go g1) (n.back (Y.G.ext env.go)) hl (r.move ((env.step g1).aok.own (.inl ⟨xs, hl⟩)) .refl fun a z => .inl ?_) h1
    exact z.elim (fun z => .inl (env.a0 a z).1) .inr⟩
theorem psd_retO {pos' : Pos} (hN : X.N[i]? = some x := by rfl) (hv : Vis X.env.scope x := by first | exact Or.inl rfl | exact Or.inr (Or.inl rfl)) (hd : (x == ("__debug__" : Str)) = false := by decide) (hcd : (x == ("__classdict__" : Str)) = false := by decide) :
    PSd X Y (.Return (some (.Name x pos)) pos') (sRetO i) := by
  refine ps_imp (ps_ret (pe_var hN hv hd hcd)) fun E σ H ⟨A, ρ, K, env, ex, h, en⟩ => ?_
  unfold sRetO at h
  split at h
  · rename_i ds hl
    obtain ⟨p, xs, h1, h2, ap, np, r⟩ := env.sl i _ hl
    exact ⟨_, h1, en.rf p H xs ds env.go np h2 (r.move env.aok .refl fun a z => .inl (z.elim (fun z => (env.a0 a z).1) fun z => z ▸ ap)) h⟩
  · exact h.elim
theorem psd_drop (he : PD X Y e m) (hs : swapsWith e none pos.line X.env = pure false := by rfl) : PSd X Y (.Expr e pos) (sDrop m) :=
  ps_imp (ps_expr he hs) fun E σ H ⟨A, ρ, K, env, ex, h, en⟩ => ⟨A, ρ, _, _, env, ex, h, fun v H1 d g1 r1 h1 => en.nx A σ H1 ρ (.ext (Y.G.ext g1)) (env.step g1) h1⟩
theorem psd_doc {z : Str} {j : Nat} {pos' : Pos} : PSd X Y (.Expr (.Constant (.str z) j pos) pos') sNext :=
  ps_imp ps_doc fun E σ H ⟨A, ρ, K, env, ex, h, en⟩ => en.nx A σ H ρ .refl env h
theorem psd_pass : PSd X Y (.Pass pos) sNext := ps_imp ps_pass fun E σ H ⟨A, ρ, K, env, ex, h, en⟩ => en.nx A σ H ρ .refl env h
theorem psd_break : PSd X Y (.Break pos) sBreak := ps_imp ps_break fun E σ H ⟨A, ρ, K, env, ex, h, en⟩ => en.bk A σ H ρ .refl env h
theorem psd_cont : PSd X Y (.Continue pos) sCont := ps_imp ps_continue fun E σ H ⟨A, ρ, K, env, ex, h, en⟩ => en.ct A σ H ρ .refl env h
/-- the place where a name is stored: plain, or a cell -/
theorem psd_set {pos' : Pos} (he : PD X Y e m) (hN : X.N.Nodup) (hi : X.N[i]? = some x := by rfl) (hx : Loc X.env.scope x := by first | exact Or.inl rfl | exact Or.inr rfl) (hs : swapsWith e (some (.Name x pos')) pos.line X.env = pure false := by rfl)
    (hf : X.fn x = true ∨ X.env.scope.names.lookup x = some .local := by first | exact .inl rfl | exact .inr rfl) : PSd X Y (.Assign [.Name x pos'] e pos) (sSet m i) :=
  ps_imp (ps_set hN hi hx he hs hf) fun E σ H ⟨A, ρ, K, env, ex, h, en⟩ => ⟨A, ρ, _, _, env, ex, h, fun v H1 d g1 r1 h1 => en.nx A _ H1 _ (.ext (Y.G.ext g1)) ((env.step g1).setDat r1) h1⟩
theorem psd_own {pos' : Pos} (he : PF X Y e ms) (hN : X.N.Nodup) (hi : X.N[i]? = some x := by rfl) (hx : Loc X.env.scope x := by first | exact Or.inl rfl | exact Or.inr rfl) (hs : swapsWith e (some (.Name x pos')) pos.line X.env = pure false := by rfl)
    (hf : X.fn x = true ∨ X.env.scope.names.lookup x = some .local := by first | exact .inl rfl | exact .inr rfl) : PSd X Y (.Assign [.Name x pos'] e pos) (sOwn ms i) :=
  ps_imp (ps_set hN hi hx he hs hf) fun E σ H ⟨A, ρ, K, env, ex, h, en⟩ => ⟨A, ρ, _, _, env, ex, h, fun v H1 d g1 ⟨p, xs, e1, n, hl, r⟩ h1 => by
    subst e1
    exact en.nx (Ap A p) _ H1 _ ⟨.ext (Y.G.ext g1), fun a z => z.elim .inl fun z => .inr (z ▸ n)⟩ (env.setOwn g1 n hl r) h1⟩
theorem psd_app {apos p1 : Pos} (he : PD X Y e m) (hN : X.N[i]? = some x := by rfl) (hv : Vis X.env.scope x := by first | exact Or.inl rfl | exact Or.inr (Or.inl rfl) | exact Or.inr (Or.inr rfl)) (hd : (x == ("__debug__" : Str)) = false := by decide)
    (hcd : (x == ("__classdict__" : Str)) = false := by decide) (hst : starEach [e] X.env = (false, eval e X.env) :: starEach [] X.env := by rfl) (hline : (apos.endLine == p1.line) = true := by rfl)
    (hb : attributeBase (.Name x pos) "append" X.env (eval (.Name x pos) X.env) = eval (.Name x pos) X.env := by rfl)
    (hfew : ((backTo p1 (starEach [e] X.env)).all (fun x => !x.1) && (backToKw p1 (keywordEach [] X.env)).all (fun x => x.1.isSome) && decide ([e].length + ([] : List Keyword).length + (if ([] : List Keyword).isEmpty then 0 else 1) < 30)) = true := by rfl)
    (hsw : ∀ l, swapsWith (.Call (.Attribute (.Name x pos) "append" apos) [e] [] p1) none l X.env = pure false := by intro _; rfl) {p2 : Pos} : PSd X Y (.Expr (.Call (.Attribute (.Name x pos) "append" apos) [e] [] p1) p2) (sApp i m) := by
  refine ps_imp (ps_expr (pe_bm PySem.F.plainAttrs_list PySem.F.slot_list_append PySem.F.type_list_append mt_append (pe_var hN hv hd hcd) (pa_cons he pa_nil hst) hb hfew hline hst) (hsw _)) fun E σ H ⟨A, ρ, K, env, ex, h, en⟩ => ?_
  unfold sApp at h
  split at h
  · rename_i ds hl
    obtain ⟨p, xs, h1, h2, ap, np, r⟩ := env.sl i _ hl
    refine ⟨_, h1, .inl ⟨rfl, xs, SqL.of h2⟩, A, ρ, _, _, env, ex, h, fun v H1 d g1 r1 hq => ?_⟩
    have e1 := env.step g1
    obtain ⟨p', xs', h1', h2', ap', np', r'⟩ := e1.sl i _ hl
    rw [h1] at h1'
    cases h1'
    have l1 := r'.length
    refine ⟨p, xs', v, rfl, rfl, h2', ?_, en.nx A _ _ _ ?_ (e1.updOwn hl h1 h2' ap' np' (r'.append (.cons r1 .nil))) hq.2⟩
    · rw [l1]; exact Nat.lt_of_le_of_lt hq.1 (by decide)
    · exact Stp.trans (.ext (Y.G.ext g1)) ⟨keeps_upd ap', .refl⟩
  · exact h.elim
theorem psd_sto {ix : Expr} {p1 p2 : Pos} (he : PD X Y e m) (hx : PD X Y ix mi) (hN : X.N[i]? = some x := by rfl) (hv : Vis X.env.scope x := by first | exact Or.inl rfl | exact Or.inr (Or.inl rfl) | exact Or.inr (Or.inr rfl)) (hd : (x == ("__debug__" : Str)) = false := by decide)
    (hcd : (x == ("__classdict__" : Str)) = false := by decide)
    (ha : ∀ v, assign (.Subscript (.Name x p1) ix p2) X.env v = (do
      let ov ← holding [v] (eval (.Name x p1) X.env)
      let iv ← holding [v, ov] (eval ix X.env)
      standAt p2
      holding [v, ov, iv] (setItem ov iv v)
      release [v, ov, iv] []) := by intro _; rfl)
    (hs : swapsWithSole [.Subscript (.Name x p1) ix p2] e pos.line X.env = pure false := by rfl) (hw : swappedStores [.Subscript (.Name x p1) ix p2] e X.env = pure none := by rfl)
    (h1 : (assignEach [.Subscript (.Name x p1) ix p2] X.env).map (·.2) = [assign (.Subscript (.Name x p1) ix p2) X.env] := by rfl) : PSd X Y (.Assign [.Subscript (.Name x p1) ix p2] e pos) (sSto i mi m) := by
  refine ps_imp (ps_asg he (pg_sub (pe_var hN hv hd hcd) hx set_list ha) hs hw h1) fun E σ H ⟨A, ρ, K, env, ex, h, en⟩ => ?_
  unfold sSto at h
  split at h
  · rename_i ds hl
    refine ⟨A, ρ, _, _, env, ex, h, fun v H1 d g1 r1 hq => ?_⟩
    have e1 := env.step g1
    obtain ⟨p, xs, h1, h2, ap, np, r⟩ := e1.sl i _ hl
    refine ⟨_, h1, A, ρ, _, _, e1, ex, hq, fun w H2 d2 g2 r2 hq2 => ?_⟩
    have e2 := e1.step g2
    obtain ⟨p', xs', h1', h2', ap', np', r'⟩ := e2.sl i _ hl
    rw [h1] at h1'
    cases h1'
    cases r2 with
    | int k =>
      simp only at hq2
      cases w : ixN ds.length k with
      | none => rw [w] at hq2; exact hq2.elim
      | some j =>
        rw [w] at hq2
        refine ⟨p, xs', k, j, rfl, rfl, h2', by rw [r'.length]; exact w, en.nx A _ _ _ ?_ (e2.updOwn hl h1 h2' ap' np' (r'.set (r1.ext e1.aok (Y.G.ext g2)) j)) hq2⟩
        exact Stp.trans (.ext (Y.G.ext g1)) (Stp.trans (.ext (Y.G.ext g2)) ⟨keeps_upd ap', .refl⟩)
    | _ => exact hq2.elim
  · exact h.elim
/-- owned, then plain -/
theorem EnvOk.freeze {K : PySem.W.Frag} {A : Addr → Prop} {H : Hp} {σ : St} {ρ : DEnv} {ds : List D} (e : EnvOk K Y A H σ ρ) (hl : look ρ i = some (.own ds)) : ∃ A', (∀ a, A' a → A a) ∧ EnvOk K Y A' H σ (put ρ i (some (.dat (.lst ds)))) := by
  obtain ⟨p, xs, h1, h2, ap, np, r⟩ := e.sl i _ hl
  have na0 : ¬ Y.A0 p := fun z => (e.a0 p z).2 np
  have w : ∀ a, (A a ∧ a ≠ p) → A a := fun a z => z.1
  refine ⟨fun a => A a ∧ a ≠ p, w, e.go, fun a z => ⟨⟨(e.a0 a z).1, fun w => na0 (w ▸ z)⟩, (e.a0 a z).2⟩, fun a z => e.fr a z.1, fun a z => e.aok a z.1, by rw [put_length]; exact e.len, fun j s h => ?_, fun j k q s t h1 h2 i1 i2 e1 e2 => ?_⟩
  · by_cases hj : j = i
    · subst hj
      obtain ⟨q1, q2⟩ := look_put_eq h
      cases q1
      exact ⟨.ref p, h1, .lst h2 (fun z => z.2 rfl) (r.move e.aok .refl fun a z => .inl z.1)⟩
    · rw [look_put_ne _ _ _ _ hj] at h
      have q := e.sl j s h
      cases s with
      | dat d =>
        obtain ⟨v, a, b⟩ := q
        exact ⟨v, a, b.move e.aok .refl fun a z => .inl z.1⟩
      | own es =>
        obtain ⟨q1, ys, a, b, c, d, r'⟩ := q
        have ne : q1 ≠ p := fun z => hj (e.dist j i p _ _ h hl rfl rfl (z ▸ a) h1)
        exact ⟨q1, ys, a, b, ⟨c, ne⟩, d, r'.move e.aok .refl fun a z => .inl z.1⟩
      | obj C ks es =>
        obtain ⟨q1, dx, ys, a, b, l, c, d, r'⟩ := q
        have ne : q1 ≠ p := fun z => hj (e.dist j i p _ _ h hl rfl rfl (z ▸ a) h1)
        exact ⟨q1, dx, ys, a, b, l, ⟨c, ne⟩, d, r'.move e.aok .refl fun a z => .inl z.1⟩
  · have f : ∀ j s, look (put ρ i (some (.dat (.lst ds)))) j = some s → isDat s = false → look ρ j = some s := fun j s h hd => by
      by_cases hj : j = i
      · subst hj
        obtain ⟨q1, q2⟩ := look_put_eq h
        cases q1; cases hd
      · rw [look_put_ne _ _ _ _ hj] at h; exact h
    exact e.dist j k q s t (f j s h1 i1) (f k t h2 i2) i1 i2 e1 e2
theorem psd_frz (h : PSd X Y st t) (i : Nat) : PSd X Y st (sSeq (sFrz i) t) :=
  ps_imp h fun E σ H ⟨A, ρ, K, env, ex, h, en⟩ => by
    unfold sSeq sFrz at h
    simp only at h
    split at h
    · rename_i ds hl
      obtain ⟨A', w, env'⟩ := env.freeze hl
      exact ⟨A', _, K, env', ex, h, en.step ⟨.refl, fun a z => .inl (w a z)⟩⟩
    · exact h.elim
end
end WL
namespace WL
open L2 PySem PySem.Spec
open LamX (ExtN)

/-! ### targets -/
inductive Tg where
  | nm (i : Nat) | tp (ts : List Tg)
mutual
@[simp] def bindT : Tg → D → DEnv → (DEnv → Prop) → Prop
  | .nm i, d, ρ, Q => Q (put ρ i (some (.dat d)))
  | .tp ts, .tup ds, ρ, Q => ts.length = ds.length ∧ bindTs ts ds ρ Q
  | .tp _, _, _, _ => False
@[simp] def bindTs : List Tg → List D → DEnv → (DEnv → Prop) → Prop
  | [], [], ρ, Q => Q ρ
  | t :: ts, d :: ds, ρ, Q => bindT t d ρ fun ρ' => bindTs ts ds ρ' Q
  | _, _, _, _ => False
end
mutual
def tgv : Tg → List Nat
  | .nm i => [i]
  | .tp ts => tgvs ts
def tgvs : List Tg → List Nat
  | [] => []
  | t :: ts => tgv t ++ tgvs ts
end
theorem wipe_set {σ : St} {i : Nat} {x : Option V} : ∀ {vs : List Nat}, i ∈ vs → wipe (σ.set i x) vs = wipe σ vs
  | v :: vs, h => by
    show (wipe (σ.set i x) vs).set v none = (wipe σ vs).set v none
    by_cases e : i ∈ vs
    · rw [wipe_set e]
    · have e2 : i = v := by
        rcases List.mem_cons.mp h with h | h
        · exact h
        · exact absurd h e
      subst e2
      have : ∀ vs : List Nat, i ∉ vs → wipe (σ.set i x) vs = (wipe σ vs).set i x := fun vs => by
        induction vs with
        | nil => intro _; rfl
        | cons w ws ih =>
          intro h
          show (wipe (σ.set i x) ws).set w none = ((wipe σ ws).set w none).set i x
          rw [ih fun z => h (List.mem_cons_of_mem _ z), List.set_comm]
          exact fun z => h (z ▸ List.mem_cons_self ..)
      rw [this vs e, List.set_set]
def liftT (X : Cx) (Y : Yx) (tg : Tg) : TG := fun v σ H Q => ∃ (A : Addr → Prop) (ρ : DEnv) (d : D) (Qd : DEnv → Prop), EnvOk X.K Y A H σ ρ ∧ Rp X.K A H v d ∧ bindT tg d ρ Qd ∧
  ∀ σ' ρ', EnvOk X.K Y A H σ' ρ' → (∀ vs, (∀ i ∈ tgv tg, i ∈ vs) → wipe σ' vs = wipe σ vs) → Qd ρ' → Q σ' H
def liftTs (X : Cx) (Y : Yx) (ts : List Tg) : TGs := fun vs σ H Q => ∃ (A : Addr → Prop) (ρ : DEnv) (ds : List D) (Qd : DEnv → Prop), EnvOk X.K Y A H σ ρ ∧ RpAll X.K A H vs ds ∧ ts.length = ds.length ∧ bindTs ts ds ρ Qd ∧
  ∀ σ' ρ', EnvOk X.K Y A H σ' ρ' → (∀ vs, (∀ i ∈ tgvs ts, i ∈ vs) → wipe σ' vs = wipe σ vs) → Qd ρ' → Q σ' H
def PGd (X : Cx) (Y : Yx) (e : Expr) (tg : Tg) : Prop := PG X e (liftT X Y tg)
def PGsd (X : Cx) (Y : Yx) (es : List Expr) (ts : List Tg) : Prop := PGs X es (liftTs X Y ts)
theorem pg_imp {X : Cx} {e : Expr} {t t' : TG} (h : PG X e t) (k : ∀ v σ H Q, t' v σ H Q → t v σ H Q) : PG X e t' := ⟨fun pins s σ H v u Q I r q => h.run pins s σ H v u Q I r (k _ _ _ _ q)⟩
theorem pgs_imp {X : Cx} {e : List Expr} {t t' : TGs} (h : PGs X e t) (k : ∀ v σ H Q, t' v σ H Q → t v σ H Q) : PGs X e t' := ⟨fun pins s σ H v u Q I r q => h.run pins s σ H v u Q I r (k _ _ _ _ q)⟩
section
variable {X : Cx} {Y : Yx} {e : Expr} {es : List Expr} {tg : Tg} {ts : List Tg} {i k : Nat} {x : Str} {pos : Pos}
theorem pgd_name (hN : X.N.Nodup) (hi : X.N[i]? = some x := by rfl) (hx : Loc X.env.scope x := by first | exact Or.inl rfl | exact Or.inr rfl) (hf : X.fn x = true ∨ X.env.scope.names.lookup x = some .local := by first | exact .inl rfl | exact .inr rfl) : PGd X Y (.Name x pos) (.nm i) :=
  pg_imp (pg_name hN hi hx hf) fun v σ H Q ⟨A, ρ, d, Qd, env, r, b, k⟩ => k _ _ (env.setDat r) (fun vs h => wipe_set (h i (List.mem_singleton.mpr rfl))) b
theorem pgsd_nil : PGsd X Y [] [] := pgs_imp pgs_nil fun v σ H Q ⟨A, ρ, ds, Qd, env, r, l, b, k⟩ => by
  cases r with
  | nil => exact ⟨rfl, k _ _ env (fun _ _ => rfl) b⟩
  | cons _ _ => cases l
theorem pgsd_cons (h1 : PGd X Y e tg) (h2 : PGsd X Y es ts) (hs : (assignEach (e :: es) X.env).map (·.2) = assign e X.env :: (assignEach es X.env).map (·.2) := by rfl) : PGsd X Y (e :: es) (tg :: ts) :=
  pgs_imp (pgs_cons h1 h2 hs) fun v σ H Q ⟨A, ρ, ds, Qd, env, r, l, b, k⟩ => by
    cases r with
    | nil => cases l
    | @cons v vs d ds r r2 =>
      refine ⟨v, vs, rfl, A, ρ, d, _, env, r, b, fun σ' ρ' env' w b' => ⟨A, ρ', ds, Qd, env', r2, Nat.succ.inj l, b', fun σ2 ρ2 env2 w2 b2 => k σ2 ρ2 env2 (fun vs h => ?_) b2⟩⟩
      rw [w2 vs fun i hi => h i (List.mem_append_right _ hi), w vs fun i hi => h i (List.mem_append_left _ hi)]
theorem pgd_tup (hc : X.calm = true) (h : PGsd X Y es ts) (hn : (assignEach es X.env).length = ts.length := by rfl) (hst : (assignEach es X.env).findIdx? (·.1) = none := by rfl) : PGd X Y (.Tuple es k pos) (.tp ts) :=
  pg_imp (pg_tup hc h hn hst) fun v σ H Q ⟨A, ρ, d, Qd, env, r, b, k⟩ => by
    cases r with
    | @tup a xs ds h r => exact ⟨a, xs, rfl, h, by rw [r.length]; exact b.1.symm, A, ρ, ds, Qd, env, r, b.1, b.2, k⟩
    | _ => exact b.elim
end
@[simp ↓] def sAsgT (m : EM) (tg : Tg) (ρ : DEnv) (K : Kt) : Prop := m ρ (fun d => bindT tg d ρ K.nx) K.ex
section
variable {X : Cx} {Y : Yx} {e tgt : Expr} {m : EM} {tg : Tg} {pos : Pos}
theorem psd_asgT (he : PD X Y e m) (hg : PGd X Y tgt tg) (hs : swapsWithSole [tgt] e pos.line X.env = pure false := by rfl) (hw : swappedStores [tgt] e X.env = pure none := by rfl) (h1 : (assignEach [tgt] X.env).map (·.2) = [assign tgt X.env] := by rfl) : PSd X Y (.Assign [tgt] e pos) (sAsgT m tg) :=
  ps_imp (ps_asg he hg hs hw h1) fun E σ H ⟨A, ρ, K, env, ex, h, en⟩ => ⟨A, ρ, _, _, env, ex, h, fun v H1 d g1 r1 h1 => ⟨A, ρ, d, _, env.step g1, r1, h1, fun σ' ρ' env' _ q => en.nx A σ' H1 ρ' (.ext (Y.G.ext g1)) env' q⟩⟩
end

/-! ### several at once -/
inductive RsAll (K : PySem.W.Frag) (A : Addr → Prop) (H : Hp) : List V → List Sl → List Addr → Prop
  | nil : RsAll K A H [] [] []
  | dat {v : V} {d : D} {vs : List V} {ss : List Sl} {ps : List Addr} : Rp K A H v d → RsAll K A H vs ss ps → RsAll K A H (v :: vs) (.dat d :: ss) ps
  | own {p : Addr} {xs : List V} {ds : List D} {vs : List V} {ss : List Sl} {ps : List Addr} : H p = some (.lst xs) → RpAll K A H xs ds → p ∉ ps → RsAll K A H vs ss ps → RsAll K A H (.ref p :: vs) (.own ds :: ss) (p :: ps)
abbrev Aps (A : Addr → Prop) (ps : List Addr) : Addr → Prop := fun a => A a ∨ a ∈ ps
def rS (K : PySem.W.Frag) (A : Addr → Prop) (H H' : Hp) (vs : List V) (ss : List Sl) : Prop := ∃ ps, (∀ p ∈ ps, Nt H p) ∧ RsAll K (Aps A ps) H' vs ss ps
abbrev EMl := DEnv → (List Sl → Prop) → (Xn → Prop) → Prop
def PSl (X : Cx) (Y : Yx) (es : List Expr) (m : EMl) : Prop := PA X es (liftG X Y (rS X.K) m)
@[simp ↓] def mlN (_ : DEnv) (Q : List Sl → Prop) (_ : Xn → Prop) : Prop := Q []
@[simp ↓] def mlD (m : EM) (r : EMl) (ρ : DEnv) (Q : List Sl → Prop) (E : Xn → Prop) : Prop := m ρ (fun d => r ρ (fun ss => Q (.dat d :: ss)) E) E
@[simp ↓] def mlO (m : EMs) (r : EMl) (ρ : DEnv) (Q : List Sl → Prop) (E : Xn → Prop) : Prop := m ρ (fun ds => r ρ (fun ss => Q (.own ds :: ss)) E) E
def setAll : St → List Nat → List V → St
  | σ, i :: is, v :: vs => setAll (σ.set i (some v)) is vs
  | σ, _, _ => σ
@[simp] def putAll : DEnv → List Nat → List Sl → DEnv
  | ρ, i :: is, s :: ss => putAll (put ρ i (some s)) is ss
  | ρ, _, _ => ρ
section
variable {K : PySem.W.Frag} {Y : Yx} {A A' : Addr → Prop} {H H' : Hp} {σ : St} {ρ : DEnv} {i : Nat} {p : Addr} {xs : List V} {ds : List D} {vs : List V} {ss : List Sl} {ps : List Addr}
theorem RsAll.move (ok : AOk A H) (k : Keeps A H H') (f : Fresh A A' H) (ke : ∀ b xs, H b = some (.lst xs) → b ∈ ps → H' b = some (.lst xs)) (r : RsAll K A H vs ss ps) : RsAll K A' H' vs ss ps := by
  induction r with
  | nil => exact .nil
  | dat a _ ih => exact .dat (a.move ok k f) (ih ke)
  | own a b c _ ih => exact .own (ke _ _ a (List.mem_cons_self ..)) (b.move ok k f) c (ih fun b xs h1 h2 => ke b xs h1 (List.mem_cons_of_mem _ h2))
theorem EnvOk.grow (e : EnvOk K Y A H σ ρ) (g : Y.G.r H H') (hn : ∀ p ∈ ps, Nt H p) (hl : ∀ p ∈ ps, ∃ xs, H' p = some (.lst xs)) : EnvOk K Y (Aps A ps) H' σ ρ := by
  have x := Y.G.ext g
  have fr : Fresh A (Aps A ps) H := fun a z => z.elim .inl fun z => .inr (hn a z)
  refine e.move (e.step g).go (fun a z => .inl (e.a0 a z).1) (fun a z => ?_) (.ext x) fr fun i s h d => ?_
  · rcases z with z | z
    · exact e.aok.ext x a z
    · exact .inl (hl a z)
  · have q := e.sl i s h
    cases s with
    | dat d' => cases d
    | own ds => obtain ⟨p, xs, a, b, c, d, r⟩ := q; exact ⟨p, xs, a, x _ _ b (fun _ z => nomatch z), .inl c, d, r.move e.aok (.ext x) fr⟩
    | obj C ks ds => obtain ⟨p, dx, vs, a, b, l, c, d, r⟩ := q; exact ⟨p, dx, vs, a, x _ _ b (fun _ z => nomatch z), l, .inl c, d, r.move e.aok (.ext x) fr⟩
/-- no slot owns p -/
def NoOwn (σ : St) (ρ : DEnv) (p : Addr) : Prop := ∀ i s, look ρ i = some s → isDat s = false → σ[i]? ≠ some (some (.ref p))
theorem EnvOk.noOwn (e : EnvOk K Y A H σ ρ) (n : Nt H p) : NoOwn σ ρ p := fun j s hs hd z => by
  have q := e.sl j s hs
  cases s with
  | dat d => cases hd
  | own ds =>
    obtain ⟨q1, ys, w1, w2, _⟩ := q
    rw [w1] at z
    cases z
    obtain ⟨_, w⟩ := n _ w2
    cases w
  | obj C ks ds =>
    obtain ⟨q1, dx, ys, w1, w2, _⟩ := q
    rw [w1] at z
    cases z
    obtain ⟨_, w⟩ := n _ w2
    cases w
theorem NoOwn.putDat {v : V} {d : D} (n : NoOwn σ ρ p) : NoOwn (σ.set i (some v)) (put ρ i (some (.dat d))) p := fun j s hs hd z => by
  by_cases hj : j = i
  · subst hj
    obtain ⟨q1, _⟩ := look_put_eq hs
    cases q1; cases hd
  · rw [look_put_ne _ _ _ _ hj] at hs
    rw [List.getElem?_set_ne (Ne.symm hj)] at z
    exact n j s hs hd z
theorem NoOwn.putOwn {p' : Addr} (n : NoOwn σ ρ p) (l : σ.length = ρ.length) (h : p ≠ p') : NoOwn (σ.set i (some (.ref p'))) (put ρ i (some (.own ds))) p := fun j s hs hd z => by
  by_cases hj : j = i
  · subst hj
    obtain ⟨q1, q2⟩ := look_put_eq hs
    rw [List.getElem?_set_self (by rw [l]; exact q2)] at z
    cases z
    exact h rfl
  · rw [look_put_ne _ _ _ _ hj] at hs
    rw [List.getElem?_set_ne (Ne.symm hj)] at z
    exact n j s hs hd z
theorem EnvOk.putOwn (e : EnvOk K Y A H σ ρ) (ap : A p) (np : Nt Y.H0 p) (h : H p = some (.lst xs)) (r : RpAll K A H xs ds) (nsl : NoOwn σ ρ p) : EnvOk K Y A H (σ.set i (some (.ref p))) (put ρ i (some (.own ds))) := by
  refine ⟨e.go, e.a0, e.fr, e.aok, by rw [List.length_set, put_length]; exact e.len, fun j s hs => ?_, fun j k q s t h1 h2 i1 i2 e1' e2' => ?_⟩
  · by_cases hj : j = i
    · subst hj
      obtain ⟨q1, q2⟩ := look_put_eq hs
      cases q1
      exact ⟨p, xs, List.getElem?_set_self (by rw [e.len]; exact q2), h, ap, np, r⟩
    · rw [look_put_ne _ _ _ _ hj] at hs
      have q := e.sl j s hs
      cases s <;> (rw [SlOk, List.getElem?_set_ne (Ne.symm hj)]; exact q)
  · by_cases hj : j = i
    · by_cases hk : k = i
      · rw [hj, hk]
      · subst hj
        rw [look_put_ne _ _ _ _ hk] at h2
        rw [List.getElem?_set_ne (Ne.symm hk)] at e2'
        rw [List.getElem?_set_self (by rw [e.len]; exact (look_put_eq h1).2)] at e1'
        cases e1'
        exact absurd e2' (nsl k t h2 i2)
    · rw [look_put_ne _ _ _ _ hj] at h1
      rw [List.getElem?_set_ne (Ne.symm hj)] at e1'
      by_cases hk : k = i
      · subst hk
        rw [List.getElem?_set_self (by rw [e.len]; exact (look_put_eq h2).2)] at e2'
        cases e2'
        exact absurd e1' (nsl j s h1 i1)
      · rw [look_put_ne _ _ _ _ hk] at h2
        rw [List.getElem?_set_ne (Ne.symm hk)] at e2'
        exact e.dist j k q s t h1 h2 i1 i2 e1' e2'
theorem EnvOk.putAll (r : RsAll K A H vs ss ps) : ∀ {σ : St} {ρ : DEnv} {is : List Nat}, EnvOk K Y A H σ ρ → (∀ p ∈ ps, A p ∧ Nt Y.H0 p ∧ NoOwn σ ρ p) → EnvOk K Y A H (setAll σ is vs) (putAll ρ is ss) := by
  induction r with
  | nil =>
    intro σ ρ is e _
    cases is <;> exact e
  | dat a _ ih =>
    intro σ ρ is e h
    cases is with
    | nil => exact e
    | cons i is => exact ih (e.setDat a) fun p hp => ⟨(h p hp).1, (h p hp).2.1, (h p hp).2.2.putDat⟩
  | own a b c _ ih =>
    intro σ ρ is e h
    cases is with
    | nil => exact e
    | cons i is =>
      obtain ⟨h1, h2, h3⟩ := h _ (List.mem_cons_self ..)
      exact ih (e.putOwn h1 h2 a b h3) fun p hp => ⟨(h p (List.mem_cons_of_mem _ hp)).1, (h p (List.mem_cons_of_mem _ hp)).2.1, (h p (List.mem_cons_of_mem _ hp)).2.2.putOwn e.len fun z => c (z ▸ hp)⟩
theorem RsAll.lst (r : RsAll K A H vs ss ps) : ∀ p ∈ ps, ∃ xs, H p = some (.lst xs) := by
  induction r with
  | nil => intro _ h; cases h
  | dat _ _ ih => exact ih
  | own a _ _ _ ih =>
    intro p h
    rcases List.mem_cons.mp h with h | h
    · exact ⟨_, h ▸ a⟩
    · exact ih p h
theorem RsAll.length (r : RsAll K A H vs ss ps) : vs.length = ss.length := by
  induction r with
  | nil => rfl
  | dat _ _ ih => exact congrArg (· + 1) ih
  | own _ _ _ _ ih => exact congrArg (· + 1) ih
/-- all at once -/
theorem EnvOk.all {is : List Nat} (e : EnvOk K Y A H σ ρ) (g : Y.G.r H H') (r : rS K A H H' vs ss) : ∃ ps, (∀ p ∈ ps, Nt H p) ∧ EnvOk K Y (Aps A ps) H' (setAll σ is vs) (WL.putAll ρ is ss) := by
  obtain ⟨ps, hn, r⟩ := r
  exact ⟨ps, hn, EnvOk.putAll r (e.grow g hn r.lst) fun p hp => ⟨.inr hp, (hn p hp).back (Y.G.ext e.go), e.noOwn (hn p hp)⟩⟩
end
section
variable {X : Cx} {Y : Yx} {e : Expr} {es : List Expr} {m : EM} {ms : EMs} {ml : EMl} {pos : Pos}
theorem psl_nil : PSl X Y [] mlN := pa_imp pa_nil fun σ H Q ⟨A, ρ, Qd, E, env, ex, hm, k⟩ => k [] H [] (Y.G.refl H) ⟨[], (fun _ h => (nomatch h : False).elim), .nil⟩ hm
theorem psl_dat (ha : PD X Y e m) (hr : PSl X Y es ml) (hs : starEach (e :: es) X.env = (false, eval e X.env) :: starEach es X.env := by rfl) : PSl X Y (e :: es) (mlD m ml) :=
  pa_imp (pa_cons ha hr hs) fun σ H Q ⟨A, ρ, Qd, E, env, ex, hm, k⟩ => ⟨A, ρ, _, E, env, ex, hm, fun v H1 d g1 r1 h1 =>
    ⟨A, ρ, _, E, env.step g1, ex, h1, fun vs H2 ds g2 ⟨ps, hn, r2⟩ h2 => k (v :: vs) H2 _ (Y.G.trans g1 g2) ⟨ps, fun p hp => (hn p hp).back (Y.G.ext g1), .dat (r1.move (env.step g1).aok (.ext (Y.G.ext g2)) fun a z => z.elim .inl fun z => .inr (hn a z)) r2⟩ h2⟩⟩
theorem psl_own (ha : PF X Y e ms) (hr : PSl X Y es ml) (hs : starEach (e :: es) X.env = (false, eval e X.env) :: starEach es X.env := by rfl) : PSl X Y (e :: es) (mlO ms ml) :=
  pa_imp (pa_cons ha hr hs) fun σ H Q ⟨A, ρ, Qd, E, env, ex, hm, k⟩ => ⟨A, ρ, _, E, env, ex, hm, fun v H1 d g1 ⟨p, xs, e1, n, hl, r1⟩ h1 => by
    subst e1
    have env1 : EnvOk X.K Y (Ap A p) H1 σ ρ := by
      have q := env.grow (ps := [p]) g1 (fun q hq => by rw [List.mem_singleton.mp hq]; exact n) (fun q hq => ⟨xs, by rw [List.mem_singleton.mp hq]; exact hl⟩)
      have e : Aps A [p] = Ap A p := funext fun a => propext (by simp [Aps, Ap])
      rwa [e] at q
    refine ⟨Ap A p, ρ, _, E, env1, ex, h1, fun vs H2 ds g2 ⟨ps, hn, r2⟩ h2 => k _ H2 _ (Y.G.trans g1 g2) ⟨p :: ps, fun q hq => ?_, ?_⟩ h2⟩
    · rcases List.mem_cons.mp hq with h | h
      · exact h ▸ n
      · exact (hn q h).back (Y.G.ext g1)
    · have pn : p ∉ ps := fun z => by
        obtain ⟨_, w⟩ := hn p z _ hl
        cases w
      have ea : Aps A (p :: ps) = Aps (Ap A p) ps := funext fun a => propext (by simp [Aps, Ap, or_assoc])
      rw [ea]
      exact .own (Y.G.ext g2 _ _ hl fun _ z => nomatch z) (r1.move env1.aok (.ext (Y.G.ext g2)) fun a z => z.elim .inl fun z => .inr (hn a z)) pn r2⟩
end
@[simp ↓] def sPar (is : List Nat) (ml : EMl) (ρ : DEnv) (K : Kt) : Prop := ml ρ (fun ss => ss.length = is.length ∧ K.nx (putAll ρ is ss)) K.ex
/-- several names' stores -/
def gNames (is : List Nat) : TGs := fun vs σ H Q => vs.length = is.length ∧ Q (setAll σ is vs) H
def PGn (X : Cx) (es : List Expr) (is : List Nat) : Prop := PGs X es (gNames is)
theorem Stp.aps {A : Addr → Prop} {H H' : Hp} {ps : List Addr} (e : ExtN H H') (hn : ∀ p ∈ ps, Nt H p) : Stp A H (Aps A ps) H' := ⟨.ext e, fun a z => z.elim .inl fun z => .inr (hn a z)⟩
section
variable {X : Cx} {Y : Yx} {a b c : Expr} {es ts : List Expr} {ml : EMl} {is : List Nat} {i j l : Nat} {x y z : Str} {pos px py pz pt : Pos} {kt k2 : Nat} {pt2 : Pos}
theorem pgn_nil : PGn X [] [] := pgs_imp pgs_nil fun v σ H Q ⟨l, q⟩ => by
  cases v with
  | nil => exact ⟨rfl, q⟩
  | cons _ _ => cases l
theorem pgn_cons (hN : X.N.Nodup) (h : PGn X ts is) (hi : X.N[i]? = some x := by rfl) (hx : Loc X.env.scope x := by first | exact Or.inl rfl | exact Or.inr rfl) (hf : X.fn x = true ∨ X.env.scope.names.lookup x = some .local := by first | exact .inl rfl | exact .inr rfl)
    (hs : (assignEach (.Name x pos :: ts) X.env).map (·.2) = assign (.Name x pos) X.env :: (assignEach ts X.env).map (·.2) := by rfl) : PGn X (.Name x pos :: ts) (i :: is) :=
  pgs_imp (pgs_cons (pg_name hN hi hx hf) h hs) fun v σ H Q ⟨l, q⟩ => by
    cases v with
    | nil => cases l
    | cons v vs => exact ⟨v, vs, rfl, Nat.succ.inj l, q⟩
/-- the names stored from a tuple that is made -/
theorem psd_parT (hc : X.calm = true) (he : PSl X Y es ml) (hg : PGn X ts is) (hn : (assignEach ts X.env).length = is.length := by rfl) (hst : (assignEach ts X.env).findIdx? (·.1) = none := by rfl) (hs : swapsWithSole [.Tuple ts kt pt] (.Tuple es k2 pt2) pos.line X.env = pure false := by rfl)
    (hw : swappedStores [.Tuple ts kt pt] (.Tuple es k2 pt2) X.env = pure none := by rfl) (h1 : (assignEach [.Tuple ts kt pt] X.env).map (·.2) = [assign (.Tuple ts kt pt) X.env] := by rfl) (sm : is.length ≤ 1000 := by decide) : PSd X Y (.Assign [.Tuple ts kt pt] (.Tuple es k2 pt2) pos) (sPar is ml) :=
  ps_imp (ps_asg (pe_tup he) (pg_tup hc hg hn hst) hs hw h1) fun E σ H ⟨A, ρ, K, env, ex, h, en⟩ => ⟨A, ρ, _, _, env, ex, h, fun vs H1 ss g1 r1 h1 => by
    obtain ⟨ps, hn, r⟩ := r1
    have lv : vs.length = is.length := r.length.trans h1.1
    refine ⟨by rw [lv]; exact small sm, fun p hp => ⟨p, vs, rfl, SqT.of upd_same, lv, lv, ?_⟩⟩
    have g2 := Y.G.same (upd_fresh_same (o := .tup vs) hp)
    have r2 : rS X.K A H (upd H1 p (.tup vs)) vs ss := ⟨ps, hn, r.move ((env.grow g1 hn r.lst).aok) (.ext (Y.G.ext g2)) .refl fun b xs e _ => Y.G.ext g2 _ _ e fun _ z => nomatch z⟩
    obtain ⟨ps, hn, env2⟩ := env.all (is := is) (Y.G.trans g1 g2) r2
    exact en.nx _ _ _ _ (Stp.aps (Y.G.ext (Y.G.trans g1 g2)) hn) env2 h1.2⟩
theorem psd_par (hc : X.calm = true) (hN : X.N.Nodup) (he : PSl X Y [a, b] ml) (hi : X.N[i]? = some x := by rfl) (hj : X.N[j]? = some y := by rfl) (hij : i ≠ j := by decide) (hx : X.env.scope.names.lookup x = some .local := by rfl) (hy : X.env.scope.names.lookup y = some .local := by rfl)
    (hw : swappedStores [.Tuple [.Name x px, .Name y py] kt pt] (.Tuple [a, b] k2 pt2) X.env = pure (some [x, y]) := by rfl) (hs : swapsWithSole [.Tuple [.Name x px, .Name y py] kt pt] (.Tuple [a, b] k2 pt2) pos.line X.env = pure false := by rfl) :
    PSd X Y (.Assign [.Tuple [.Name x px, .Name y py] kt pt] (.Tuple [a, b] k2 pt2) pos) (sPar [i, j] ml) :=
  ps_imp (ps_par hc hN hi hj hij hx hy he hw hs) fun E σ H ⟨A, ρ, K, env, ex, h, en⟩ => ⟨A, ρ, _, _, env, ex, h, fun vs H1 ss g1 r1 h1 => by
    obtain ⟨ps, hn, env2⟩ := env.all (is := [i, j]) g1 r1
    obtain ⟨_, _, r⟩ := r1
    have lv := r.length.trans h1.1
    match vs, lv with
    | [v, w], _ => exact ⟨v, w, rfl, en.nx _ _ _ _ (Stp.aps (Y.G.ext g1) hn) env2 h1.2⟩⟩
theorem psd_par3 (hc : X.calm = true) (hN : X.N.Nodup) (he : PSl X Y [a, b, c] ml) (hi : X.N[i]? = some x := by rfl) (hj : X.N[j]? = some y := by rfl) (hl : X.N[l]? = some z := by rfl) (hij : i ≠ j := by decide) (hil : i ≠ l := by decide) (hjl : j ≠ l := by decide)
    (hx : X.env.scope.names.lookup x = some .local := by rfl) (hy : X.env.scope.names.lookup y = some .local := by rfl) (hz : X.env.scope.names.lookup z = some .local := by rfl)
    (hw : swappedStores [.Tuple [.Name x px, .Name y py, .Name z pz] kt pt] (.Tuple [a, b, c] k2 pt2) X.env = pure (some [x, y, z]) := by rfl) (hs : swapsWithSole [.Tuple [.Name x px, .Name y py, .Name z pz] kt pt] (.Tuple [a, b, c] k2 pt2) pos.line X.env = pure false := by rfl) :
    PSd X Y (.Assign [.Tuple [.Name x px, .Name y py, .Name z pz] kt pt] (.Tuple [a, b, c] k2 pt2) pos) (sPar [i, j, l] ml) :=
  ps_imp (ps_par3 hc hN hi hj hl hij hil hjl hx hy hz he hw hs) fun E σ H ⟨A, ρ, K, env, ex, h, en⟩ => ⟨A, ρ, _, _, env, ex, h, fun vs H1 ss g1 r1 h1 => by
    obtain ⟨ps, hn, env2⟩ := env.all (is := [i, j, l]) g1 r1
    obtain ⟨_, _, r⟩ := r1
    have lv := r.length.trans h1.1
    match vs, lv with
    | [v, w, u], _ => exact ⟨v, w, u, rfl, en.nx _ _ _ _ (Stp.aps (Y.G.ext g1) hn) env2 h1.2⟩⟩
end

/-! ### name op= e, name[i] op= e -/
@[simp ↓] def sAug (i : Nat) (m : EM) (F : F2) (ρ : DEnv) (K : Kt) : Prop := match look ρ i with
  | some (.dat x) => m ρ (fun y => F x y fun z => K.nx (put ρ i (some (.dat z)))) K.ex
  | _ => False
@[simp ↓] def sAugS (i : Nat) (mi me : EM) (F : F2) (ρ : DEnv) (K : Kt) : Prop := match look ρ i with
  | some (.own ds) => mi ρ (fun x => match x with
    | .int k => optQ (ixN ds.length k) fun j => optQ ds[j]? fun y => me ρ (fun z => F y z fun u => K.nx (put ρ i (some (.own (ds.set j u))))) K.ex
    | _ => False) K.ex
  | _ => False
def ipZ (X : Cx) (Y : Yx) (F : F2) : TIp := fun x y H Q => ∃ (A : Addr → Prop) (d e : D) (Qd : D → Prop), AOk A H ∧ Rp X.K A H x d ∧ Rp X.K A H y e ∧ F d e Qd ∧ ∀ v H' r, Y.G.r H H' → Rp X.K A H' v r → Qd r → Q v H'
def IpD (X : Cx) (Y : Yx) (op : Operator) (F : F2) : Prop := PIp X op (ipZ X Y F)
def iaddM : F2
  | .int i, .int j, Q => Q (.int (i + j))
  | _, _, _ => False
@[simp] theorem iaddM_e1 {i : Int} {j : Int} {Q : D → Prop} : iaddM (.int i) (.int j) Q = (Q (.int (i + j))) := rfl
def isubM : F2
  | .int i, .int j, Q => Q (.int (i - j))
  | _, _, _ => False
@[simp] theorem isubM_e1 {i : Int} {j : Int} {Q : D → Prop} : isubM (.int i) (.int j) Q = (Q (.int (i - j))) := rfl
section
variable {X : Cx} {Y : Yx} {e : Expr} {m mi : EM} {F : F2} {i : Nat} {x : Str} {pos pos' : Pos} {op : Operator}
theorem ipd_add : IpD X Y .Add iaddM := by
  intro pins s σ H x y v u Q I rx ry ⟨A, d, e, Qd, ok, r1, r2, f, k⟩
  cases r1 <;> cases r2 <;> (try exact f.elim)
  case int.int i j => exact ip_add pins s σ H _ _ v u Q I rx ry ⟨_, _, rfl, rfl, k _ _ _ (Y.G.refl _) (.int _) f⟩
theorem ipd_sub : IpD X Y .Sub isubM := by
  intro pins s σ H x y v u Q I rx ry ⟨A, d, e, Qd, ok, r1, r2, f, k⟩
  cases r1 <;> cases r2 <;> (try exact f.elim)
  case int.int i j => exact ip_sub pins s σ H _ _ v u Q I rx ry ⟨_, _, rfl, rfl, k _ _ _ (Y.G.refl _) (.int _) f⟩
theorem psd_aug (hN : X.N.Nodup) (he : PD X Y e m) (ho : IpD X Y op F) (hi : X.N[i]? = some x := by rfl) (hx : Loc X.env.scope x := by first | exact Or.inl rfl | exact Or.inr rfl) (hf : X.fn x = true ∨ X.env.scope.names.lookup x = some .local := by first | exact .inl rfl | exact .inr rfl) :
    PSd X Y (.AugAssign (.Name x pos') op e pos) (sAug i m F) :=
  ps_imp (ps_aug hN hi hx he ho hf) fun E σ H ⟨A, ρ, K, env, ex, h, en⟩ => by
    unfold sAug at h
    split at h
    · rename_i d hl
      obtain ⟨v, h1, r⟩ := env.sl i _ hl
      refine ⟨v, h1, A, ρ, _, _, env, ex, h, fun w H1 d2 g1 r1 h2 => ?_⟩
      have e1 := env.step g1
      exact ⟨A, d, d2, _, e1.aok, r.ext env.aok (Y.G.ext g1), r1, h2, fun u H2 d3 g2 r2 h3 => en.nx A _ H2 _ (.ext (Y.G.ext (Y.G.trans g1 g2))) ((e1.step g2).setDat r2) h3⟩
    · exact h.elim
theorem psd_augS {ix : Expr} {p1 tpos : Pos} (hx : PD X Y ix mi) (he : PD X Y e m) (ho : IpD X Y op F) (hN : X.N[i]? = some x := by rfl) (hv : Vis X.env.scope x := by first | exact Or.inl rfl | exact Or.inr (Or.inl rfl) | exact Or.inr (Or.inr rfl)) (hd : (x == ("__debug__" : Str)) = false := by decide)
    (hcd : (x == ("__classdict__" : Str)) = false := by decide) (ha : ∀ ov iv new, augStore ix ov iv new = (do holding [new, ov, iv] (setItem ov iv new); release [new, ov, iv] []; pure .next) := by intros; rfl) : PSd X Y (.AugAssign (.Subscript (.Name x p1) ix tpos) op e pos) (sAugS i mi m F) := by
  have hg : PGet X (fun o i H Q => ∃ a xs k v, o = .ref a ∧ i = .int k ∧ H a = some (.lst xs) ∧ L2.atI xs k = some v ∧ Q v H) := by
    intro pins s σ H o i ov iv Q I ro ri h
    obtain ⟨a, xs, k, v, rfl, rfl, h, hk, q⟩ := h
    cases ro
    obtain ⟨t, rfl⟩ := ri
    obtain ⟨its, r, pl, hz⟩ := I.list (SqL.of h)
    obtain ⟨j, w1, w2, w3, w4, w5⟩ := atI_get hk
    obtain ⟨w, ew, rw'⟩ := r.get w2
    have hl := r.length
    have hn := line63
    by_cases h0 : 0 ≤ k
    · have hj : k.toNat = j := by
        rw [seqIndex_of h0 w5] at w1
        exact Option.some.inj w1
      exact wpAny_getItem_list pl.isList h0 (by omega) (by rw [hj]; simpa using ew) ⟨v, H, I, rw', q⟩
    · have hj : (k + (its.toArray.size : Int)).toNat = j := by
        rw [seqIndex_neg (by omega) w4] at w1
        rw [List.size_toArray, ← hl]
        exact Option.some.inj w1
      exact wpAny_getItem_list_neg pl.isList (by omega) (by rw [List.size_toArray] <;> omega) (by omega) (by rw [hj]; simpa using ew) ⟨v, H, I, rw', q⟩
  refine ps_imp (ps_augS (pe_var hN hv hd hcd) hx hg he ho set_list ha) fun E σ H ⟨A, ρ, K, env, ex, h, en⟩ => ?_
  unfold sAugS at h
  split at h
  · rename_i ds hl
    obtain ⟨p, xs, h1, h2, ap, np, r⟩ := env.sl i _ hl
    refine ⟨_, h1, A, ρ, _, _, env, ex, h, fun v H1 d g1 r1 hq => ?_⟩
    have e1 := env.step g1
    cases r1 with
    | int k =>
      simp only at hq
      obtain ⟨p', xs', h1', h2', ap', np', r'⟩ := e1.sl i _ hl
      rw [h1] at h1'
      cases h1'
      cases w : ixN ds.length k with
      | none => rw [w] at hq; exact hq.elim
      | some j =>
        rw [w] at hq
        simp only [optQ] at hq
        cases w2 : ds[j]? with
        | none => rw [w2] at hq; exact hq.elim
        | some y =>
          rw [w2] at hq
          simp only at hq
          obtain ⟨vy, hy, ry⟩ := r'.get w2
          refine ⟨p, xs', k, vy, rfl, rfl, h2', by unfold L2.atI; rw [r'.length, w]; exact hy, A, ρ, _, _, e1, ex, hq, fun u H2 d2 g2 r2 hq2 => ?_⟩
          have e2 := e1.step g2
          refine ⟨A, y, d2, _, e2.aok, ry.ext e1.aok (Y.G.ext g2), r2, hq2, fun u2 H3 d3 g3 r3 hq3 => ?_⟩
          have e3 := e2.step g3
          obtain ⟨p'', xs'', h1'', h2'', ap'', np'', r''⟩ := e3.sl i _ hl
          rw [h1] at h1''
          cases h1''
          refine ⟨p, xs'', k, j, rfl, rfl, h2'', by rw [r''.length]; exact w, en.nx A _ _ _ ?_ (e3.updOwn hl h1 h2'' ap'' np'' (r''.set r3 j)) hq3⟩
          exact Stp.trans (.ext (Y.G.ext (Y.G.trans g1 (Y.G.trans g2 g3)))) ⟨keeps_upd ap'', .refl⟩
    | _ => exact hq.elim
  · exact h.elim
end
end WL
namespace WL
open L2 PySem PySem.Spec
open LamX (ExtN)

/-! ### enumerate over a tuple -/
/-- the tuple at a, each item in a new pair with its count -/
def IteT (K : PySem.W.Frag) (a : Addr) : It :=
  ⟨fun i H => ∃ (xs : List V) (x : V), SqT K H a xs ∧ xs[i]? = some x, fun i H v H' => ∃ T x, v = .ref T ∧ H T = none ∧ H' = upd H T (.tup [.int (i : Nat), x]) ∧ ∀ xs, SqT K H a xs → xs[i]? = some x, fun i H => ∃ xs : List V, SqT K H a xs ∧ xs.length ≤ i⟩
theorem enumT_apart {s : Shared} {e it a : Addr} {i : Nat} {c : Int} {old : Value} {its : Array Value} (he : IsEnum s.heap e it c old) (hit : s.heap.IsTupleIter it a i) (p : s.heap.IsTuple a its) : e ≠ it ∧ a ≠ it ∧ e ∉ [it, a] := by
  obtain ⟨o1, g1, c1, d1⟩ := hit
  obtain ⟨o2, g2, c2, _, d2⟩ := p
  have h1 : e ≠ it := fun z => by
    subst z
    rw [show s.heap.get? e = _ from he] at g1
    cases g1
    replace c1 : Value.type "enumerate" = Value.type "tuple_iterator" := c1
    injection c1 with z
    exact absurd z (by decide)
  have h2 : a ≠ it := fun z => by
    subst z
    rw [g2] at g1
    cases g1
    rw [c2] at c1
    injection c1 with z
    exact absurd z (by decide)
  have h3 : e ≠ a := fun z => by
    subst z
    rw [show s.heap.get? e = _ from he] at g2
    cases g2
    replace c2 : Value.type "enumerate" = Value.type "tuple" := c2
    injection c2 with z
    exact absurd z (by decide)
  exact ⟨h1, h2, by simp [h1, h3]⟩
theorem turn_enumT {P : Program} {w : World} {K : PySem.W.Frag} {elts : List Expr} {kk : Nat} {tpos : Pos} (a e it : Addr) :
    Turn P w K (.Tuple elts kk tpos) (IteT K a) [e, it] e (fun i h => (∃ old, IsEnum h e it ((i : Nat) : Int) old) ∧ h.IsTupleIter it a i ∧ e ≠ it) where
  mem := List.mem_cons_self ..
  obj := fun i h st b hb => by
    obtain ⟨⟨old, he⟩, ⟨o, ho, hc, hd⟩, _⟩ := st
    rcases List.mem_cons.mp hb with z | z
    · rw [z]; exact ⟨_, he, fun v q => nomatch q⟩
    · rw [List.mem_singleton.mp z]; exact ⟨o, ho, fun v q => by rw [hd] at q; cases q⟩
  keep := fun i h h' st k => let ⟨⟨old, he⟩, hi, hne⟩ := st; ⟨⟨old, k e (List.mem_cons_self ..) _ he⟩, hi.at fun o q => k it (List.mem_cons_of_mem _ (List.mem_singleton.mpr rfl)) o q, hne⟩
  item := by
    intro X hP hw hK hc i pins s σ H E I hf st hg
    subst hP hw hK
    obtain ⟨⟨old, he⟩, hit, hne⟩ := st
    obtain ⟨xs, x, hq, hx⟩ := hg
    obtain ⟨its, rv, p, hz⟩ := I.tuple hq
    obtain ⟨u, hu, ru⟩ := rv.get hx
    obtain ⟨n1, n2, n3⟩ := enumT_apart he hit p
    have hu' : its.toArray[i]? = some u := by simpa using hu
    have hlt : i < its.toArray.size := (Array.getElem?_eq_some_iff.mp hu').1
    have hel : e < s.heap.objs.size := Heap.lt_size he
    have hil : it < s.heap.objs.size := by obtain ⟨_, q, _⟩ := hit; exact Heap.lt_size q
    refine wpAny_pyNext_enum_itemD (Draws.tuple (A := X.A.in1) (show X.A.in1.handled = none from I.ok.hd hc) it a n2 its.toArray) he ⟨hit, p⟩ hlt n1 n3 fun w h' tk hw ho hst hT hsz hk => ?_
    obtain ⟨hit', p'⟩ := hst
    have hw' : w = u := Option.some.inj (hw.symm.trans hu')
    subst hw'
    refine ⟨_, rfl, wpAny_letOwnedTupleGo_enum (s := { s with heap := h', toks := tk + 1 }) ho fun h'' he' sb => ?_⟩
    have hT2 : h''.get? s.heap.objs.size = some { cls := .type "tuple", data := .seq #[.int i tk, w] } := (sb.2 _ (Nat.ne_of_gt hel)).trans hT
    have new : ObjOk X.prog X.w (upd H s.heap.objs.size (.tup [.int (i : Nat), x])) h'' s.heap.objs.size (.tup [.int (i : Nat), x]) :=
      ⟨by show 2 ≤ sizeLine; decide, [.int i tk, w], .cons ⟨_, rfl⟩ (.cons ru .nil), ⟨_, hT2, rfl, _, rfl⟩⟩
    have I1 : Inv X pins σ (upd H s.heap.objs.size (.tup [.int (i : Nat), x])) { s with heap := h'', toks := tk + 1 } :=
      I.turnedNew (ch := [e, it]) (fun b ob hb q => (sb.2 b (fun z => hb (z ▸ List.mem_cons_self ..))).trans (hk b ob (fun z => hb (z ▸ List.mem_cons_self ..)) (fun z => hb (z ▸ List.mem_cons_of_mem _ (List.mem_singleton.mpr rfl))) q)) hf (Nat.le_refl _) new
    refine ⟨.ref s.heap.objs.size, _, I1, rfl, ⟨_, x, rfl, I.hok.fresh (Nat.le_refl _), rfl, fun ys hy => by rw [I.tuple_inj hy hq]; exact hx⟩, ⟨⟨w, ?_⟩, hit'.at fun o q => (sb.2 it (Ne.symm hne)).trans q, hne⟩, fun b hb => ?_⟩
    · have e1 : ((i + 1 : Nat) : Int) = (i : Int) + 1 := by omega
      rw [e1]; exact he'
    · have hb' : b < s.heap.objs.size := by
        rcases List.mem_cons.mp hb with z | z
        · rw [z]; exact hel
        · rw [List.mem_singleton.mp z]; exact hil
      rw [upd_ne (Nat.ne_of_lt hb')]
      exact (hf b hb).1
  done := by
    intro X hP hw hK hc i pins s σ H E I hf st hg
    subst hP hw hK
    obtain ⟨⟨old, he⟩, hit, hne⟩ := st
    obtain ⟨xs, hq, hx⟩ := hg
    obtain ⟨its, rv, p, hz⟩ := I.tuple hq
    obtain ⟨n1, n2, n3⟩ := enumT_apart he hit p
    obtain ⟨f0, f1, f2, f3, f4, f5⟩ := hf it (List.mem_cons_of_mem _ (List.mem_singleton.mpr rfl))
    have hl := rv.length
    unfold pyNext
    refine wpAny_bind (wpAny_attempt (wpAny_callSpecial?_slot (name := Str.ofString "__next__") (show s.TypeIs (.ref e) "enumerate" from ⟨_, he, rfl⟩) F.slot_enumerate_next
      (wpAny_call_entry F.slot_enumerate_next (show s.TypeIs (.ref e) "enumerate" from ⟨_, he, rfl⟩) F.entry_enumerate_next ?_ (F.args_enumerate_next_1 _))))
    show wpAny _ _ (field (.ref e) 2 >>= _) _ _ _
    refine wpAny_bind (wpAny_field he rfl (x := .ref it) rfl ?_)
    refine wpAny_bind (wpAny_nextOf_tuple_end (I.ok.hd hc) hit p (Array.getElem?_eq_none (by rw [List.size_toArray]; omega)) fun h' z eb hx' => ?_)
    obtain ⟨o, ho, hc'⟩ := hx'
    refine wpAny_bind (wpAny_isInstance (T := "StopIteration") (b := true) ⟨o, ho, hc'⟩ isSubtype_stop ?_)
    exact wpAny_pure ⟨rfl, I.turned (t' := s.toks) (fun b o hb q => eb b o hb q) f0 f1 f3 f4 f5⟩
  self := fun A i s Q E st h => wpAny_pyIter_enum st.1.choose_spec h
set_option maxHeartbeats 1000000 in
theorem meets_enumT {v : Value} {o : Obj} {H : Heap → Prop} (B : Begins v o H) :
    Meets (Builtin.«enumerate.__new__» ⟨[.type "enumerate", v], []⟩) (fun _ R s => H s.heap ∧
      R (.ok (.ret (.ref (s.heap.push o).objs.size))) { s with heap := (s.heap.push o).push { cls := .type "enumerate", data := .fields #[.none, .bool false, .ref s.heap.objs.size, rawInt 0, .none, .none] } }) :=
  .of_wp fun prog w A R s h => by
    obtain ⟨hp, g, d, tk, os⟩ := s
    obtain ⟨h1, h⟩ := h
    have hsub := sub_enumerate
    have q1 : ∀ {A' : Around} {E : Value → Shared → Prop} {Q : Value → Shared → Prop}, Q (.ref hp.objs.size) ⟨hp.push o, g, d, tk, os⟩ → wpAny (model prog w) A' (pyIter v) Q E ⟨hp, g, d, tk, os⟩ :=
      fun q => B.iter prog w _ _ ⟨hp, g, d, tk, os⟩ _ h1 q
    wp_walk using q1
    refine wpAny_stack_any fun st => wpAny_pure ?_
    split
    · rename_i c _ _ _ _ _
      cases (c == Value.type "enumerate")
      · wp_walk using q1
        exact ⟨_, rfl, h⟩
      · wp_walk using q1
        exact ⟨_, rfl, h⟩
    · wp_walk using q1
      exact ⟨_, rfl, h⟩
theorem enum_begins1 {prog : Program} {w : World} {A : Around} {E : Value → Shared → Prop} {s : Shared} {v : Value} {o : Obj} {H : Heap → Prop} {Q : Value → Shared → Prop} (B : Begins v o H) (h1 : H s.heap)
    (h : ∀ h', IsEnum h' (s.heap.objs.size + 1) s.heap.objs.size 0 .none → h'.get? s.heap.objs.size = some o → h'.objs.size = s.heap.objs.size + 2 →
      (∀ b o, s.heap.get? b = some o → h'.get? b = some o) → Q (.ref (s.heap.objs.size + 1)) { s with heap := h' }) :
    wpAny (model prog w) A (call (.type "enumerate") [v]) Q E s := by
  have hz : (s.heap.push o).objs.size = s.heap.objs.size + 1 := Heap.size_push ..
  have he : IsEnum ((s.heap.push o).push { cls := .type "enumerate", data := .fields #[.none, .bool false, .ref s.heap.objs.size, rawInt 0, .none, .none] }) (s.heap.objs.size + 1) s.heap.objs.size 0 .none := by
    have q := Heap.get?_push_size (s.heap.push o) (o := { cls := .type "enumerate", data := .fields #[.none, .bool false, .ref s.heap.objs.size, rawInt 0, .none, .none] }) rfl
    rwa [hz] at q
  refine callType_new F.called_enumerate (by decide) (F.typeCall_enumerate_1 _) (F.newCall_enumerate_1 _) (fun obj => F.args_object_init_2 obj _) F.entry_enumerate_new (meets_enumT B) ⟨h1, ?_⟩
  show _ ∧ _
  rw [hz]
  exact ⟨⟨_, he, rfl⟩, h _ he (Heap.get?_push_of_some _ (Heap.get?_push_size _ B.free)) (by rw [Heap.size_push, hz]) fun b o x => Heap.get?_push_of_some _ (Heap.get?_push_of_some _ x)⟩
def iEnumT (K : PySem.W.Frag) (ta : TA) : TI := fun σ H R => ta σ H fun vs H1 => ∃ a xs, vs = [.ref a] ∧ SqT K H1 a xs ∧ R (IteT K a) H1
theorem pi_enumT {X : Cx} {e : Expr} {ta : TA} {p pos tpos : Pos} {elts : List Expr} {kk : Nat} (hg : Gl X "enumerate") (hm : X.mg "enumerate" = none) (ha : PA X [e] ta) (hs : starEach [e] X.env = [(false, eval e X.env)] := by rfl) :
    PI X (.Tuple elts kk tpos) (.Call (.Name "enumerate" p) [e] [] pos) (iEnumT X.K ta) := by
  refine ⟨fun pins s σ H R I h => ?_⟩
  refine PyProof.Rows.Call_ (ld_blt I hg hm PyProof.Rows.boot_enumerate (PyProof.Rows.callWith_type1 (thn (ha.run pos pins s σ H _ I h) fun us s1 ⟨vs, H1, I1, r1, q1⟩ => ?_) hs rfl))
  obtain ⟨a, xs, rfl, hq, q⟩ := q1
  cases r1 with
  | cons r rr =>
    cases rr
    cases r
    obtain ⟨its, rv, p', hz⟩ := I1.tuple hq
    refine enum_begins1 (begins_tuple a its.toArray) p' fun h' he hit hsz hk => wpAny_pyIter_enum he ?_
    refine ⟨s1.heap.objs.size + 1, [s1.heap.objs.size + 1, s1.heap.objs.size], _, _, H1, rfl, I1.kept (t' := s1.toks) hk, turn_enumT a (s1.heap.objs.size + 1) s1.heap.objs.size, ⟨⟨.none, he⟩, ⟨_, hit, rfl, rfl⟩, Nat.succ_ne_self _⟩, fun b hb => ?_, q⟩
    have hle : s1.heap.objs.size ≤ b := by
      rcases List.mem_cons.mp hb with z | z
      · rw [z]; exact Nat.le_add_right _ _
      · rw [List.mem_singleton.mp z]; exact Nat.le_refl _
    exact I1.fpOk hle (I1.hok.fresh hle)
theorem walk_enumT {K : PySem.W.Frag} {a : Addr} {xs : List V} : L2.Walk (IteT K a) xs.length (fun H => SqT K H a xs) (YPair (fun i => some (.int (i : Nat))) (fun i => xs[i]?)) where
  goes := fun i H hi h => ⟨xs, xs[i], h, List.getElem?_eq_getElem hi⟩
  stops := fun H h => ⟨xs, h, Nat.le_refl _⟩
  yields := fun i H v H' hi h ⟨T, x, e1, e2, e3, e4⟩ => ⟨T, _, x, e1, e2, e3, rfl, e4 xs h⟩
end WL
namespace WL
open L2 PySem PySem.Spec
open LamX (ExtN)

/-! ### what is walked, by data -/
structure GoS (fl : Bool) (A : Addr → Prop) (H : Hp) (A' : Addr → Prop) (H' : Hp) : Prop where
  stp : Stp A H A' H'
  ext : fl = true → ExtN H H'
  aok : AOk A H
structure Wk (K : PySem.W.Frag) (Y : Yx) (fl : Bool) (A : Addr → Prop) (H : Hp) (J : It) (ds : List D) : Prop where
  ex : ∃ (G : Hp → Prop) (Yl : Nat → Hp → V → Hp → Prop), L2.Walk J ds.length G Yl ∧ (∀ A' H', GoS fl A H A' H' → G H') ∧
    ∀ A' H' i x H2, GoS fl A H A' H' → AOk A' H' → i < ds.length → Yl i H' x H2 → Y.G.r H' H2 ∧ ∃ d, ds[i]? = some d ∧ Rp K A' H2 x d
def liftI (X : Cx) (Y : Yx) (fl : Bool) (m : EMs) : TI := fun σ H R => ∃ (A : Addr → Prop) (ρ : DEnv) (Qd : List D → Prop) (E : Xn → Prop), EnvOk X.K Y A H σ ρ ∧ ExOk X.K Y E ∧ m ρ Qd E ∧
  ∀ J H' ds, Y.G.r H H' → Wk X.K Y fl A H' J ds → Qd ds → R J H'
def PId (X : Cx) (Y : Yx) (fl : Bool) (tg iter : Expr) (m : EMs) : Prop := PI X tg iter (liftI X Y fl m)
theorem pi_imp {X : Cx} {tg e : Expr} {t t' : TI} (h : PI X tg e t) (k : ∀ σ H Q, t' σ H Q → t σ H Q) : PI X tg e t' := ⟨fun pins s σ H Q I q => h.run pins s σ H Q I (k _ _ _ q)⟩
@[simp ↓] def miL (m : EM) (ρ : DEnv) (Q : List D → Prop) (E : Xn → Prop) : Prop := m ρ (fun d => match d with | .lst ds => Q ds | _ => False) E
@[simp ↓] def miT (m : EM) (ρ : DEnv) (Q : List D → Prop) (E : Xn → Prop) : Prop := m ρ (fun d => match d with | .tup ds => Q ds | _ => False) E
def chars (x : Str) : List D := x.cps.toList.map fun c => .str ⟨#[c]⟩
@[simp ↓] def miS (m : EM) (ρ : DEnv) (Q : List D → Prop) (E : Xn → Prop) : Prop := m ρ (fun d => match d with | .str x => Q (chars x) | _ => False) E
def upto (n : Nat) : List D := (List.range n).map fun i => .int (i : Nat)
@[simp ↓] def miR1 (m : EM) (ρ : DEnv) (Q : List D → Prop) (E : Xn → Prop) : Prop := m ρ (fun d => match d with | .int j => (-(2 ^ 62) ≤ j ∧ j < 2 ^ 62) ∧ Q (upto j.toNat) | _ => False) E
def span (i j : Int) : List D := (List.range (j - i).toNat).map fun n => .int (i + (n : Nat))
@[simp] def rgF (Q : List D → Prop) : D × D → Prop
  | (.int i, .int j) => (-(2 ^ 62) ≤ i ∧ i < 2 ^ 62 ∧ -(2 ^ 62) ≤ j ∧ j < 2 ^ 62) ∧ Q (span i j)
  | _ => False
@[simp ↓] def miR2 (a b : EM) (ρ : DEnv) (Q : List D → Prop) (E : Xn → Prop) : Prop := a ρ (fun d => b ρ (fun e => rgF Q (d, e)) E) E
def numd (ds : List D) : List D := ds.mapIdx fun i d => .tup [.int (i : Nat), d]
@[simp ↓] def miE (m : EM) (ρ : DEnv) (Q : List D → Prop) (E : Xn → Prop) : Prop := m ρ (fun d => match d with | .tup ds => Q (numd ds) | _ => False) E
@[simp ↓] def miEL (m : EM) (ρ : DEnv) (Q : List D → Prop) (E : Xn → Prop) : Prop := m ρ (fun d => match d with | .lst ds => Q (numd ds) | _ => False) E
def paird (xs ys : List D) : List D := (xs.zip ys).map fun p => .tup [p.1, p.2]
@[simp] def zpF (Q : List D → Prop) : D × D → Prop
  | (.lst xs, .lst ys) => Q (paird xs ys)
  | (.tup xs, .tup ys) => Q (paird xs ys)
  | _ => False
@[simp ↓] def miZ (a b : EM) (ρ : DEnv) (Q : List D → Prop) (E : Xn → Prop) : Prop := a ρ (fun d => b ρ (fun e => zpF Q (d, e)) E) E
def rV1 (K : PySem.W.Frag) (A : Addr → Prop) (_ H' : Hp) (vs : List V) (d : D) : Prop := ∃ v, vs = [v] ∧ Rp K A H' v d
def rV1q (K : PySem.W.Frag) (A : Addr → Prop) (_ H' : Hp) (vs : List V) (d : D) : Prop := ∃ v, vs = [v] ∧ Rq K A H' v d
def rV2 (K : PySem.W.Frag) (A : Addr → Prop) (_ H' : Hp) (vs : List V) (d : D × D) : Prop := ∃ v w, vs = [v, w] ∧ Rp K A H' v d.1 ∧ Rp K A H' w d.2
def rV2q (K : PySem.W.Frag) (A : Addr → Prop) (_ H' : Hp) (vs : List V) (d : D × D) : Prop := ∃ v w, vs = [v, w] ∧ Rq K A H' v d.1 ∧ Rq K A H' w d.2
/-- two data, one after the other -/
def mPr (a b : EM) : DEnv → (D × D → Prop) → (Xn → Prop) → Prop := fun ρ Q E => a ρ (fun x => b ρ (fun y => Q (x, y)) E) E
section
variable {X : Cx} {Y : Yx} {fl : Bool} {tg e a b : Expr} {m ma mb : EM} {A A' : Addr → Prop} {H H' : Hp} {p pos : Pos}
theorem GoS.lst {K : PySem.W.Frag} {q : Addr} {xs : List V} {ds : List D} (g : GoS fl A H A' H') (h : H q = some (.lst xs)) (n : ¬ A q ∨ fl = true) (r : RpAll K A H xs ds) : H' q = some (.lst xs) ∧ RpAll K A' H' xs ds := by
  refine ⟨?_, r.move g.aok g.stp.keep g.stp.fr⟩
  rcases n with n | n
  · exact g.stp.keep _ _ h n fun _ z => nomatch z
  · exact g.ext n _ _ h fun _ z => nomatch z
theorem Wk.of {K : PySem.W.Frag} {J : It} {n : Nat} {G : Hp → Prop} {Yl : Nat → Hp → V → Hp → Prop} {ds : List D} (w : L2.Walk J n G Yl) (e : n = ds.length) (g : ∀ A' H', GoS fl A H A' H' → G H')
    (y : ∀ A' H' i x H2, GoS fl A H A' H' → AOk A' H' → i < ds.length → Yl i H' x H2 → Y.G.r H' H2 ∧ ∃ d, ds[i]? = some d ∧ Rp K A' H2 x d) : Wk K Y fl A H J ds := by
  subst e
  exact ⟨G, Yl, w, g, y⟩
theorem wk_lst {K : PySem.W.Frag} {q : Addr} {xs : List V} {ds : List D} (h : H q = some (.lst xs)) (n : ¬ A q ∨ fl = true) (r : RpAll K A H xs ds) : Wk K Y fl A H (Itl K q) ds := by
  refine Wk.of (walk_list (K := K) (a := q) (xs := xs)) r.length (fun A' H' g => SqL.of (g.lst h n r).1) fun A' H' i x H2 g ok hi ⟨e1, e2⟩ => ?_
  subst e1
  obtain ⟨d, h1, h2⟩ := (g.lst h n r).2.getV e2
  exact ⟨Y.G.refl _, d, h1, h2⟩
theorem wk_tup {K : PySem.W.Frag} {q : Addr} {xs : List V} {ds : List D} (h : SqT K H q xs) (r : RpAll K A H xs ds) : Wk K Y fl A H (Itt K q) ds := by
  refine Wk.of (walk_tup (K := K) (a := q) (xs := xs)) r.length (fun A' H' g => sqT_keep g.aok g.stp.keep h) fun A' H' i x H2 g ok hi ⟨e1, e2⟩ => ?_
  subst e1
  obtain ⟨d, h1, h2⟩ := (r.move g.aok g.stp.keep g.stp.fr).getV e2
  exact ⟨Y.G.refl _, d, h1, h2⟩
theorem pid_list (h : PD X Y e m) : PId X Y fl tg e (miL m) := pi_imp (pi_list h) fun σ H R ⟨A, ρ, Qd, E, env, ex, hm, k⟩ => ⟨A, ρ, _, E, env, ex, hm, fun v H1 d g r hq => by
  cases r with
  | @lst a xs ds h n r => exact ⟨a, rfl, ⟨xs, SqL.of h⟩, k _ _ _ g (wk_lst h (.inl n) r) hq⟩
  | _ => exact hq.elim⟩
theorem pid_listQ (h : PQ X Y e m) : PId X Y true tg e (miL m) := pi_imp (pi_list h) fun σ H R ⟨A, ρ, Qd, E, env, ex, hm, k⟩ => ⟨A, ρ, _, E, env, ex, hm, fun v H1 d g r hq => by
  cases r with
  | @lst a xs ds h r => exact ⟨a, rfl, ⟨xs, SqL.of h⟩, k _ _ _ g (wk_lst h (.inr rfl) r) hq⟩
  | _ => exact hq.elim⟩
theorem pid_tup (h : PD X Y e m) : PId X Y fl tg e (miT m) := pi_imp (pi_tup h) fun σ H R ⟨A, ρ, Qd, E, env, ex, hm, k⟩ => ⟨A, ρ, _, E, env, ex, hm, fun v H1 d g r hq => by
  cases r with
  | @tup a xs ds h r => exact ⟨a, rfl, ⟨xs, h⟩, k _ _ _ g (wk_tup h r) hq⟩
  | _ => exact hq.elim⟩
theorem pid_str (h : PD X Y e m) : PId X Y fl tg e (miS m) := pi_imp (pi_str h) fun σ H R ⟨A, ρ, Qd, E, env, ex, hm, k⟩ => ⟨A, ρ, _, E, env, ex, hm, fun v H1 d g r hq => by
  cases r with
  | str x =>
    refine ⟨x, rfl, k _ _ _ g (Wk.of (walk_str (z := x)) (by simp [chars]) (fun _ _ _ => trivial) fun A' H' i x' H2 gs ok hi ⟨e1, c, hc, e2⟩ => ?_) hq⟩
    subst e1
    subst e2
    exact ⟨Y.G.refl _, .str ⟨#[c]⟩, by simp [chars, hc], .str _⟩
  | _ => exact hq.elim⟩
theorem wk_upto {K : PySem.W.Frag} {n : Nat} : Wk K Y fl A H (Itr 0 n) (upto n) := by
  refine Wk.of (walk_range (lo := 0) (n := n)) (by simp [upto]) (fun _ _ _ => trivial) fun A' H' i x H2 g ok hi ⟨e1, e2⟩ => ?_
  subst e1
  subst e2
  have : i < n := by simpa [upto] using hi
  exact ⟨Y.G.refl _, .int (i : Nat), by simp [upto, this], by show Rp K A' _ (V.int (0 + (i : Nat))) _; rw [Int.zero_add]; exact .int _⟩
theorem wk_span {K : PySem.W.Frag} {i j : Int} : Wk K Y fl A H (Itr i (j - i).toNat) (span i j) := by
  refine Wk.of (walk_range (lo := i) (n := (j - i).toNat)) (by simp [span]) (fun _ _ _ => trivial) fun A' H' k x H2 g ok hi ⟨e1, e2⟩ => ?_
  subst e1
  subst e2
  have : k < (j - i).toNat := by simpa [span] using hi
  exact ⟨Y.G.refl _, .int (i + (k : Nat)), by simp [span, this], .int _⟩
theorem pa1 (ha : PD X Y a ma) (hs : starEach [a] X.env = (false, eval a X.env) :: starEach [] X.env := by rfl) : PA X [a] (liftG X Y (rV1 X.K) ma) :=
  pa_imp (pa_cons ha pa_nil hs) fun σ H Q ⟨A, ρ, Qd, E, env, ex, hm, k⟩ => ⟨A, ρ, _, E, env, ex, hm, fun v H1 d g r q => k [v] H1 d g ⟨v, rfl, r⟩ q⟩
theorem pa1q (ha : PQ X Y a ma) (hs : starEach [a] X.env = (false, eval a X.env) :: starEach [] X.env := by rfl) : PA X [a] (liftG X Y (rV1q X.K) ma) :=
  pa_imp (pa_cons ha pa_nil hs) fun σ H Q ⟨A, ρ, Qd, E, env, ex, hm, k⟩ => ⟨A, ρ, _, E, env, ex, hm, fun v H1 d g r q => k [v] H1 d g ⟨v, rfl, r⟩ q⟩
theorem pa2 (ha : PD X Y a ma) (hb : PD X Y b mb) (hs : starEach [a, b] X.env = (false, eval a X.env) :: starEach [b] X.env := by rfl) (hs2 : starEach [b] X.env = (false, eval b X.env) :: starEach [] X.env := by rfl) : PA X [a, b] (liftG X Y (rV2 X.K) (mPr ma mb)) :=
  pa_imp (pa_cons ha (pa_cons hb pa_nil hs2) hs) fun σ H Q ⟨A, ρ, Qd, E, env, ex, hm, k⟩ => ⟨A, ρ, _, E, env, ex, hm, fun v H1 d g r q => ⟨A, ρ, _, E, env.step g, ex, q, fun w H2 d2 g2 r2 q2 => k [v, w] H2 (d, d2) (Y.G.trans g g2) ⟨v, w, rfl, r.ext (env.step g).aok (Y.G.ext g2), r2⟩ q2⟩⟩
theorem pa2q (ha : PQ X Y a ma) (hb : PQ X Y b mb) (hs : starEach [a, b] X.env = (false, eval a X.env) :: starEach [b] X.env := by rfl) (hs2 : starEach [b] X.env = (false, eval b X.env) :: starEach [] X.env := by rfl) : PA X [a, b] (liftG X Y (rV2q X.K) (mPr ma mb)) :=
  pa_imp (pa_cons ha (pa_cons hb pa_nil hs2) hs) fun σ H Q ⟨A, ρ, Qd, E, env, ex, hm, k⟩ => ⟨A, ρ, _, E, env, ex, hm, fun v H1 d g r q => ⟨A, ρ, _, E, env.step g, ex, q, fun w H2 d2 g2 r2 q2 => k [v, w] H2 (d, d2) (Y.G.trans g g2) ⟨v, w, rfl, Rq.ext (env.step g).aok (Y.G.ext g2) r, r2⟩ q2⟩⟩
theorem pid_range1 (hm : X.mg "range" = none) (ha : PD X Y a ma) (hg : Gl X "range" := by rfl) (hs : starEach [a] X.env = [(false, eval a X.env)] := by rfl) : PId X Y fl tg (.Call (.Name "range" p) [a] [] pos) (miR1 ma) :=
  pi_imp (pi_range1 hg hm (pa1 ha hs) hs) fun σ H R ⟨A, ρ, Qd, E, env, ex, hm, k⟩ => ⟨A, ρ, _, E, env, ex, hm, fun vs H1 d g ⟨v, e1, r⟩ hq => by
    subst e1
    cases r with
    | int j => exact ⟨j, rfl, hq.1.1, hq.1.2, k _ _ _ g wk_upto hq.2⟩
    | _ => exact hq.elim⟩
theorem pid_range2 (hm : X.mg "range" = none) (ha : PD X Y a ma) (hb : PD X Y b mb) (hg : Gl X "range" := by rfl) (hs : starEach [a, b] X.env = [(false, eval a X.env), (false, eval b X.env)] := by rfl) (hs2 : starEach [b] X.env = [(false, eval b X.env)] := by rfl) :
    PId X Y fl tg (.Call (.Name "range" p) [a, b] [] pos) (miR2 ma mb) :=
  pi_imp (pi_range2 hg hm (pa2 ha hb (hs.trans (by rw [hs2])) hs2) hs hs2) fun σ H R ⟨A, ρ, Qd, E, env, ex, hm, k⟩ => ⟨A, ρ, rgF Qd, E, env, ex, hm, fun vs H1 d g ⟨v, w, e1, r, r2⟩ hq => by
    subst e1
    obtain ⟨d, e⟩ := d
    cases r <;> cases r2 <;> (try exact hq.elim)
    exact ⟨_, _, rfl, hq.1, k _ _ _ g wk_span hq.2⟩⟩
theorem wk_pair {K : PySem.W.Frag} {J : It} {n : Nat} {G : Hp → Prop} {f g : Nat → Option V} {ds : List D} (w : L2.Walk J n G (YPair f g)) (e : n = ds.length) (hG : ∀ A' H', GoS fl A H A' H' → G H')
    (y : ∀ A' H' i v u, GoS fl A H A' H' → i < ds.length → f i = some v → g i = some u → ∃ d d', ds[i]? = some (.tup [d, d']) ∧ Rp K A' H' v d ∧ Rp K A' H' u d') : Wk K Y fl A H J ds :=
  Wk.of w e hG fun A' H' i x H2 gs ok hi ⟨T, v, u, e1, hT, e2, q1, q2⟩ => by
    subst e1
    subst e2
    obtain ⟨d, d', h1, r1, r2⟩ := y A' H' i v u gs hi q1 q2
    have s := upd_fresh_same (o := .tup [v, u]) hT
    exact ⟨Y.G.same s, _, h1, Rp.newT ok hT (.cons r1 (.cons r2 .nil))⟩
theorem numd_get {ds : List D} {i : Nat} : (numd ds)[i]? = (ds[i]?).map fun d => .tup [.int (i : Nat), d] := by simp [numd]
theorem pid_enum {elts : List Expr} {kk : Nat} {tpos : Pos} (hm : X.mg "enumerate" = none) (ha : PD X Y a ma) (hg : Gl X "enumerate" := by rfl) (hs : starEach [a] X.env = [(false, eval a X.env)] := by rfl) : PId X Y fl (.Tuple elts kk tpos) (.Call (.Name "enumerate" p) [a] [] pos) (miE ma) :=
  pi_imp (pi_enumT hg hm (pa1 ha hs) hs) fun σ H R ⟨A, ρ, Qd, E, env, ex, hm, k⟩ => ⟨A, ρ, _, E, env, ex, hm, fun vs H1 d g ⟨v, e1, r⟩ hq => by
    subst e1
    cases r with
    | @tup a xs ds h r =>
      refine ⟨a, xs, rfl, h, k _ _ _ g (wk_pair walk_enumT (by rw [r.length]; simp [numd]) (fun A' H' g => sqT_keep g.aok g.stp.keep h) fun A' H' i v u gs hi q1 q2 => ?_) hq⟩
      cases q1
      obtain ⟨d, h1, h2⟩ := (r.move gs.aok gs.stp.keep gs.stp.fr).getV q2
      exact ⟨.int (i : Nat), d, by rw [numd_get, h1]; rfl, .int _, h2⟩
    | _ => exact hq.elim⟩
theorem pid_enumL {elts : List Expr} {kk : Nat} {tpos : Pos} (hm : X.mg "enumerate" = none) (ha : PD X Y a ma) (hg : Gl X "enumerate" := by rfl) (hs : starEach [a] X.env = [(false, eval a X.env)] := by rfl) : PId X Y fl (.Tuple elts kk tpos) (.Call (.Name "enumerate" p) [a] [] pos) (miEL ma) :=
  pi_imp (pi_enum hg hm (pa1 ha hs) hs) fun σ H R ⟨A, ρ, Qd, E, env, ex, hm, k⟩ => ⟨A, ρ, _, E, env, ex, hm, fun vs H1 d g ⟨v, e1, r⟩ hq => by
    subst e1
    cases r with
    | @lst a xs ds h n r =>
      refine ⟨a, xs, rfl, SqL.of h, k _ _ _ g (wk_pair walk_enum (by rw [r.length]; simp [numd]) (fun A' H' g => SqL.of (g.lst h (.inl n) r).1) fun A' H' i v u gs hi q1 q2 => ?_) hq⟩
      cases q1
      obtain ⟨d, h1, h2⟩ := (gs.lst h (.inl n) r).2.getV q2
      exact ⟨.int (i : Nat), d, by rw [numd_get, h1]; rfl, .int _, h2⟩
    | _ => exact hq.elim⟩
theorem paird_get {xs ys : List D} {i : Nat} {x y : D} (h1 : xs[i]? = some x) (h2 : ys[i]? = some y) : (paird xs ys)[i]? = some (.tup [x, y]) := by
  have q : (xs.zip ys)[i]? = some (x, y) := List.getElem?_zip_eq_some.mpr ⟨h1, h2⟩
  rw [paird, List.getElem?_map, q]
  rfl
theorem walk_zipT {K : PySem.W.Frag} {a b : Addr} {xs ys : List V} {n : Nat} (hn : n = min xs.length ys.length) : L2.Walk (RZ.ItzT K a b) n (fun H => SqT K H a xs ∧ SqT K H b ys) (YPair (fun i => xs[i]?) (fun i => ys[i]?)) where
  goes := fun i H hi h => by
    subst hn
    have h1 : i < xs.length := by omega
    have h2 : i < ys.length := by omega
    exact ⟨xs, ys, xs[i], ys[i], h.1, h.2, List.getElem?_eq_getElem h1, List.getElem?_eq_getElem h2⟩
  stops := fun H h => ⟨xs, ys, h.1, h.2, by omega⟩
  yields := fun i H v H' hi h ⟨T, x, y, e1, e2, e3, e4, e5⟩ => ⟨T, x, y, e1, e2, e3, e4 xs h.1, e5 ys h.2⟩
theorem pid_zip {elts : List Expr} {kk : Nat} {tpos : Pos} (hm : X.mg "zip" = none) (ha : PD X Y a ma) (hb : PD X Y b mb) (hg : Gl X "zip" := by rfl) (hs : starEach [a, b] X.env = (false, eval a X.env) :: starEach [b] X.env := by rfl)
    (hs2 : starEach [b] X.env = (false, eval b X.env) :: starEach [] X.env := by rfl) (hpl : (backTo pos (starEach [b] X.env)).any (·.1) = false := by rfl) : PId X Y fl (.Tuple elts kk tpos) (.Call (.Name "zip" p) [a, b] [] pos) (miZ ma mb) :=
  pi_imp (RZ.pi_zipA hg hm (pa2 ha hb hs hs2) hs hpl) fun σ H R ⟨A, ρ, Qd, E, env, ex, hm, k⟩ => ⟨A, ρ, zpF Qd, E, env, ex, hm, fun vs H1 d g ⟨v, w, e1, r, r2⟩ hq => by
    subst e1
    obtain ⟨d, e⟩ := d
    cases r with
    | @lst a xs ds h n r =>
     cases r2 with
     | @lst b ys es h2 n2 r2 =>
      refine ⟨a, b, xs, ys, rfl, .inl ⟨SqL.of h, SqL.of h2, k _ _ _ g (wk_pair (walk_zip (xs := xs) (ys := ys) rfl) (by rw [r.length, r2.length]; simp [paird]) (fun A' H' g => ⟨SqL.of (g.lst h (.inl n) r).1, SqL.of (g.lst h2 (.inl n2) r2).1⟩) fun A' H' i v u gs hi q1 q2 => ?_) hq⟩⟩
      obtain ⟨d, h1, w1⟩ := (gs.lst h (.inl n) r).2.getV q1
      obtain ⟨e, h2, w2⟩ := (gs.lst h2 (.inl n2) r2).2.getV q2
      exact ⟨d, e, paird_get h1 h2, w1, w2⟩
     | _ => exact hq.elim
    | @tup a xs ds h r =>
     cases r2 with
     | @tup b ys es h2 r2 =>
      refine ⟨a, b, xs, ys, rfl, .inr ⟨h, h2, k _ _ _ g (wk_pair (walk_zipT (xs := xs) (ys := ys) rfl) (by rw [r.length, r2.length]; simp [paird]) (fun A' H' g => ⟨sqT_keep g.aok g.stp.keep h, sqT_keep g.aok g.stp.keep h2⟩) fun A' H' i v u gs hi q1 q2 => ?_) hq⟩⟩
      obtain ⟨d, h1, w1⟩ := (r.move gs.aok gs.stp.keep gs.stp.fr).getV q1
      obtain ⟨e, h2, w2⟩ := (r2.move gs.aok gs.stp.keep gs.stp.fr).getV q2
      exact ⟨d, e, paird_get h1 h2, w1, w2⟩
     | _ => exact hq.elim
    | _ => exact hq.elim⟩
end

/-! ### for, while -/
@[simp] def forD (b : D → SM) : List D → SM
  | [], ρ, K => K.nx ρ
  | d :: r, ρ, K => b d ρ { K with nx := fun ρ' => forD b r ρ' K, ct := fun ρ' => forD b r ρ' K, bk := K.nx }
def lpB (tg : Tg) (t : SM) (d : D) (ρ : DEnv) (K : Kt) : Prop := bindT tg d ρ fun ρ' => t ρ' K
@[simp ↓] def sFor (mi : EMs) (tg : Tg) (t : SM) (ρ : DEnv) (K : Kt) : Prop := mi ρ (fun ds => forD (lpB tg t) ds ρ K) K.ex
def whN (c : EMt) (t : SM) : Nat → SM
  | 0, _, _ => False
  | n + 1, ρ, K => c ρ (fun b => if b = true then t ρ { K with nx := fun ρ' => whN c t n ρ' K, ct := fun ρ' => whN c t n ρ' K, bk := K.nx } else K.nx ρ) K.ex
def sWhile (c : EMt) (t : SM) : SM := fun ρ K => ∃ n, whN c t n ρ K
section
variable {X : Cx} {Y : Yx} {tgt iter c : Expr} {body : List Stmt} {mi : EMs} {tg : Tg} {t : SM} {mt : EMt} {pos : Pos}
theorem psd_for (hp : PassesOwn (model X.prog X.w) X.A X.env X.xe) (hc : X.calm = true) (hi : PId X Y false tgt iter mi) (hg : PGd X Y tgt tg) (hb : PSsd X Y body t) (hs : ∀ x, foldedSetIterable iter X.env x = pure x := by intro _; rfl) : PSd X Y (.For tgt iter body [] pos) (sFor mi tg t) :=
  ps_imp (ps_for hp hc hi hg hb hs) fun E σ H ⟨A, ρ, K, env, ex, h, en⟩ => ⟨A, ρ, _, _, env, ex, h, fun J H1 ds g ⟨G, Yl, w, hG, hY⟩ hq => by
    have ok := (env.step g).aok
    refine for_it w (fun i σ' H' => ∃ A' ρ', Stp A H1 A' H' ∧ EnvOk X.K Y A' H' σ' ρ' ∧ forD (lpB tg t) (ds.drop i) ρ' K) ?_ ?_ ?_ ?_
    · exact ⟨A, ρ, .refl, env.step g, hq⟩
    · intro i σ' H' _ ⟨A', ρ', st, e', _⟩
      exact hG A' H' ⟨st, fun z => (nomatch z), ok⟩
    · intro i x σ' H' H2 hi ⟨A', ρ', st, e', q⟩ y
      obtain ⟨g2, d, hd, r⟩ := hY A' H' i x H2 ⟨st, fun z => (nomatch z), ok⟩ e'.aok hi y
      have e2 := e'.step g2
      have dr : ds.drop i = d :: ds.drop (i + 1) := by
        obtain ⟨h1, h2⟩ := List.getElem?_eq_some_iff.mp hd
        rw [← h2]
        exact (List.drop_eq_getElem_cons h1)
      rw [dr] at q
      have st2 : Stp A H1 A' H2 := st.trans (.ext (Y.G.ext g2))
      have s0 : Stp A H A' H2 := Stp.trans (.ext (Y.G.ext g)) st2
      refine ⟨A', ρ', d, _, e2, r, q, fun σ3 ρ3 e3 _ q3 => ⟨A', ρ3, { K with nx := fun ρ' => forD (lpB tg t) (ds.drop (i + 1)) ρ' K, ct := fun ρ' => forD (lpB tg t) (ds.drop (i + 1)) ρ' K, bk := K.nx }, e3, ex, q3, ?_⟩⟩
      refine ⟨fun A4 σ4 H4 ρ4 s4 e4 q4 => ⟨A4, ρ4, st2.trans s4, e4, q4⟩, fun A4 σ4 H4 ρ4 s4 e4 q4 => en.nx A4 σ4 H4 ρ4 (s0.trans s4) e4 q4, fun A4 σ4 H4 ρ4 s4 e4 q4 => ⟨A4, ρ4, st2.trans s4, e4, q4⟩, en.rt, en.rf⟩
    · intro σ' H' ⟨A', ρ', st, e', q⟩
      rw [List.drop_length] at q
      exact en.nx A' σ' H' ρ' (Stp.trans (.ext (Y.G.ext g)) st) e' q⟩
theorem psd_while (hp : PassesOwn (model X.prog X.w) X.A X.env X.xe) (hc : PTd X Y c mt) (hb : PSsd X Y body t) : PSd X Y (.While c body [] pos) (sWhile mt t) :=
  ps_imp (ps_while hp hc hb) fun E σ H ⟨A, ρ, K, env, ex, ⟨n, h⟩, en⟩ => by
    refine ⟨fun m σ' H' => ∃ A' ρ', Stp A H A' H' ∧ EnvOk X.K Y A' H' σ' ρ' ∧ whN mt t m ρ' K, ⟨n, A, ρ, .refl, env, h⟩, fun m σ' H' ⟨A', ρ', st, e', q⟩ => ?_⟩
    cases m with
    | zero => exact q.elim
    | succ m =>
      refine ⟨A', ρ', _, _, e', ex, q, fun v H1 d g1 r1 h1 => ?_⟩
      cases r1
      have e1 := e'.step g1
      have s1 : Stp A H A' H1 := st.trans (.ext (Y.G.ext g1))
      cases v with
      | false => exact en.nx A' σ' H1 ρ' s1 e1 h1
      | true => exact ⟨fun σ2 H2 => ∃ A2 ρ2, Stp A H A2 H2 ∧ EnvOk X.K Y A2 H2 σ2 ρ2 ∧ whN mt t m ρ2 K, fun σ2 H2 z => ⟨m, Nat.lt_succ_self _, z⟩, A', ρ', { K with nx := fun ρ' => whN mt t m ρ' K, ct := fun ρ' => whN mt t m ρ' K, bk := K.nx }, e1, ex, h1,
          ⟨fun A4 σ4 H4 ρ4 s4 e4 q4 => ⟨A4, ρ4, s1.trans s4, e4, q4⟩, fun A4 σ4 H4 ρ4 s4 e4 q4 => en.nx A4 σ4 H4 ρ4 (s1.trans s4) e4 q4, fun A4 σ4 H4 ρ4 s4 e4 q4 => ⟨A4, ρ4, s1.trans s4, e4, q4⟩, en.rt, en.rf⟩⟩
end
end WL
namespace WL
open L2 PySem PySem.Spec
open LamX (ExtN)

/-! ### comprehensions -/
@[simp] def wipeD (ρ : DEnv) : List Nat → DEnv
  | [] => ρ
  | v :: vs => put (wipeD ρ vs) v none
theorem wipeD_length {ρ : DEnv} : ∀ vs, (wipeD ρ vs).length = ρ.length
  | [] => rfl
  | v :: vs => by
    show (put (wipeD ρ vs) v none).length = _
    rw [put_length, wipeD_length vs]
theorem look_wipeD {ρ : DEnv} {i : Nat} {s : Sl} : ∀ {vs : List Nat}, look (wipeD ρ vs) i = some s → look ρ i = some s ∧ i ∉ vs
  | [], h => ⟨h, List.not_mem_nil⟩
  | v :: vs, h => by
    by_cases e : i = v
    · subst e
      obtain ⟨q, _⟩ := look_put_eq (ρ := wipeD ρ vs) h
      cases q
    · have q : look (wipeD ρ vs) i = some s := (look_put_ne none (wipeD ρ vs) v i e).symm.trans h
      obtain ⟨q1, q2⟩ := look_wipeD q
      exact ⟨q1, fun z => (List.mem_cons.mp z).elim e q2⟩
theorem wipe_sub {σ : St} {vs : List Nat} : ∀ {us : List Nat}, (∀ i ∈ us, i ∈ vs) → wipe (wipe σ us) vs = wipe σ vs
  | [], _ => rfl
  | u :: us, h => by
    show wipe ((wipe σ us).set u none) vs = _
    rw [wipe_set (h u (List.mem_cons_self ..)), wipe_sub fun i hi => h i (List.mem_cons_of_mem _ hi)]
@[simp] def no : Xn → Prop := fun _ => False
@[simp] def lcGo (tg : Tg) (tt : EMt) (te : EM) (ρ0 : DEnv) : List D → List D → (List D → Prop) → Prop
  | [], acc, Q => Q acc
  | d :: r, acc, Q => bindT tg d ρ0 fun ρ' => tt ρ' (fun b => if b = true then te ρ' (fun y => lcGo tg tt te ρ0 r (acc ++ [y]) Q) no else lcGo tg tt te ρ0 r acc Q) no
@[simp ↓] def mYes (_ : DEnv) (Q : Bool → Prop) (_ : Xn → Prop) : Prop := Q true
@[simp ↓] def mLc (mi : EMs) (vs : List Nat) (tg : Tg) (tt : EMt) (te : EM) (ρ : DEnv) (Q : List D → Prop) (E : Xn → Prop) : Prop := mi ρ (fun ds => ds.length ≤ 100000 ∧ lcGo tg tt te (wipeD ρ vs) ds [] Q) E
def PTsd (X : Cx) (Y : Yx) (ifs : List Expr) (m : EMt) : Prop := PTs X ifs (liftG X Y rB m)
section
variable {K : PySem.W.Frag} {Y : Yx} {A : Addr → Prop} {H : Hp} {σ : St} {ρ : DEnv} {vs : List Nat}
theorem SlOk.at {σ' : St} {i : Nat} {s : Sl} (h : SlOk K Y A H σ i s) (e : σ'[i]? = σ[i]?) : SlOk K Y A H σ' i s := by
  cases s <;> (rw [SlOk, e]; exact h)
theorem EnvOk.wipe (e : EnvOk K Y A H σ ρ) : EnvOk K Y A H (L2.wipe σ vs) (wipeD ρ vs) := by
  refine ⟨e.go, e.a0, e.fr, e.aok, by rw [wipe_length, wipeD_length]; exact e.len, fun i s h => ?_, fun i j p s t h1 h2 i1 i2 e1 e2 => ?_⟩
  · obtain ⟨q1, q2⟩ := look_wipeD h
    exact (e.sl i s q1).at (wipe_out q2)
  · obtain ⟨q1, n1⟩ := look_wipeD h1
    obtain ⟨q2, n2⟩ := look_wipeD h2
    rw [wipe_out n1] at e1
    rw [wipe_out n2] at e2
    exact e.dist i j p s t q1 q2 i1 i2 e1 e2
theorem EnvOk.blk (e : EnvOk K Y A H σ ρ) : EnvOk K Y.blk A H σ ρ := ⟨e.go, e.a0, e.fr, e.aok, e.len, e.sl, e.dist⟩
theorem exOk_no : ExOk K Y no := fun _ _ _ _ h => h.elim
theorem aps_one {p : Addr} : Aps A [p] = Ap A p := funext fun a => propext (by simp [Aps, Ap])
end
theorem Cok.blk {k : Nat} {X : Cx} {Y : Yx} (c : Cok k X Y) {s : Shared} {H : Hp} {scope : Scope} {cenv : Env} {fp : List Addr} : Cok k (X.blk s H scope cenv fp) Y.blk := ⟨passL, c.calm, c.room, c.nd, takes0⟩
theorem rF.rp {K : PySem.W.Frag} {A : Addr → Prop} {H H' : Hp} {v : V} {ds : List D} (ok : AOk A H) (e : ExtN H H') (h : rF K A H H' v ds) : Rp K A H' v (.lst ds) := by
  obtain ⟨p, xs, rfl, n, hl, r⟩ := h
  have ok' := ok.ext e
  refine .lst hl (fun z => ?_) (r.move (ok'.own (.inl ⟨xs, hl⟩)) .refl fun a z => .inl (.inl z))
  rcases ok p z with ⟨ys, w⟩ | ⟨C, dx, fs, w⟩ <;> (obtain ⟨_, q⟩ := n _ w; cases q)
section
variable {X : Cx} {Y : Yx} {elt tgt iter c : Expr} {ifs : List Expr} {mi : EMs} {tg : Tg} {tt : EMt} {te : EM} {pos : Pos} {scope : Scope} {own : List (Str × Nat)}
theorem ptsd_nil : PTsd X Y [] mYes := ⟨fun pins s σ H Q I ⟨A, ρ, Qd, E, env, ex, hm, k⟩ => pts_nil.run pins s σ H Q I (k true H true (Y.G.refl H) rfl hm)⟩
theorem ptsd_one (h : PTd X Y c tt) : PTsd X Y [c] tt := pts_one h
theorem lc_imp {vs : List Nat} (hv : ∀ i ∈ tgv tg, i ∈ vs) {σ : St} {H : Hp} {Q : VK} (h : liftG X Y (rF X.K) (mLc mi vs tg tt te) σ H Q) : tLc (liftI X Y true mi) (liftT X Y.blk tg) (liftG X Y.blk rB tt) (liftG X Y.blk (rD X.K) te) vs σ H Q := by
  obtain ⟨A, ρ, Qd, E, env, ex, hm, k⟩ := h
  refine ⟨A, ρ, _, E, env, ex, hm, fun J H1 ds g ⟨G, Yl, w, hG, hY⟩ hq Dd hD => ?_⟩
  have ok := (env.step g).aok
  have nD : ∀ p ∈ [Dd], Nt H1 p := fun p hp => by rw [List.mem_singleton.mp hp]; exact Nt.of hD
  have gos : ∀ H', Y.G.r H1 H' → GoS true A H1 (Aps A [Dd]) H' := fun H' g' => ⟨⟨.ext (Y.G.ext g'), fun a z => z.elim .inl fun z => .inr (nD a z)⟩, fun _ => Y.G.ext g', ok⟩
  have envAt : ∀ H' xs, Y.G.r H1 H' → H' Dd = some (.lst xs) → EnvOk X.K Y (Aps A [Dd]) H' σ ρ := fun H' xs g' h' => (env.step g).grow g' nD fun p hp => ⟨xs, by rw [List.mem_singleton.mp hp]; exact h'⟩
  refine lc_it w (fun i H' => ∃ xs acc, H' Dd = some (.lst xs) ∧ Y.G.r H1 H' ∧ RpAll X.K (Aps A [Dd]) H' xs acc ∧ acc.length ≤ i ∧ lcGo tg tt te (wipeD ρ vs) (ds.drop i) acc Qd) ?_ ?_ ?_ ?_
  · exact ⟨[], [], upd_same, Y.G.same (upd_fresh_same hD), .nil, Nat.le_refl _, hq.2⟩
  · intro i H' _ ⟨xs, acc, _, g', _⟩
    exact hG _ H' (gos H' g')
  · intro i x H' H2 hi ⟨xs, acc, hl, g', r, la, q⟩ y
    have e' := envAt H' xs g' hl
    obtain ⟨g2, d, hd, rx⟩ := hY _ H' i x H2 (gos H' g') e'.aok hi y
    have dr : ds.drop i = d :: ds.drop (i + 1) := by
      obtain ⟨h1, h2⟩ := List.getElem?_eq_some_iff.mp hd
      rw [← h2]
      exact (List.drop_eq_getElem_cons h1)
    rw [dr] at q
    have e2 : EnvOk X.K Y.blk (Aps A [Dd]) H2 (wipe σ vs) (wipeD ρ vs) := ((e'.step g2).wipe).blk
    refine ⟨_, _, d, _, e2, rx, q, fun σ3 ρ3 e3 w3 q3 => ⟨(w3 vs hv).trans (wipe_sub fun _ z => z), _, ρ3, _, no, e3, exOk_no, q3, fun b H3 b' g3 eb h3 => ?_⟩⟩
    cases eb
    have g13 : Y.G.r H' H3 := Y.G.trans g2 g3
    cases b with
    | false => exact ⟨xs, acc, Y.G.ext g13 _ _ hl (fun _ z => nomatch z), Y.G.trans g' g13, r.ext e'.aok (Y.G.ext g13), Nat.le_succ_of_le la, h3⟩
    | true =>
      refine ⟨_, ρ3, _, no, e3.step g3, exOk_no, h3, fun v H4 d4 g4 r4 h4 => ?_⟩
      have g14 : Y.G.r H' H4 := Y.G.trans g13 g4
      have hl4 := Y.G.ext g14 _ _ hl (fun _ z => nomatch z)
      have r4' := r.ext e'.aok (Y.G.ext g14)
      have ok4 := e'.aok.ext (Y.G.ext g14)
      have kp : Keeps (Aps A [Dd]) H4 (upd H4 Dd (.lst (xs ++ [v]))) := keeps_upd (.inr (List.mem_singleton.mpr rfl))
      refine ⟨xs, hl4, ?_, xs ++ [v], acc ++ [d4], upd_same, Y.G.mutd (Y.G.trans g' g14) (Nt.of hD) (.inl ⟨xs, hl4⟩), (r4'.append (.cons r4 .nil)).move ok4 kp .refl, ?_, h4⟩
      · have l1 := r.length
        have l2 := hq.1
        exact Nat.lt_of_le_of_lt (m := 100000) (by omega) (by decide)
      · rw [List.length_append]
        exact Nat.succ_le_succ la
  · intro H' ⟨xs, acc, hl, g', r, la, q⟩
    rw [List.drop_length] at q
    exact k _ H' acc (Y.G.trans g g') ⟨Dd, xs, rfl, (Nt.of hD).back (Y.G.ext g), hl, by rw [← aps_one]; exact r⟩ q
theorem pf_lc (hc : X.calm = true) (hN : X.N.Nodup) (hi : PId X Y true tgt iter mi) (ok : BlkOk X.N X.env.scope scope own)
    (hg : ∀ (s : Shared) (H : Hp) (C : Addr) (cl : List (Str × Addr)) (fp : List Addr), PGd (X.blk s H scope (compEnvC scope cl C X.env) fp) Y.blk tgt tg)
    (ht : ∀ (s : Shared) (H : Hp) (C : Addr) (cl : List (Str × Addr)) (fp : List Addr), PTsd (X.blk s H scope (compEnvC scope cl C X.env) fp) Y.blk ifs tt)
    (he : ∀ (s : Shared) (H : Hp) (C : Addr) (cl : List (Str × Addr)) (fp : List Addr), PD (X.blk s H scope (compEnvC scope cl C X.env) fp) Y.blk elt te)
    (hv : ∀ i ∈ tgv tg, i ∈ own.map (·.2) := by decide) (hs : ∀ x, foldedSetIterable iter X.env x = pure x := by intro _; rfl) : PF X Y (.ListComp elt [⟨tgt, iter, ifs, 0⟩] scope pos) (mLc mi (own.map (·.2)) tg tt te) :=
  pe_imp (pe_lc (g := liftT X Y.blk tg) (tt := liftG X Y.blk rB tt) (te := liftG X Y.blk (rD X.K) te) hc hN hi ok hg ht he hs) fun σ H Q h => lc_imp hv h
variable {i : Nat} {y : Str} {py spos : Pos}
theorem psd_ownLc (hc : X.calm = true) (hN : X.N.Nodup) (hi : PId X Y true tgt iter mi) (ok : BlkOk X.N X.env.scope scope own)
    (hg : ∀ (s : Shared) (H : Hp) (C : Addr) (cl : List (Str × Addr)) (fp : List Addr), PGd (X.blk s H scope (compEnvC scope cl C X.env) fp) Y.blk tgt tg)
    (ht : ∀ (s : Shared) (H : Hp) (C : Addr) (cl : List (Str × Addr)) (fp : List Addr), PTsd (X.blk s H scope (compEnvC scope cl C X.env) fp) Y.blk ifs tt)
    (he : ∀ (s : Shared) (H : Hp) (C : Addr) (cl : List (Str × Addr)) (fp : List Addr), PD (X.blk s H scope (compEnvC scope cl C X.env) fp) Y.blk elt te)
    (hy : X.N[i]? = some y := by rfl) (hyl : X.env.scope.names.lookup y = some .local := by rfl)
    (hsw : swapsWith (.ListComp elt [⟨tgt, iter, ifs, 0⟩] scope pos) (some (.Name y py)) spos.line X.env = pure true := by exact sw_true rfl rfl rfl rfl)
    (hv : ∀ i ∈ tgv tg, i ∈ own.map (·.2) := by decide) (hs : ∀ x, foldedSetIterable iter X.env x = pure x := by intro _; rfl) :
    PSd X Y (.Assign [.Name y py] (.ListComp elt [⟨tgt, iter, ifs, 0⟩] scope pos) spos) (sOwn (mLc mi (own.map (·.2)) tg tt te) i) :=
  ps_imp (ps_setLc (g := liftT X Y.blk tg) (tt := liftG X Y.blk rB tt) (te := liftG X Y.blk (rD X.K) te) hc hN hy hyl hsw hi ok hg ht he hs) fun E σ H ⟨A, ρ, K, env, ex, h, en⟩ => lc_imp hv ⟨A, ρ, _, _, env, ex, h, fun v H1 d g1 ⟨p, xs, e1, n, hl, r⟩ h1 => by
    subst e1
    exact en.nx (Ap A p) _ H1 _ ⟨.ext (Y.G.ext g1), fun a z => z.elim .inl fun z => .inr (z ▸ n)⟩ (env.setOwn g1 n hl r) h1⟩
theorem psd_setLc (hc : X.calm = true) (hN : X.N.Nodup) (hi : PId X Y true tgt iter mi) (ok : BlkOk X.N X.env.scope scope own)
    (hg : ∀ (s : Shared) (H : Hp) (C : Addr) (cl : List (Str × Addr)) (fp : List Addr), PGd (X.blk s H scope (compEnvC scope cl C X.env) fp) Y.blk tgt tg)
    (ht : ∀ (s : Shared) (H : Hp) (C : Addr) (cl : List (Str × Addr)) (fp : List Addr), PTsd (X.blk s H scope (compEnvC scope cl C X.env) fp) Y.blk ifs tt)
    (he : ∀ (s : Shared) (H : Hp) (C : Addr) (cl : List (Str × Addr)) (fp : List Addr), PD (X.blk s H scope (compEnvC scope cl C X.env) fp) Y.blk elt te)
    (hy : X.N[i]? = some y := by rfl) (hyl : X.env.scope.names.lookup y = some .local := by rfl)
    (hsw : swapsWith (.ListComp elt [⟨tgt, iter, ifs, 0⟩] scope pos) (some (.Name y py)) spos.line X.env = pure true := by exact sw_true rfl rfl rfl rfl)
    (hv : ∀ i ∈ tgv tg, i ∈ own.map (·.2) := by decide) (hs : ∀ x, foldedSetIterable iter X.env x = pure x := by intro _; rfl) :
    PSd X Y (.Assign [.Name y py] (.ListComp elt [⟨tgt, iter, ifs, 0⟩] scope pos) spos) (sSet (mNew (mLc mi (own.map (·.2)) tg tt te)) i) :=
  ps_imp (ps_setLc (g := liftT X Y.blk tg) (tt := liftG X Y.blk rB tt) (te := liftG X Y.blk (rD X.K) te) hc hN hy hyl hsw hi ok hg ht he hs) fun E σ H ⟨A, ρ, K, env, ex, h, en⟩ => lc_imp hv ⟨A, ρ, _, _, env, ex, h, fun v H1 d g1 r h1 =>
    en.nx A _ H1 _ (.ext (Y.G.ext g1)) ((env.step g1).setDat (rF.rp env.aok (Y.G.ext g1) r)) h1⟩
end
end WL
namespace WL
open L2 PySem PySem.Spec
open LamX (ExtN)

/-! ### a def -/
@[simp] def startD (N : List Str) (ds : List D) : DEnv := ds.map (fun d => some (.dat d)) ++ List.replicate (N.length - ds.length) none
theorem look_append {a b : DEnv} {i : Nat} {s : Sl} : look (a ++ b) i = some s → (i < a.length ∧ look a i = some s) ∨ look b (i - a.length) = some s := by
  induction a generalizing i with
  | nil => intro h; exact .inr h
  | cons x r ih =>
    intro h
    cases i with
    | zero => exact .inl ⟨Nat.succ_pos _, h⟩
    | succ i =>
      rcases ih h with ⟨q1, q2⟩ | q
      · exact .inl ⟨Nat.succ_lt_succ q1, q2⟩
      · exact .inr (by simpa using q)
theorem look_none {n i : Nat} {s : Sl} : look (List.replicate n none) i = some s → False := by
  induction n generalizing i with
  | zero => intro h; cases h
  | succ n ih =>
    intro h
    rw [List.replicate_succ] at h
    cases i with
    | zero => cases h
    | succ i => exact ih h
theorem look_dats {ds : List D} {i : Nat} {s : Sl} (h : look (ds.map fun d => some (.dat d)) i = some s) : ∃ d, s = .dat d ∧ ds[i]? = some d := by
  induction ds generalizing i with
  | nil => cases h
  | cons d ds ih =>
    cases i with
    | zero => cases h; exact ⟨d, rfl, rfl⟩
    | succ i => obtain ⟨d', a, b⟩ := ih h; exact ⟨d', a, by simpa using b⟩
theorem envOk_start {K : PySem.W.Frag} {G : Gr} {A : Addr → Prop} {H : Hp} {ex : XK} {ob : Addr → Addr → Prop} {N : List Str} {vs : List V} {ds : List D} (ok : AOk A H) (r : RpAll K A H vs ds) : EnvOk K ⟨G, H, A, ex, ob⟩ A H (L2.start N vs) (startD N ds) := by
  have key : ∀ i s, look (startD N ds) i = some s → ∃ d, s = .dat d ∧ ds[i]? = some d := fun i s h => by
    rcases look_append h with ⟨_, q⟩ | q
    · exact look_dats q
    · exact (look_none q).elim
  refine ⟨G.refl H, fun a z => ⟨z, fun n => ?_⟩, fun a z => .inl z, ok, ?_, fun i s h => ?_, fun i j p s t h1 h2 i1 i2 e1 e2 => ?_⟩
  · rcases ok a z with ⟨ys, w⟩ | ⟨C, dx, fs, w⟩ <;> (obtain ⟨_, q⟩ := n _ w; cases q)
  · simp [L2.start, startD, r.length]
  · obtain ⟨d, rfl, h2⟩ := key i s h
    obtain ⟨v, h3, h4⟩ := r.get h2
    refine ⟨v, ?_, h4⟩
    have hi : i < vs.length := (List.getElem?_eq_some_iff.mp h3).1
    unfold L2.start
    rw [List.getElem?_append_left (by simpa using hi), List.getElem?_map, h3]
    rfl
  · obtain ⟨d, rfl, _⟩ := key i s h1
    cases i1
/-- what a def is to reach, by what is wanted of it -/
@[simp] def kt (Q : D → Prop) (E : Xn → Prop) : Kt := ⟨fun _ => Q .non, Q, fun ds => Q (.lst ds), fun _ => False, fun _ => False, E⟩
@[simp] def ktF (Q : List D → Prop) (E : Xn → Prop) : Kt := ⟨fun _ => False, fun _ => False, Q, fun _ => False, fun _ => False, E⟩
theorem Nt.nA {A : Addr → Prop} {H : Hp} {p : Addr} (n : Nt H p) (ok : AOk A H) : ¬ A p := fun z => by
  rcases ok p z with ⟨ys, w⟩ | ⟨C, dx, fs, w⟩ <;> (obtain ⟨_, q⟩ := n _ w; cases q)
/-- n arguments, a new list out -/
def spF (K : PySem.W.Frag) (n : Nat) (m : List D → (List D → Prop) → (Xn → Prop) → Prop) : Sp := fun vs H Q E => ∃ (A : Addr → Prop) (ds : List D) (Qd : List D → Prop) (Ed : Xn → Prop), AOk A H ∧ RpAll K A H vs ds ∧ ds.length = n ∧ m ds Qd Ed ∧
  (∀ ys v H', Qd ys → Same H H' → rF K A H H' v ys → Q v H') ∧ ∀ x cls dd H', Ed x → Same H H' → RpX K A H' cls dd x → E cls dd H'
structure FnAtF (P : Program) (w : World) (K : PySem.W.Frag) (mg : Str → Option Value) (base : Heap) (k : Nat) (x : Str) (n : Nat) (m : List D → (List D → Prop) → (Xn → Prop) → Prop) : Prop where
  ex : ∃ (f : Addr) (fd : FuncData) (ps : List Str), mg x = some (.ref f) ∧ PySem.W.keepIn K (.ref f) = true ∧ Binds K fd ps [] ∧ FnOk P w K mg base (L2.CX P w) k f fd ps (spF K n m)
section
variable {P : Program} {w : World} {K : PySem.W.Frag} {mg : Str → Option Value} {base : Heap} {x qual : Str} {params : Arguments} {body : List Stmt} {scope : Scope} {f : Addr} {fd : FuncData} {N ps : List Str} {k n : Nat}
/-- the context of a def's body stands well -/
theorem cok_def {cdv : Value} {A : Around} {outer : List Env} {s : Shared} {H : Hp} {E : XK} {A0 : Addr → Prop} {G : Gr} {ob : Addr → Addr → Prop} (hr : Room k (A.deeper (PyProof.Rows.envOfC qual scope s.heap.objs.size f cdv))) (hN : N.Nodup) :
    Cok k (cxOf (L2.CX P w) P w K mg base N qual scope f cdv A outer s H E) ⟨G, H, A0, E, ob⟩ :=
  ⟨passes_call (takes_of rfl rfl rfl rfl) fun _ _ _ _ h => h, rfl, hr, hN, takes_of rfl rfl rfl rfl⟩
theorem owns_def {cdv : Value} {A : Around} {outer : List Env} {s : Shared} {H : Hp} {E : XK} : PassesOwn (model P w) (cxOf (L2.CX P w) P w K mg base N qual scope f cdv A outer s H E).A (cxOf (L2.CX P w) P w K mg base N qual scope f cdv A outer s H E).env (cxOf (L2.CX P w) P w K mg base N qual scope f cdv A outer s H E).xe := passes_of (X := cxOf (L2.CX P w) P w K mg base N qual scope f cdv A outer s H E) rfl
theorem fnOk_of {m : List D → M} {t : SM} (F : FunD K x qual params body scope [] [] f fd) (S : FnScope N ps scope) (hn : ps.length = n)
    (hb : ∀ (cdv : Value) (A : Around) (outer : List Env) (s : Shared) (H : Hp) (E : XK) (Y : Yx), Cok k (cxOf (L2.CX P w) P w K mg base N qual scope f cdv A outer s H E) Y → PSsd (cxOf (L2.CX P w) P w K mg base N qual scope f cdv A outer s H E) Y body t)
    (hm : ∀ ds Q E, ds.length = n → m ds Q E → t (startD N ds) (kt Q E)) : FnOk P w K mg base (L2.CX P w) (k + 1) f fd ps (spD K n m) := by
  refine F.ok S (fun vs H Q E ⟨A, ds, _, _, _, r, l, _⟩ => by rw [r.length, l, hn]) fun cdv A outer s H vs Q E hr ⟨A0, ds, Qd, Ed, ok, r, l, hm', h1, h2⟩ => ?_
  refine ⟨_, hb cdv A outer s H E ⟨GrSame, H, A0, E, fun _ _ => False⟩ (cok_def hr S.nd), A0, startD N ds, kt Qd Ed, envOk_start ok r, ?_, hm ds Qd Ed l hm', ?_⟩
  · exact fun x cls dd H' z g r => h2 x cls dd H' z g r
  · exact ⟨fun A' σ' H' ρ' _ e q => h1 _ _ _ q e.go .non, fun _ _ _ _ _ _ q => q.elim, fun _ _ _ _ _ _ q => q.elim, fun v H' d g r q => h1 d v H' q g r,
      fun p H' xs ds g n hl r q => h1 _ _ _ q g (rF.rp ok (extN_same g) ⟨p, xs, rfl, n, hl, r⟩)⟩
theorem fnOkF_of {m : List D → (List D → Prop) → (Xn → Prop) → Prop} {t : SM} (F : FunD K x qual params body scope [] [] f fd) (S : FnScope N ps scope) (hn : ps.length = n)
    (hb : ∀ (cdv : Value) (A : Around) (outer : List Env) (s : Shared) (H : Hp) (E : XK) (Y : Yx), Cok k (cxOf (L2.CX P w) P w K mg base N qual scope f cdv A outer s H E) Y → PSsd (cxOf (L2.CX P w) P w K mg base N qual scope f cdv A outer s H E) Y body t)
    (hm : ∀ ds Q E, ds.length = n → m ds Q E → t (startD N ds) (ktF Q E)) : FnOk P w K mg base (L2.CX P w) (k + 1) f fd ps (spF K n m) := by
  refine F.ok S (fun vs H Q E ⟨A, ds, _, _, _, r, l, _⟩ => by rw [r.length, l, hn]) fun cdv A outer s H vs Q E hr ⟨A0, ds, Qd, Ed, ok, r, l, hm', h1, h2⟩ => ?_
  refine ⟨_, hb cdv A outer s H E ⟨GrSame, H, A0, E, fun _ _ => False⟩ (cok_def hr S.nd), A0, startD N ds, ktF Qd Ed, envOk_start ok r, ?_, hm ds Qd Ed l hm', ?_⟩
  · exact fun x cls dd H' z g r => h2 x cls dd H' z g r
  · exact ⟨fun A' σ' H' ρ' _ e q => q.elim, fun _ _ _ _ _ _ q => q.elim, fun _ _ _ _ _ _ q => q.elim, fun v H' d g r q => q.elim,
      fun p H' xs ds g n hl r q => h1 ds _ H' q g ⟨p, xs, rfl, n, hl, r⟩⟩
/-- a def of the module -/
theorem FnAt.of {m : List D → M} {t : SM} (F : FunD K x x params body scope [] [] f fd) (hg : mg x = some (.ref f)) (S : FnScope N ps scope) (hn : ps.length = n) (b : Binds K fd ps [])
    (hb : ∀ (cdv : Value) (A : Around) (outer : List Env) (s : Shared) (H : Hp) (E : XK) (Y : Yx), Cok k (cxOf (L2.CX P w) P w K mg base N x scope f cdv A outer s H E) Y → PSsd (cxOf (L2.CX P w) P w K mg base N x scope f cdv A outer s H E) Y body t)
    (hm : ∀ ds Q E, ds.length = n → m ds Q E → t (startD N ds) (kt Q E)) : FnAt P w K mg base (k + 1) x n m := ⟨f, fd, ps, hg, F.kp, b, fnOk_of F S hn hb hm⟩
theorem FnAtF.of {m : List D → (List D → Prop) → (Xn → Prop) → Prop} {t : SM} (F : FunD K x x params body scope [] [] f fd) (hg : mg x = some (.ref f)) (S : FnScope N ps scope) (hn : ps.length = n) (b : Binds K fd ps [])
    (hb : ∀ (cdv : Value) (A : Around) (outer : List Env) (s : Shared) (H : Hp) (E : XK) (Y : Yx), Cok k (cxOf (L2.CX P w) P w K mg base N x scope f cdv A outer s H E) Y → PSsd (cxOf (L2.CX P w) P w K mg base N x scope f cdv A outer s H E) Y body t)
    (hm : ∀ ds Q E, ds.length = n → m ds Q E → t (startD N ds) (ktF Q E)) : FnAtF P w K mg base (k + 1) x n m := ⟨f, fd, ps, hg, F.kp, b, fnOkF_of F S hn hb hm⟩
end
@[simp ↓] def mCallF (n : Nat) (m : List D → (List D → Prop) → (Xn → Prop) → Prop) (ms : EMs) (ρ : DEnv) (Q : List D → Prop) (E : Xn → Prop) : Prop := ms ρ (fun ds => ds.length = n ∧ m ds Q E) E
section
variable {X : Cx} {Y : Yx} {e : Expr} {es : List Expr} {ms : EMs} {p pos : Pos} {x : Str} {n k j : Nat} {m : List D → (List D → Prop) → (Xn → Prop) → Prop}
theorem pf_call (c : Cok k X Y) (F : FnAtF X.prog X.w X.K X.mg X.base j x n m) (ha : PAd X Y (e :: es) ms) (hj : j ≤ k := by decide) (hg : Gl X x := by rfl) (hdb : (x == ("__debug__" : Str)) = false := by decide)
    (he : starEach (e :: es) X.env = (false, eval e X.env) :: starEach es X.env := by rfl) (hpl : (backTo pos (starEach es X.env)).any (·.1) = false := by rfl) : PF X Y (.Call (.Name x p) (e :: es) [] pos) (mCallF n m ms) := by
  obtain ⟨f, fd, ps, h1, h2, h3, h4⟩ := F.ex
  refine pe_imp (pe_call h4 (c.room.mono hj) hg h1 h2 h3 .nil c.pass ha hdb he hpl) fun σ H Q ⟨A, ρ, Qd, E, env, ex, hm, k⟩ => ⟨A, ρ, _, E, env, ex, hm, fun vs H1 ds g1 r1 h1 => ?_⟩
  have env1 := env.step g1
  refine ⟨A, ds, Qd, E, env1.aok, by rw [List.append_nil]; exact r1, h1.1, h1.2, fun d v H' q s ⟨p, xs, e1, n1, hl, r⟩ => k v H' d (Y.G.trans g1 (Y.G.same s)) ⟨p, xs, e1, n1.back (Y.G.ext g1), hl, r⟩ q, fun x cls dd H' q s r => ?_⟩
  exact ex x cls dd H' q (Y.G.trans env1.go (Y.G.same s)) (r.weak (env1.aok.ext (extN_same s)) fun a z => (env.a0 a z).1)
end
end WL
namespace WL
open L2 PySem PySem.Spec
open LamX (ExtN)

/-! ### built-ins of one value -/
abbrev F1 := D → (D → Prop) → Prop
def c1Z (X : Cx) (Y : Yx) (F : F1) : List V → Hp → VK → Prop := fun xs H Q => ∃ (A : Addr → Prop) (x : V) (d : D) (Qd : D → Prop), xs = [x] ∧ AOk A H ∧ Rq X.K A H x d ∧ F d Qd ∧ ∀ v H' r, Y.G.r H H' → Rp X.K A H' v r → Qd r → Q v H'
def C1 (X : Cx) (Y : Yx) (f : Value) (F : F1) : Prop := CallR X f (c1Z X Y F)
abbrev FF := D → (List D → Prop) → Prop
def c1FZ (X : Cx) (Y : Yx) (F : FF) : List V → Hp → VK → Prop := fun xs H Q => ∃ (A : Addr → Prop) (x : V) (d : D) (Qd : List D → Prop), xs = [x] ∧ AOk A H ∧ Rq X.K A H x d ∧ F d Qd ∧ ∀ v H' r, Y.G.r H H' → rF X.K A H H' v r → Qd r → Q v H'
def C1F (X : Cx) (Y : Yx) (f : Value) (F : FF) : Prop := CallR X f (c1FZ X Y F)
def c2Z (X : Cx) (Y : Yx) (F : F2) : List V → Hp → VK → Prop := fun xs H Q => ∃ (A : Addr → Prop) (x y : V) (d e : D) (Qd : D → Prop), xs = [x, y] ∧ AOk A H ∧ Rq X.K A H x d ∧ Rq X.K A H y e ∧ F d e Qd ∧ ∀ v H' r, Y.G.r H H' → Rp X.K A H' v r → Qd r → Q v H'
def C2 (X : Cx) (Y : Yx) (f : Value) (F : F2) : Prop := CallR X f (c2Z X Y F)
@[simp ↓] def m1 (F : F1) (a : EM) (ρ : DEnv) (Q : D → Prop) (E : Xn → Prop) : Prop := a ρ (fun d => F d Q) E
@[simp ↓] def m1F (F : FF) (a : EM) (ρ : DEnv) (Q : List D → Prop) (E : Xn → Prop) : Prop := a ρ (fun d => F d Q) E
section
variable {X : Cx} {Y : Yx} {a b : Expr} {ma mb : EM} {F : F1} {FL : FF} {G : F2} {id T : String} {x : Str} {p pos : Pos}
theorem pd_b1 (hc : C1 X Y (.builtin id) F) (hm : X.mg x = none) (hv : bootBuiltins x = some (.builtin id)) (ha : PQ X Y a ma) (hg : Gl X x := by rfl) (hn : x ≠ "__name__" := by decide) (hdb : (x == ("__debug__" : Str)) = false := by decide)
    (he : starEach [a] X.env = (false, eval a X.env) :: starEach [] X.env := by rfl) (hpl : (backTo pos (starEach [] X.env)).any (·.1) = false := by rfl) : PD X Y (.Call (.Name x p) [a] [] pos) (m1 F ma) :=
  pe_imp (pe_callB hc hg hm hv (pa1q ha he) hn hdb he hpl) fun σ H Q ⟨A, ρ, Qd, E, env, ex, hm, k⟩ => ⟨A, ρ, _, E, env, ex, hm, fun vs H1 d g ⟨v, e, r⟩ q => ⟨A, v, d, Qd, e, (env.step g).aok, r, q, fun u H2 d2 g2 r2 q2 => k u H2 d2 (Y.G.trans g g2) r2 q2⟩⟩
theorem pd_t1 (hc : C1 X Y (.type T) F) (hm : X.mg x = none) (hv : bootBuiltins x = some (.type T)) (ha : PQ X Y a ma) (hg : Gl X x := by rfl) (hn : x ≠ "__name__" := by decide) (hdb : (x == ("__debug__" : Str)) = false := by decide)
    (he : starEach [a] X.env = (false, eval a X.env) :: starEach [] X.env := by rfl) (hpl : (backTo pos (starEach [] X.env)).any (·.1) = false := by rfl) : PD X Y (.Call (.Name x p) [a] [] pos) (m1 F ma) :=
  pe_imp (pe_callTy hc hg hm hv (pa1q ha he) hn hdb he hpl) fun σ H Q ⟨A, ρ, Qd, E, env, ex, hm, k⟩ => ⟨A, ρ, _, E, env, ex, hm, fun vs H1 d g ⟨v, e, r⟩ q => ⟨A, v, d, Qd, e, (env.step g).aok, r, q, fun u H2 d2 g2 r2 q2 => k u H2 d2 (Y.G.trans g g2) r2 q2⟩⟩
theorem rF.back {K : PySem.W.Frag} {A : Addr → Prop} {H H1 H2 : Hp} {v : V} {ds : List D} (e : ExtN H H1) (h : rF K A H1 H2 v ds) : rF K A H H2 v ds := by
  obtain ⟨p, xs, e1, n, hl, r⟩ := h
  exact ⟨p, xs, e1, n.back e, hl, r⟩
theorem pf_t1 (hc : C1F X Y (.type T) FL) (hm : X.mg x = none) (hv : bootBuiltins x = some (.type T)) (ha : PQ X Y a ma) (hg : Gl X x := by rfl) (hn : x ≠ "__name__" := by decide) (hdb : (x == ("__debug__" : Str)) = false := by decide)
    (he : starEach [a] X.env = (false, eval a X.env) :: starEach [] X.env := by rfl) (hpl : (backTo pos (starEach [] X.env)).any (·.1) = false := by rfl) : PF X Y (.Call (.Name x p) [a] [] pos) (m1F FL ma) :=
  pe_imp (pe_callTy hc hg hm hv (pa1q ha he) hn hdb he hpl) fun σ H Q ⟨A, ρ, Qd, E, env, ex, hm, k⟩ => ⟨A, ρ, _, E, env, ex, hm, fun vs H1 d g ⟨v, e, r⟩ q => ⟨A, v, d, Qd, e, (env.step g).aok, r, q, fun u H2 d2 g2 r2 q2 => k u H2 d2 (Y.G.trans g g2) (r2.back (Y.G.ext g)) q2⟩⟩
theorem pf_b1 (hc : C1F X Y (.builtin id) FL) (hm : X.mg x = none) (hv : bootBuiltins x = some (.builtin id)) (ha : PQ X Y a ma) (hg : Gl X x := by rfl) (hn : x ≠ "__name__" := by decide) (hdb : (x == ("__debug__" : Str)) = false := by decide)
    (he : starEach [a] X.env = (false, eval a X.env) :: starEach [] X.env := by rfl) (hpl : (backTo pos (starEach [] X.env)).any (·.1) = false := by rfl) : PF X Y (.Call (.Name x p) [a] [] pos) (m1F FL ma) :=
  pe_imp (pe_callB hc hg hm hv (pa1q ha he) hn hdb he hpl) fun σ H Q ⟨A, ρ, Qd, E, env, ex, hm, k⟩ => ⟨A, ρ, _, E, env, ex, hm, fun vs H1 d g ⟨v, e, r⟩ q => ⟨A, v, d, Qd, e, (env.step g).aok, r, q, fun u H2 d2 g2 r2 q2 => k u H2 d2 (Y.G.trans g g2) (r2.back (Y.G.ext g)) q2⟩⟩
theorem pd_b2 (hc : C2 X Y (.builtin id) G) (hm : X.mg x = none) (hv : bootBuiltins x = some (.builtin id)) (ha : PQ X Y a ma) (hb : PQ X Y b mb) (hg : Gl X x := by rfl) (hn : x ≠ "__name__" := by decide) (hdb : (x == ("__debug__" : Str)) = false := by decide)
    (he : starEach [a, b] X.env = (false, eval a X.env) :: starEach [b] X.env := by rfl) (he2 : starEach [b] X.env = (false, eval b X.env) :: starEach [] X.env := by rfl) (hpl : (backTo pos (starEach [b] X.env)).any (·.1) = false := by rfl) :
    PD X Y (.Call (.Name x p) [a, b] [] pos) (m2 G ma mb) :=
  pe_imp (pe_callB hc hg hm hv (pa2q ha hb he he2) hn hdb he hpl) fun σ H Q ⟨A, ρ, Qd, E, env, ex, hm, k⟩ => ⟨A, ρ, fun de => G de.1 de.2 Qd, E, env, ex, hm, fun vs H1 d g ⟨v, w, e, r, r2⟩ q => ⟨A, v, w, d.1, d.2, Qd, e, (env.step g).aok, r, r2, q, fun u H2 d2 g2 r2 q2 => k u H2 d2 (Y.G.trans g g2) r2 q2⟩⟩

/-! ### which -/
def lenM : F1
  | .lst ds, Q => Q (.int (ds.length : Nat))
  | .tup ds, Q => Q (.int (ds.length : Nat))
  | .str x, Q => x.length ≤ 1000 ∧ Q (.int (x.length : Nat))
  | _, _ => False
@[simp] theorem lenM_e1 {ds : List D} {Q : D → Prop} : lenM (.lst ds) Q = (Q (.int (ds.length : Nat))) := rfl
@[simp] theorem lenM_e2 {ds : List D} {Q : D → Prop} : lenM (.tup ds) Q = (Q (.int (ds.length : Nat))) := rfl
@[simp] theorem lenM_e3 {x : Str} {Q : D → Prop} : lenM (.str x) Q = (x.length ≤ 1000 ∧ Q (.int (x.length : Nat))) := rfl
theorem c1_len : C1 X Y (.builtin "len") lenM := by
  intro pins s σ H xs us Q I rx ⟨A, x, d, Qd, e, ok, r, f, k⟩
  subst e
  cases r with
  | lst h r => exact call_len_seq pins s σ H _ us Q I rx ⟨_, _, rfl, .inl (SqL.of h), by rw [r.length]; exact k _ _ _ (Y.G.refl _) (.int _) f⟩
  | tup h r => exact call_len_seq pins s σ H _ us Q I rx ⟨_, _, rfl, .inr h, by rw [r.length]; exact k _ _ _ (Y.G.refl _) (.int _) f⟩
  | str x => exact call_len_str pins s σ H _ us Q I rx ⟨_, rfl, small f.1, k _ _ _ (Y.G.refl _) (.int _) f.2⟩
  | _ => exact f.elim
def intM : F1
  | .int i, Q => Q (.int i)
  | .bl b, Q => Q (.int (if b = true then 1 else 0))
  | _, _ => False
@[simp] theorem intM_e1 {i : Int} {Q : D → Prop} : intM (.int i) Q = (Q (.int i)) := rfl
@[simp] theorem intM_e2 {b : Bool} {Q : D → Prop} : intM (.bl b) Q = (Q (.int (if b = true then 1 else 0))) := rfl
theorem c1_int : C1 X Y (.type "int") intM := by
  intro pins s σ H xs us Q I rx ⟨A, x, d, Qd, e, ok, r, f, k⟩
  subst e
  cases r with
  | int i => exact call_int1 pins s σ H _ us Q I rx (.inl ⟨_, rfl, k _ _ _ (Y.G.refl _) (.int _) f⟩)
  | bl b => exact call_int1 pins s σ H _ us Q I rx (.inr ⟨_, rfl, k _ _ _ (Y.G.refl _) (.int _) f⟩)
  | _ => exact f.elim
def strM : F1
  | .int i, Q => i.natAbs.log2 < 1920 ∧ Q (.str (toString i))
  | _, _ => False
@[simp] theorem strM_e1 {i : Int} {Q : D → Prop} : strM (.int i) Q = (i.natAbs.log2 < 1920 ∧ Q (.str (toString i))) := rfl
theorem c1_str : C1 X Y (.type "str") strM := by
  intro pins s σ H xs us Q I rx ⟨A, x, d, Qd, e, ok, r, f, k⟩
  subst e
  cases r with
  | int i => exact call_str_int pins s σ H _ us Q I rx ⟨_, rfl, f.1, k _ _ _ (Y.G.refl _) (.str _) f.2⟩
  | _ => exact f.elim
def absM : F1
  | .int i, Q => Q (.int (if i < 0 then -i else i))
  | _, _ => False
@[simp] theorem absM_e1 {i : Int} {Q : D → Prop} : absM (.int i) Q = (Q (.int (if i < 0 then -i else i))) := rfl
theorem c1_abs : C1 X Y (.builtin "abs") absM := by
  intro pins s σ H xs us Q I rx ⟨A, x, d, Qd, e, ok, r, f, k⟩
  subst e
  cases r with
  | int i => exact call_abs pins s σ H _ us Q I rx ⟨_, rfl, k _ _ _ (Y.G.refl _) (.int _) f⟩
  | _ => exact f.elim
def tupM : F1
  | .lst ds, Q => Q (.tup ds)
  | .tup ds, Q => Q (.tup ds)
  | _, _ => False
@[simp] theorem tupM_e1 {ds : List D} {Q : D → Prop} : tupM (.lst ds) Q = (Q (.tup ds)) := rfl
@[simp] theorem tupM_e2 {ds : List D} {Q : D → Prop} : tupM (.tup ds) Q = (Q (.tup ds)) := rfl
theorem c1_tup : C1 X Y (.type "tuple") tupM := by
  intro pins s σ H xs us Q I rx ⟨A, x, d, Qd, e, ok, r, f, k⟩
  subst e
  cases r with
  | lst h r => exact call_tuple_of pins s σ H _ us Q I rx ⟨_, _, rfl, .inl ⟨SqL.of h, fun l hl => k _ _ _ (Y.G.same (upd_fresh_same hl)) (Rp.newT ok hl r) f⟩⟩
  | tup h r => exact call_tuple_of pins s σ H _ us Q I rx ⟨_, _, rfl, .inr ⟨h, k _ _ _ (Y.G.refl _) (.tup h r) f⟩⟩
  | _ => exact f.elim
/-- a tuple that is known to have no dict -/
def tpnM : F1
  | .lst ds, Q => Q (.tpn ds)
  | _, _ => False
@[simp] theorem tpnM_e1 {ds : List D} {Q : D → Prop} : tpnM (.lst ds) Q = (Q (.tpn ds)) := rfl
theorem c1_tpn : C1 X Y (.type "tuple") tpnM := by
  intro pins s σ H xs us Q I rx ⟨A, x, d, Qd, e, ok, r, f, k⟩
  subst e
  cases r with
  | @lst p ys ds h r =>
    obtain ⟨u, rfl, ru⟩ := vals1 rx
    cases ru
    obtain ⟨its, rv, pl, hz⟩ := I.list (SqL.of h)
    have hlen := rv.length
    refine call_tuple_list pl.isList (fun h' kp => ?_) (by rw [List.size_toArray]; omega)
    have I1 : Inv X pins σ H { s with heap := h' } := I.kept (t' := s.toks) kp
    have hn : H h'.objs.size = none := I1.hok.fresh (Nat.le_refl _)
    have st : (h'.push { cls := .type "tuple", data := .seq its.toArray }).get? h'.objs.size = some { cls := .type "tuple", data := .seq its.toArray } := Heap.get?_push_size _ rfl
    have I2 : Inv X pins σ (upd H h'.objs.size (.frz { cls := .type "tuple", data := .seq its.toArray } (.tup ys))) { s with heap := h'.push { cls := .type "tuple", data := .seq its.toArray } } :=
      I1.laid (t' := s.toks) (fun b o e => Heap.get?_push_of_some _ e) (Nat.le_refl _) (show ObjOk X.prog X.w _ _ _ (.frz _ (.tup ys)) from ⟨st, hz, its, rv, _, st, rfl, _, rfl⟩)
    have g := Y.G.same (upd_fresh_same (o := .frz { cls := .type "tuple", data := .seq its.toArray } (.tup ys)) hn)
    exact ⟨.ref h'.objs.size, _, I2, rfl, k _ _ _ g (.tpn (.inl ⟨_, rfl, upd_same⟩) (r.ext ok (Y.G.ext g))) f⟩
  | _ => exact f.elim
def lstM : FF
  | .lst ds, Q => Q ds
  | .tup ds, Q => Q ds
  | _, _ => False
@[simp] theorem lstM_e1 {ds : List D} {Q : List D → Prop} : lstM (.lst ds) Q = (Q ds) := rfl
@[simp] theorem lstM_e2 {ds : List D} {Q : List D → Prop} : lstM (.tup ds) Q = (Q ds) := rfl
theorem rF_new {K : PySem.W.Frag} {A : Addr → Prop} {H : Hp} {l : Addr} {xs : List V} {ds : List D} (ok : AOk A H) (hl : H l = none) (r : RpAll K A H xs ds) : rF K A H (upd H l (.lst xs)) (.ref l) ds :=
  ⟨l, xs, rfl, Nt.of hl, upd_same, r.move ok (.ext (extN_same (upd_fresh_same hl))) fun a z => z.elim .inl fun z => .inr (z ▸ Nt.of hl)⟩
theorem c1_list : C1F X Y (.type "list") lstM := by
  intro pins s σ H xs us Q I rx ⟨A, x, d, Qd, e, ok, r, f, k⟩
  subst e
  cases r with
  | lst h r => exact call_list_of pins s σ H _ us Q I rx ⟨_, _, rfl, .inl (SqL.of h), fun l hl => k _ _ _ (Y.G.same (upd_fresh_same hl)) (rF_new ok hl r) f⟩
  | tup h r => exact call_list_of pins s σ H _ us Q I rx ⟨_, _, rfl, .inr h, fun l hl => k _ _ _ (Y.G.same (upd_fresh_same hl)) (rF_new ok hl r) f⟩
  | _ => exact f.elim
/-- all ints -/
def intsOf : List D → Option (List Int)
  | [] => some []
  | .int i :: r => (intsOf r).map (i :: ·)
  | _ :: _ => none
def blsOf : List D → Option (List Bool)
  | [] => some []
  | .bl i :: r => (blsOf r).map (i :: ·)
  | _ :: _ => none
theorem intsOf_eq : ∀ {ds : List D} {ns : List Int}, intsOf ds = some ns → ds = ns.map D.int
  | [], _, h => by cases h; rfl
  | .int i :: r, ns, h => by
    rw [intsOf] at h
    cases q : intsOf r with
    | none => rw [q] at h; cases h
    | some ms => rw [q] at h; cases h; rw [intsOf_eq q]; rfl
theorem intsOf_map (ns : List Int) : intsOf (ns.map D.int) = some ns := by
  induction ns with
  | nil => rfl
  | cons n ns ih => rw [List.map_cons, intsOf, ih]; rfl
theorem blsOf_eq : ∀ {ds : List D} {ns : List Bool}, blsOf ds = some ns → ds = ns.map D.bl
  | [], _, h => by cases h; rfl
  | .bl i :: r, ns, h => by
    rw [blsOf] at h
    cases q : blsOf r with
    | none => rw [q] at h; cases h
    | some ms => rw [q] at h; cases h; rw [blsOf_eq q]; rfl
theorem blsOf_map (ns : List Bool) : blsOf (ns.map D.bl) = some ns := by
  induction ns with
  | nil => rfl
  | cons n ns ih => rw [List.map_cons, blsOf, ih]; rfl
def sumM : F1
  | .lst ds, Q => optQ (intsOf ds) fun ns => Q (.int ns.sum)
  | _, _ => False
@[simp] theorem sumM_e1 {ds : List D} {Q : D → Prop} : sumM (.lst ds) Q = (optQ (intsOf ds) fun ns => Q (.int ns.sum)) := rfl
theorem optQ_some {α : Type} {o : Option α} {Q : α → Prop} (h : optQ o Q) : ∃ a, o = some a ∧ Q a := by
  cases o with
  | none => exact h.elim
  | some a => exact ⟨a, rfl, h⟩
theorem c1_sum (hc : X.calm = true) : C1 X Y (.builtin "sum") sumM := by
  intro pins s σ H xs us Q I rx ⟨A, x, d, Qd, e, ok, r, f, k⟩
  subst e
  cases r with
  | lst h r =>
    obtain ⟨ns, e1, f2⟩ := optQ_some f
    cases intsOf_eq e1
    exact cr_sum hc pins s σ H _ us Q I rx ⟨_, ns, rfl, by rw [← r.ofInts]; exact SqL.of h, k _ _ _ (Y.G.refl _) (.int _) f2⟩
  | _ => exact f.elim
def allM : F1
  | .lst ds, Q => optQ (blsOf ds) fun bs => Q (.bl (bs.all fun b => b))
  | _, _ => False
@[simp] theorem allM_e1 {ds : List D} {Q : D → Prop} : allM (.lst ds) Q = (optQ (blsOf ds) fun bs => Q (.bl (bs.all fun b => b))) := rfl
def anyM : F1
  | .lst ds, Q => optQ (blsOf ds) fun bs => Q (.bl (bs.any fun b => b))
  | _, _ => False
@[simp] theorem anyM_e1 {ds : List D} {Q : D → Prop} : anyM (.lst ds) Q = (optQ (blsOf ds) fun bs => Q (.bl (bs.any fun b => b))) := rfl
theorem c1_all (hc : X.calm = true) : C1 X Y (.builtin "all") allM := by
  intro pins s σ H xs us Q I rx ⟨A, x, d, Qd, e, ok, r, f, k⟩
  subst e
  cases r with
  | lst h r =>
    obtain ⟨ns, e1, f2⟩ := optQ_some f
    cases blsOf_eq e1
    exact cr_all hc pins s σ H _ us Q I rx ⟨_, ns, rfl, by rw [← r.ofBls]; exact SqL.of h, k _ _ _ (Y.G.refl _) (.bl _) f2⟩
  | _ => exact f.elim
theorem c1_any (hc : X.calm = true) : C1 X Y (.builtin "any") anyM := by
  intro pins s σ H xs us Q I rx ⟨A, x, d, Qd, e, ok, r, f, k⟩
  subst e
  cases r with
  | lst h r =>
    obtain ⟨ns, e1, f2⟩ := optQ_some f
    cases blsOf_eq e1
    exact cr_any hc pins s σ H _ us Q I rx ⟨_, ns, rfl, by rw [← r.ofBls]; exact SqL.of h, k _ _ _ (Y.G.refl _) (.bl _) f2⟩
  | _ => exact f.elim
def maxM : F1
  | .lst ds, Q => optQ (intsOf ds) fun ns => 0 < ns.length ∧ ∀ m, m ∈ ns → (∀ y, y ∈ ns → y ≤ m) → Q (.int m)
  | _, _ => False
@[simp] theorem maxM_e1 {ds : List D} {Q : D → Prop} : maxM (.lst ds) Q = (optQ (intsOf ds) fun ns => 0 < ns.length ∧ ∀ m, m ∈ ns → (∀ y, y ∈ ns → y ≤ m) → Q (.int m)) := rfl
def minM : F1
  | .lst ds, Q => optQ (intsOf ds) fun ns => 0 < ns.length ∧ ∀ m, m ∈ ns → (∀ y, y ∈ ns → m ≤ y) → Q (.int m)
  | _, _ => False
@[simp] theorem minM_e1 {ds : List D} {Q : D → Prop} : minM (.lst ds) Q = (optQ (intsOf ds) fun ns => 0 < ns.length ∧ ∀ m, m ∈ ns → (∀ y, y ∈ ns → m ≤ y) → Q (.int m)) := rfl
theorem c1_max (hc : X.calm = true) : C1 X Y (.builtin "max") maxM := by
  intro pins s σ H xs us Q I rx ⟨A, x, d, Qd, e, ok, r, f, k⟩
  subst e
  cases r with
  | lst h r =>
    obtain ⟨ns, e1, f2⟩ := optQ_some f
    cases intsOf_eq e1
    exact cr_max hc pins s σ H _ us Q I rx ⟨_, ns, rfl, by rw [← r.ofInts]; exact SqL.of h, f2.1, fun m h1 h2 => k _ _ _ (Y.G.refl _) (.int _) (f2.2 m h1 h2)⟩
  | _ => exact f.elim
theorem c1_min (hc : X.calm = true) : C1 X Y (.builtin "min") minM := by
  intro pins s σ H xs us Q I rx ⟨A, x, d, Qd, e, ok, r, f, k⟩
  subst e
  cases r with
  | lst h r =>
    obtain ⟨ns, e1, f2⟩ := optQ_some f
    cases intsOf_eq e1
    exact cr_min hc pins s σ H _ us Q I rx ⟨_, ns, rfl, by rw [← r.ofInts]; exact SqL.of h, f2.1, fun m h1 h2 => k _ _ _ (Y.G.refl _) (.int _) (f2.2 m h1 h2)⟩
  | _ => exact f.elim
def max2M : F2
  | .int i, .int j, Q => Q (.int (if j > i then j else i))
  | _, _, _ => False
@[simp] theorem max2M_e1 {i : Int} {j : Int} {Q : D → Prop} : max2M (.int i) (.int j) Q = (Q (.int (if j > i then j else i))) := rfl
def min2M : F2
  | .int i, .int j, Q => Q (.int (if j < i then j else i))
  | _, _, _ => False
@[simp] theorem min2M_e1 {i : Int} {j : Int} {Q : D → Prop} : min2M (.int i) (.int j) Q = (Q (.int (if j < i then j else i))) := rfl
theorem c2_max (hc : X.calm = true) : C2 X Y (.builtin "max") max2M := by
  intro pins s σ H xs us Q I rx ⟨A, x, y, d, e, Qd, h, ok, r, r2, f, k⟩
  subst h
  cases r <;> cases r2 <;> (try exact f.elim)
  exact call_max2 hc pins s σ H _ us Q I rx ⟨_, _, rfl, k _ _ _ (Y.G.refl _) (.int _) f⟩
theorem c2_min (hc : X.calm = true) : C2 X Y (.builtin "min") min2M := by
  intro pins s σ H xs us Q I rx ⟨A, x, y, d, e, Qd, h, ok, r, r2, f, k⟩
  subst h
  cases r <;> cases r2 <;> (try exact f.elim)
  exact call_min2 hc pins s σ H _ us Q I rx ⟨_, _, rfl, k _ _ _ (Y.G.refl _) (.int _) f⟩
end
end WL
namespace WL
open L2 PySem PySem.Spec
open LamX (ExtN)

/-! ### isinstance -/
def tyN : D → String
  | .non => "NoneType"
  | .bl _ => "bool"
  | .int _ => "int"
  | .str _ => "str"
  | .tup _ => "tuple"
  | .tpn _ => "tuple"
  | .lst _ => "list"
  | .dic _ _ => "dict"
  | _ => ""
/-- of the class, as told by the class's name -/
def isTy (T : String) : D → Bool
  | .ins _ _ _ => false
  | .bl _ => T == "bool" || T == "int"
  | d => tyN d == T
def tyOk (K : PySem.W.Frag) (T : String) : D → Prop
  | .ins C _ _ => C8.InsC K C ∧ PySem.W.kitOne K (.ref C) (.type T) = some false
  | .row => False
  | .adr _ => False
  | _ => True
@[simp] theorem isTy_non (T : String)  : isTy T .non = ("NoneType" == T) := rfl
@[simp] theorem tyOk_non (K : PySem.W.Frag) (T : String)  : tyOk K T .non = True := rfl
@[simp] theorem isTy_int (T : String) (i : Int) : isTy T (.int i) = ("int" == T) := rfl
@[simp] theorem tyOk_int (K : PySem.W.Frag) (T : String) (i : Int) : tyOk K T (.int i) = True := rfl
@[simp] theorem isTy_str (T : String) (x : Str) : isTy T (.str x) = ("str" == T) := rfl
@[simp] theorem tyOk_str (K : PySem.W.Frag) (T : String) (x : Str) : tyOk K T (.str x) = True := rfl
@[simp] theorem isTy_tup (T : String) (xs : List D) : isTy T (.tup xs) = ("tuple" == T) := rfl
@[simp] theorem tyOk_tup (K : PySem.W.Frag) (T : String) (xs : List D) : tyOk K T (.tup xs) = True := rfl
@[simp] theorem isTy_tpn (T : String) (xs : List D) : isTy T (.tpn xs) = ("tuple" == T) := rfl
@[simp] theorem tyOk_tpn (K : PySem.W.Frag) (T : String) (xs : List D) : tyOk K T (.tpn xs) = True := rfl
@[simp] theorem isTy_lst (T : String) (xs : List D) : isTy T (.lst xs) = ("list" == T) := rfl
@[simp] theorem tyOk_lst (K : PySem.W.Frag) (T : String) (xs : List D) : tyOk K T (.lst xs) = True := rfl
@[simp] theorem isTy_dic (T : String) (ks : List Key) (xs : List D) : isTy T (.dic ks xs) = ("dict" == T) := rfl
@[simp] theorem tyOk_dic (K : PySem.W.Frag) (T : String) (ks : List Key) (xs : List D) : tyOk K T (.dic ks xs) = True := rfl
@[simp] theorem isTy_bl (T : String) (b : Bool) : isTy T (.bl b) = (T == "bool" || T == "int") := rfl
@[simp] theorem tyOk_bl (K : PySem.W.Frag) (T : String) (b : Bool) : tyOk K T (.bl b) = True := rfl
@[simp] theorem isTy_ins (T : String) (C : Addr) (ks : List Str) (ds : List D) : isTy T (.ins C ks ds) = false := rfl
@[simp] def isTyM (K : PySem.W.Frag) (T : String) (d : D) (Q : Bool → Prop) : Prop := tyOk K T d ∧ Q (isTy T d)
@[simp] def isTysM (K : PySem.W.Frag) (Ts : List String) (d : D) (Q : Bool → Prop) : Prop := (∀ T ∈ Ts, tyOk K T d) ∧ Q (Ts.any fun T => isTy T d)
/-- an own class -/
@[simp] def isOwnM (C : Addr) : D → (Bool → Prop) → Prop
  | .ins C' _ _, Q => C' = C ∧ Q true
  | .row, _ => False
  | .adr _, _ => False
  | _, Q => Q false
@[simp ↓] def mB1 (F : D → (Bool → Prop) → Prop) (a : EM) (ρ : DEnv) (Q : D → Prop) (E : Xn → Prop) : Prop := a ρ (fun d => F d fun b => Q (.bl b)) E
/-- the built-in classes that are asked for -/
def tyKnown : List String := ["int", "bool", "str", "tuple", "list", "dict"]
def kitT (T : String) : Bool := decide (kitB "NoneType" T = some (isTy T .non)) && decide (kitB "bool" T = some (isTy T (.bl true))) && decide (kitB "int" T = some (isTy T (.int 0))) && decide (kitB "str" T = some (isTy T (.str ""))) && decide (kitB "tuple" T = some (isTy T (.tup []))) && decide (kitB "list" T = some (isTy T (.lst []))) && decide (kitB "dict" T = some (isTy T (.dic [] [])))
section
variable {X : Cx} {Y : Yx} {A : Addr → Prop} {H : Hp} {v : V} {d : D}
theorem sqT_ty {K : PySem.W.Frag} {a : Addr} {xs : List V} (h : SqT K H a xs) : TyX K H (.ref a) (.type "tuple") := by
  rcases h with (h | ⟨o, h⟩) | ⟨o, _, _, h, c, _⟩
  · exact .base (.tup h)
  · exact .fTuple h
  · exact .kTuple h c
theorem tyX_of {K : PySem.W.Frag} (r : Rq K A H v d) (hr : d ≠ .row) : (∃ T, tyOk K T d) → ∃ t, TyX K H v t ∧ ∀ T, kitT T = true → tyOk K T d → PySem.W.kitOne K t (.type T) = some (isTy T d) := by
  rintro ⟨T0, ok0⟩
  have key : ∀ T, kitT T = true → kitB "NoneType" T = some (isTy T .non) ∧ kitB "bool" T = some (isTy T (.bl true)) ∧ kitB "int" T = some (isTy T (.int 0)) ∧ kitB "str" T = some (isTy T (.str "")) ∧ kitB "tuple" T = some (isTy T (.tup [])) ∧ kitB "list" T = some (isTy T (.lst [])) ∧ kitB "dict" T = some (isTy T (.dic [] [])) := fun T ht => by
    unfold kitT at ht
    simp only [Bool.and_eq_true, decide_eq_true_eq] at ht
    obtain ⟨⟨⟨⟨⟨⟨h1, h2⟩, h3⟩, h4⟩, h5⟩, h6⟩, h7⟩ := ht
    exact ⟨h1, h2, h3, h4, h5, h6, h7⟩
  cases r with
  | non => exact ⟨_, .base .non, fun T ht _ => kit_ty (key T ht).1⟩
  | bl b => exact ⟨_, .base (.bl b), fun T ht _ => kit_ty (key T ht).2.1⟩
  | int i => exact ⟨_, .base (.int i), fun T ht _ => kit_ty (key T ht).2.2.1⟩
  | str x => exact ⟨_, .base (.str x), fun T ht _ => kit_ty (key T ht).2.2.2.1⟩
  | tup h r => exact ⟨_, sqT_ty h, fun T ht _ => kit_ty (key T ht).2.2.2.2.1⟩
  | tpn h r => exact ⟨_, sqT_ty h.seq, fun T ht _ => kit_ty (key T ht).2.2.2.2.1⟩
  | lst h r => exact ⟨_, .base (.lst h), fun T ht _ => kit_ty (key T ht).2.2.2.2.2.1⟩
  | dic h _ r => exact ⟨_, .base (.dK h), fun T ht _ => kit_ty (key T ht).2.2.2.2.2.2⟩
  | ins h _ r => exact ⟨_, .base (.ins h ok0.1.cl ok0.1.ha ok0.1.hn ok0.1.htk ok0.1.hm), fun T ht ok => ok.2⟩
  | row _ _ => exact (hr rfl).elim
  | adr _ => exact ok0.elim
theorem tyOk_nr {K : PySem.W.Frag} {T : String} (h : tyOk K T d) : d ≠ .row := fun e => by subst e; exact h
theorem kitAny_of {K : PySem.W.Frag} {t : Value} {f : String → Bool} : ∀ {Ts : List String}, (∀ T ∈ Ts, PySem.W.kitOne K t (.type T) = some (f T)) → PySem.W.kitAny K t (Ts.map Value.type) = some (Ts.any f)
  | [], _ => rfl
  | T :: Ts, h => by
    rw [List.map_cons, List.any_cons]
    refine kitAny_cons (h T (List.mem_cons_self ..)) (fun e => ?_) fun e => ?_
    · rw [e, Bool.false_or]
      exact kitAny_of fun T hT => h T (List.mem_cons_of_mem _ hT)
    · rw [e, Bool.true_or]
variable {a : Expr} {ma : EM} {T T2 : String} {x x2 : Str} {p pos q q2 tpos : Pos} {C : Addr}
theorem pd_isi (hm : X.mg "isinstance" = none) (hmT : X.mg x = none) (ha : PQ X Y a ma) (hbT : bootBuiltins x = some (.type T) := by decide +kernel) (hg : Gl X "isinstance" := by rfl) (hgT : Gl X x := by rfl) (ht : kitT T = true := by decide +kernel)
    (hnT : x ≠ "__name__" := by decide) (hdT : (x == ("__debug__" : Str)) = false := by decide)
    (he : starEach [a, .Name x q] X.env = (false, eval a X.env) :: starEach [.Name x q] X.env := by rfl) (he2 : starEach [.Name x q] X.env = (false, eval (.Name x q) X.env) :: starEach [] X.env := by rfl)
    (hpl : (backTo pos (starEach [.Name x q] X.env)).any (·.1) = false := by rfl) : PD X Y (.Call (.Name "isinstance" p) [a, .Name x q] [] pos) (mB1 (isTyM X.K T) ma) :=
  pe_imp (pe_callB call_isi hg hm PyProof.Rows.boot_isinstance (pa_cons ha (pa_cons (pe_bltn (v := .ty T) hgT hmT hbT rfl hnT hdT) pa_nil he2) he) (by decide) (by decide) he hpl) fun σ H Q ⟨A, ρ, Qd, E, env, ex, hm, k⟩ => ⟨A, ρ, _, E, env, ex, hm, fun v H1 d g r f => by
    obtain ⟨t, h1, h2⟩ := tyX_of r (tyOk_nr f.1) ⟨_, f.1⟩
    exact ⟨v, .ty T, t, .type T, isTy T d, rfl, .ty T, h1, h2 T ht f.1, k _ _ _ g (.bl _) f.2⟩⟩
theorem pd_isi2 {kk : Nat} (hm : X.mg "isinstance" = none) (hmT : X.mg x = none) (hmT2 : X.mg x2 = none) (ha : PQ X Y a ma) (hbT : bootBuiltins x = some (.type T) := by decide +kernel) (hbT2 : bootBuiltins x2 = some (.type T2) := by decide +kernel) (hg : Gl X "isinstance" := by rfl) (hgT : Gl X x := by rfl) (hgT2 : Gl X x2 := by rfl)
    (ht : kitT T = true := by decide +kernel) (ht2 : kitT T2 = true := by decide +kernel) (hnT : x ≠ "__name__" := by decide) (hdT : (x == ("__debug__" : Str)) = false := by decide) (hnT2 : x2 ≠ "__name__" := by decide) (hdT2 : (x2 == ("__debug__" : Str)) = false := by decide)
    (he : starEach [a, .Tuple [.Name x q, .Name x2 q2] kk tpos] X.env = (false, eval a X.env) :: starEach [.Tuple [.Name x q, .Name x2 q2] kk tpos] X.env := by rfl)
    (he2 : starEach [.Tuple [.Name x q, .Name x2 q2] kk tpos] X.env = (false, eval (.Tuple [.Name x q, .Name x2 q2] kk tpos) X.env) :: starEach [] X.env := by rfl)
    (he3 : starEach [.Name x q, .Name x2 q2] X.env = (false, eval (.Name x q) X.env) :: starEach [.Name x2 q2] X.env := by rfl) (he4 : starEach [.Name x2 q2] X.env = (false, eval (.Name x2 q2) X.env) :: starEach [] X.env := by rfl)
    (hpl : (backTo pos (starEach [.Tuple [.Name x q, .Name x2 q2] kk tpos] X.env)).any (·.1) = false := by rfl) : PD X Y (.Call (.Name "isinstance" p) [a, .Tuple [.Name x q, .Name x2 q2] kk tpos] [] pos) (mB1 (isTysM X.K [T, T2]) ma) :=
  pe_imp (pe_callB call_isiT hg hm PyProof.Rows.boot_isinstance (pa_cons ha (pa_cons (pe_tup (pa_cons (pe_bltn (v := .ty T) hgT hmT hbT rfl hnT hdT) (pa_cons (pe_bltn (v := .ty T2) hgT2 hmT2 hbT2 rfl hnT2 hdT2) pa_nil he4) he3)) pa_nil he2) he) (by decide) (by decide) he hpl)
    fun σ H Q ⟨A, ρ, Qd, E, env, ex, hm, k⟩ => ⟨A, ρ, _, E, env, ex, hm, fun v H1 d g r f => by
      refine ⟨small (show 2 ≤ 1000 by decide), fun tp htp => ?_⟩
      have s := upd_fresh_same (o := .tup [.ty T, .ty T2]) htp
      have r' := Rq.ext (env.step g).aok (extN_same s) r
      have o1 := f.1 T (List.mem_cons_self ..)
      obtain ⟨t, h1, h2⟩ := tyX_of r' (tyOk_nr o1) ⟨_, o1⟩
      refine ⟨v, tp, _, t, [.type T, .type T2], _, rfl, upd_same, .cons (.ty T) (.cons (.ty T2) .nil), h1, kitAny_of (f := fun T => isTy T d) (Ts := [T, T2]) ?_, k _ _ _ (Y.G.trans g (Y.G.same s)) (.bl _) f.2⟩
      intro U hU
      rcases List.mem_cons.mp hU with e | e
      · rw [e]; exact h2 T ht o1
      · rw [List.mem_singleton.mp e]; exact h2 T2 ht2 (f.1 T2 (List.mem_cons_of_mem _ (List.mem_cons_self ..)))⟩
/-- isinstance(x, C), C an own class: kn, what the classes of plain data answer -/
def plainTs : List String := ["NoneType", "bool", "int", "str", "tuple", "list", "dict"]
theorem pd_isOwn (hm : X.mg "isinstance" = none) (hC : X.mg x = some (.ref C)) (c : C8.InsC X.K C) (kn : ∀ T ∈ plainTs, PySem.W.kitOne X.K (.type T) (.ref C) = some false) (ha : PQ X Y a ma) (hg : Gl X "isinstance" := by rfl) (hgC : Gl X x := by rfl) (hdC : (x == ("__debug__" : Str)) = false := by decide)
    (he : starEach [a, .Name x q] X.env = (false, eval a X.env) :: starEach [.Name x q] X.env := by rfl) (he2 : starEach [.Name x q] X.env = (false, eval (.Name x q) X.env) :: starEach [] X.env := by rfl)
    (hpl : (backTo pos (starEach [.Name x q] X.env)).any (·.1) = false := by rfl) : PD X Y (.Call (.Name "isinstance" p) [a, .Name x q] [] pos) (mB1 (isOwnM C) ma) :=
  pe_imp (pe_callB (call_isi.or (C8.call_isC c)) hg hm PyProof.Rows.boot_isinstance (pa_cons ha (pa_cons (pe_glob (v := .ref C) hgC hC rfl hdC) pa_nil he2) he) (by decide) (by decide) he hpl) fun σ H Q ⟨A, ρ, Qd, E, env, ex, hm, k⟩ => ⟨A, ρ, _, E, env, ex, hm, fun v H1 d g r f => by
    have fin : ∀ (T : String), T ∈ plainTs → TyX X.K H1 v (.type T) → Qd (.bl false) → rIsi X.K [v, .ref C] H1 Q := fun T hT ty f => ⟨v, .ref C, _, .ref C, false, rfl, .own C, ty, kn T hT, k _ _ _ g (.bl _) f⟩
    cases r with
    | non => exact .inl (fin "NoneType" (by decide) (.base .non) f)
    | bl b => exact .inl (fin "bool" (by decide) (.base (.bl b)) f)
    | int i => exact .inl (fin "int" (by decide) (.base (.int i)) f)
    | str x => exact .inl (fin "str" (by decide) (.base (.str x)) f)
    | tup h r => exact .inl (fin "tuple" (by decide) (sqT_ty h) f)
    | tpn h r => exact .inl (fin "tuple" (by decide) (sqT_ty h.seq) f)
    | lst h r => exact .inl (fin "list" (by decide) (.base (.lst h)) f)
    | dic h _ r => exact .inl (fin "dict" (by decide) (.base (.dK h)) f)
    | ins h _ r =>
      obtain ⟨e, f⟩ := f
      subst e
      exact .inr ⟨_, _, _, rfl, h, k _ _ _ g (.bl _) f⟩
    | row _ _ => exact f.elim
    | adr _ => exact f.elim⟩
end

/-! ### the place of an item; how many -/
def idxB (d : D) : List D → Option Nat
  | [] => none
  | e :: r => if eqD e d = true then some 0 else (idxB d r).map (· + 1)
def cntB (d : D) : List D → Nat
  | [] => 0
  | e :: r => (if eqD e d = true then 1 else 0) + cntB d r
theorem pds_get : ∀ {ds : List D} {j : Nat}, (pds ds)[j]? = (ds[j]?).map pd
  | [], _ => rfl
  | d :: ds, 0 => rfl
  | d :: ds, j + 1 => by simpa [pds] using pds_get (ds := ds) (j := j)
theorem okDs_get : ∀ {ds : List D} {j n : Nat} {d : D}, okDs n ds = true → ds[j]? = some d → ∃ m, okD m d = true
  | [], _, _, _, _, h => nomatch h
  | _ :: _, _, 0, _, h, _ => nomatch h
  | d :: ds, 0, n + 1, _, h, e => by
    rw [okDs, Bool.and_eq_true] at h
    cases e
    exact ⟨n, h.1⟩
  | d :: ds, j + 1, n + 1, _, h, e => by
    rw [okDs, Bool.and_eq_true] at h
    exact okDs_get h.2 (by simpa using e)
theorem idxB_some : ∀ {ds : List D} {j : Nat} {d : D}, idxB d ds = some j → (∃ e, ds[j]? = some e ∧ eqD e d = true) ∧ ∀ m e, m < j → ds[m]? = some e → eqD e d = false
  | [], _, _, h => nomatch h
  | e :: r, j, d, h => by
    unfold idxB at h
    split at h
    · rename_i q
      cases h
      exact ⟨⟨e, rfl, q⟩, fun m e h => absurd h (Nat.not_lt_zero m)⟩
    · rename_i q
      cases w : idxB d r with
      | none => rw [w] at h; cases h
      | some i =>
        rw [w] at h
        cases h
        obtain ⟨⟨e', h1, h2⟩, h3⟩ := idxB_some w
        refine ⟨⟨e', by simpa using h1, h2⟩, fun m z hm hz => ?_⟩
        replace hm : m < i + 1 := hm
        cases m with
        | zero => cases hz; simpa using q
        | succ m => exact h3 m z (by omega) (by simpa using hz)
theorem cntB_eq {d : D} (hd : Ok d) : ∀ {ds : List D} {n : Nat}, okDs n ds = true → (pds ds).countP (fun z => PyData.eqv z (pd d)) = cntB d ds
  | [], _, _ => rfl
  | e :: r, 0, h => nomatch h
  | e :: r, n + 1, h => by
    rw [okDs, Bool.and_eq_true] at h
    rw [pds, List.countP_cons, cntB, cntB_eq hd h.2, eqD_pd e d ⟨n, h.1⟩ ⟨60, hd⟩, Nat.add_comm]
section
variable {X : Cx} {Y : Yx} {k : Nat}
/-- values read as data, and where each stands -/
theorem read_at {h : Heap} {its : List Value} {ds : List PyData} {as : List Addr} (hx : PyData.canLayAll0 ds = true) (r : ReadsAll h its ds as) {m : Nat} (hm : m < its.toArray.size) {z : PyData} (hz : ds[m]? = some z) : SeqAt.readOf h its.toArray[m] = z := by
  have e := SeqAt.readsAll_map ds its as hx r
  have hml : m < its.length := by simpa using hm
  rw [← e, List.getElem?_map, List.getElem?_eq_getElem hml] at hz
  simpa using Option.some.inj hz
/-- t.index(x) of a tuple of data -/
def rIdxT (K : PySem.W.Frag) : V → List V → Hp → VK → Prop := fun x xs H Q => ∃ (a : Addr) (ys : List V) (y : V) (d : PyData) (ds : List PyData) (j : Nat) (z : PyData), x = V.ref a ∧ xs = [y] ∧ SqT K H a ys ∧ DpAll K H ys ds ∧ Dp K H y d ∧
  SeqAt.shaped (.tuple ds) = true ∧ SeqAt.shaped d = true ∧ ds[j]? = some z ∧ PyData.eqv z d = true ∧ (∀ (m : Nat) (z' : PyData), m < j → ds[m]? = some z' → PyData.eqv z' d = false) ∧ Q (.int (j : Nat)) H
theorem mt_idxT (hu : X.A.units + 65 < cLine) : MtR X "tuple.index" (rIdxT X.K) := by
  intro pins s σ H x xs v us Q I rx rxs h
  obtain ⟨a, ys, y, d, ds, j, z, rfl, rfl, hs, ha, hy, sl, sd, hz, hzj, hno, q⟩ := h
  cases rx
  obtain ⟨uy, rfl, ry⟩ := vals1 rxs
  obtain ⟨bs, r1⟩ := Dp.reads I d y uy hy ry
  obtain ⟨its, rv, ⟨⟨cls, dd, data, sls⟩, ho, hc, n, hdt⟩, hlen⟩ := I.tuple hs
  simp only at hc hdt
  subst hc
  subst hdt
  have hcl : PyData.canLayAll0 ds = true := SeqAt.canLay_of_shaped sl
  obtain ⟨as, r2⟩ := Dp.readsAll I ds _ its ha rv
  have hn : its.length = ds.length := SeqAt.ReadsAll.length ds its as r2
  have hj : j < its.toArray.size := by rw [List.size_toArray, hn]; exact (List.getElem?_eq_some_iff.mp hz).1
  refine call_meets PySem.F.slot_tuple_index ⟨_, ho, rfl⟩ PySem.F.entry_tuple_index (PySem.F.args_tuple_index_2 _ _)
    (TI.tuple_indexAt a its.toArray n dd sls uy (fun u => PyData.eqv (SeqAt.readOf s.heap u) d) j hj ?_ ?_) ⟨ho, SeqAt.items_eqAt (vs := its.toArray) r2 r1 hcl (SeqAt.canLay_of_shaped sd) (by have := SeqAt.depth_of_shaped sd; show X.A.units + 1 + _ < cLine; omega), ?_⟩
  · show PyData.eqv (SeqAt.readOf s.heap its.toArray[j]) d = true
    rw [read_at hcl r2 hj hz]
    exact hzj
  · intro m hm hmj
    have hmd : m < ds.length := by rw [← hn]; simpa using hm
    show PyData.eqv (SeqAt.readOf s.heap its.toArray[m]) d = false
    rw [read_at hcl r2 hm (List.getElem?_eq_getElem hmd)]
    exact hno m _ hmj (List.getElem?_eq_getElem hmd)
  · exact ⟨.int (j : Nat), H, I.tok _, ⟨_, rfl⟩, q⟩
/-- l.count(x) of a list of data -/
def rCntD (K : PySem.W.Frag) : V → List V → Hp → VK → Prop := fun x xs H Q => ∃ (a : Addr) (ys : List V) (y : V) (d : PyData) (ds : List PyData), x = V.ref a ∧ xs = [y] ∧ SqL K H a ys ∧ DpAll K H ys ds ∧ Dp K H y d ∧
  SeqAt.shaped (.list ds) = true ∧ SeqAt.shaped d = true ∧ Q (.int (ds.countP fun z => PyData.eqv z d : Nat)) H
theorem mt_cntD (hu : X.A.units + 65 < cLine) : MtR X "list.count" (rCntD X.K) := by
  intro pins s σ H x xs v us Q I rx rxs h
  obtain ⟨a, ys, y, d, ds, rfl, rfl, hs, ha, hy, sl, sd, q⟩ := h
  cases rx
  obtain ⟨uy, rfl, ry⟩ := vals1 rxs
  obtain ⟨bs, r1⟩ := Dp.reads I d y uy hy ry
  obtain ⟨its, rv, ⟨⟨cls, dd, data, sls⟩, n, ho, hc, hdn, hdt⟩, hlen⟩ := I.list hs
  simp only at hc hdt
  subst hc
  subst hdt
  have hcl : PyData.canLayAll0 ds = true := SeqAt.canLay_of_shaped sl
  obtain ⟨as, r2⟩ := Dp.readsAll I ds _ its ha rv
  refine call_meets PySem.F.slot_list_count ⟨_, ho, rfl⟩ PySem.F.entry_list_count (PySem.F.args_list_count_2 _ _)
    (SeqAt.list_countAt a its.toArray n dd sls uy (fun u => PyData.eqv (SeqAt.readOf s.heap u) d)) ⟨ho, SeqAt.items_eqAt (vs := its.toArray) r2 r1 hcl (SeqAt.canLay_of_shaped sd) (by have := SeqAt.depth_of_shaped sd; show X.A.units + 1 + _ < cLine; omega), ?_⟩
  have e : its.toArray.toList.countP (fun u => PyData.eqv (SeqAt.readOf s.heap u) d) = ds.countP fun z => PyData.eqv z d := by
    rw [← SeqAt.readsAll_map ds its as hcl r2, List.countP_map]
    rfl
  refine ⟨.int _, H, I.tok _, ⟨_, rfl⟩, ?_⟩
  rw [e]
  exact q
end
end WL
namespace WL
open L2 PySem PySem.Spec
open LamX (ExtN)

/-! ### methods of built-ins -/
abbrev FM := List D → D → (D → Prop) → Prop
@[simp] def idxLM (ds : List D) (d : D) (Q : D → Prop) : Prop := (Ok d ∧ Ok (.lst ds)) ∧ optQ (idxB d ds) fun j => Q (.int (j : Nat))
@[simp] def cntM (ds : List D) (d : D) (Q : D → Prop) : Prop := (Ok d ∧ Ok (.lst ds)) ∧ Q (.int (cntB d ds : Nat))
/-- a method of a list, of a tuple without a dict -/
@[simp ↓] def mMtL (F : FM) (o a : EM) (ρ : DEnv) (Q : D → Prop) (E : Xn → Prop) : Prop := o ρ (fun d => match d with | .lst ds => a ρ (fun y => F ds y Q) E | _ => False) E
@[simp ↓] def mMtN (F : FM) (o a : EM) (ρ : DEnv) (Q : D → Prop) (E : Xn → Prop) : Prop := o ρ (fun d => match d with | .tpn ds => a ρ (fun y => F ds y Q) E | _ => False) E
section
variable {X : Cx} {Y : Yx} {o a e : Expr} {mo ma : EM} {apos cpos : Pos} {k : Nat}
theorem idx_pd {ds : List D} {d : D} {j n : Nat} (hd : Ok d) (ho : okDs n ds = true) (h : idxB d ds = some j) : ∃ z, (pds ds)[j]? = some z ∧ PyData.eqv z (pd d) = true ∧ ∀ (m : Nat) (z' : PyData), m < j → (pds ds)[m]? = some z' → PyData.eqv z' (pd d) = false := by
  obtain ⟨⟨e, h1, h2⟩, h3⟩ := idxB_some h
  obtain ⟨m, q⟩ := okDs_get ho h1
  refine ⟨pd e, by rw [pds_get, h1]; rfl, by rw [eqD_pd e d ⟨m, q⟩ ⟨60, hd⟩]; exact h2, fun i z' hi hz => ?_⟩
  rw [pds_get] at hz
  cases w : ds[i]? with
  | none => rw [w] at hz; cases hz
  | some e' =>
    rw [w] at hz
    cases hz
    obtain ⟨m', q'⟩ := okDs_get ho w
    rw [eqD_pd e' d ⟨m', q'⟩ ⟨60, hd⟩]
    exact h3 i e' hi w
theorem pd_idxL (hr : RoomU k X.A) (ho : PQ X Y o mo) (ha : PQ X Y a ma) (hbase : attributeBase o "index" X.env (eval o X.env) = eval o X.env := by rfl)
    (hfew : ((backTo cpos (starEach [a] X.env)).all (fun x => !x.1) && (backToKw cpos (keywordEach [] X.env)).all (fun x => x.1.isSome) && decide ([a].length + ([] : List Keyword).length + (if ([] : List Keyword).isEmpty then 0 else 1) < 30)) = true := by rfl)
    (hline : (apos.endLine == cpos.line) = true := by rfl) (hs : starEach [a] X.env = (false, eval a X.env) :: starEach [] X.env := by rfl) (hpl : (backTo cpos (starEach [] X.env)).any (·.1) = false := by rfl) :
    PD X Y (.Call (.Attribute o "index" apos) [a] [] cpos) (mMtL idxLM mo ma) :=
  pe_imp (pe_bm PySem.F.plainAttrs_list PySem.F.slot_list_index PySem.F.type_list_index (mt_indexD (by have := hr.un; omega)) ho (pa1q ha hs) hbase hfew hline hs hpl) fun σ H Q ⟨A, ρ, Qd, E, env, ex, hm, k⟩ => ⟨A, ρ, _, E, env, ex, hm, fun v H1 d g r hq => by
    cases r with
    | @lst p xs ds h r =>
      refine ⟨.inl ⟨rfl, xs, SqL.of h⟩, A, ρ, _, E, env.step g, ex, hq, fun us H2 d2 g2 ⟨y, e, r2⟩ f => ?_⟩
      subst e
      obtain ⟨j, hj, f2⟩ := optQ_some f.2
      have o2 : okDs 60 ds = true := f.1.2
      obtain ⟨z, h1, h2, h3⟩ := idx_pd f.1.1 o2 hj
      have rl := Rq.ext (env.step g).aok (Y.G.ext g2) (Rq.lst h r)
      exact ⟨p, y, _, _, j, z, rfl, rfl, rl.dp f.1.2, r2.dp f.1.1, f.1.2.shaped, f.1.1.shaped, h1, h2, h3, k _ _ _ (Y.G.trans g g2) (.int _) f2⟩
    | _ => exact hq.elim⟩
theorem pd_cntL (hr : RoomU k X.A) (ho : PQ X Y o mo) (ha : PQ X Y a ma) (hbase : attributeBase o "count" X.env (eval o X.env) = eval o X.env := by rfl)
    (hfew : ((backTo cpos (starEach [a] X.env)).all (fun x => !x.1) && (backToKw cpos (keywordEach [] X.env)).all (fun x => x.1.isSome) && decide ([a].length + ([] : List Keyword).length + (if ([] : List Keyword).isEmpty then 0 else 1) < 30)) = true := by rfl)
    (hline : (apos.endLine == cpos.line) = true := by rfl) (hs : starEach [a] X.env = (false, eval a X.env) :: starEach [] X.env := by rfl) (hpl : (backTo cpos (starEach [] X.env)).any (·.1) = false := by rfl) :
    PD X Y (.Call (.Attribute o "count" apos) [a] [] cpos) (mMtL cntM mo ma) :=
  pe_imp (pe_bm PySem.F.plainAttrs_list PySem.F.slot_list_count PySem.F.type_list_count (mt_cntD (by have := hr.un; omega)) ho (pa1q ha hs) hbase hfew hline hs hpl) fun σ H Q ⟨A, ρ, Qd, E, env, ex, hm, k⟩ => ⟨A, ρ, _, E, env, ex, hm, fun v H1 d g r hq => by
    cases r with
    | @lst p xs ds h r =>
      refine ⟨.inl ⟨rfl, xs, SqL.of h⟩, A, ρ, _, E, env.step g, ex, hq, fun us H2 d2 g2 ⟨y, e, r2⟩ f => ?_⟩
      subst e
      have x := Y.G.ext g2
      have o2 : okDs 60 ds = true := f.1.2
      exact ⟨p, xs, y, _, _, rfl, rfl, SqL.of (x _ _ h fun _ z => nomatch z), (r.ext (env.step g).aok x).dp o2, r2.dp f.1.1, f.1.2.shaped, f.1.1.shaped, k _ _ _ (Y.G.trans g g2) (.int _) (by rw [cntB_eq f.1.1 o2]; exact f.2)⟩
    | _ => exact hq.elim⟩
/-- a tuple without a dict -/
theorem tyok_nd : TyOk X "tuple" (fun x H => ∃ a xs, x = .ref a ∧ NdT X.K H a xs) := by
  intro pins σ H s x v I r ⟨a, xs, e, n⟩
  subst e
  cases r
  rcases n with ⟨o, d, h⟩ | ⟨⟨o, h, c, d⟩, _⟩
  · obtain ⟨e, _, its, _, o', e', c, _⟩ := I.hok a _ h
    rw [e] at e'
    cases e'
    refine ⟨⟨o, e, c⟩, fun b q => ?_⟩
    cases q
    exact ⟨o, e, d⟩
  · refine ⟨⟨o, I.kIn a o h, c⟩, fun b q => ?_⟩
    cases q
    exact ⟨o, I.kIn a o h, d⟩
@[simp] def idxTM (ds : List D) (d : D) (Q : D → Prop) : Prop := (Ok d ∧ Ok (.tup ds)) ∧ optQ (idxB d ds) fun j => Q (.int (j : Nat))
theorem pd_idxN (hr : RoomU k X.A) (ho : PQ X Y o mo) (ha : PQ X Y a ma) (hbase : attributeBase o "index" X.env (eval o X.env) = eval o X.env := by rfl)
    (hfew : ((backTo cpos (starEach [a] X.env)).all (fun x => !x.1) && (backToKw cpos (keywordEach [] X.env)).all (fun x => x.1.isSome) && decide ([a].length + ([] : List Keyword).length + (if ([] : List Keyword).isEmpty then 0 else 1) < 30)) = true := by rfl)
    (hline : (apos.endLine == cpos.line) = true := by rfl) (hs : starEach [a] X.env = (false, eval a X.env) :: starEach [] X.env := by rfl) (hpl : (backTo cpos (starEach [] X.env)).any (·.1) = false := by rfl) :
    PD X Y (.Call (.Attribute o "index" apos) [a] [] cpos) (mMtN idxTM mo ma) :=
  pe_imp (pe_mG tyok_nd PySem.F.plainAttrs_tuple PySem.F.slot_tuple_index PySem.F.type_tuple_index (mt_idxT (by have := hr.un; omega)) ho (pa1q ha hs) hbase hfew hline hs hpl) fun σ H Q ⟨A, ρ, Qd, E, env, ex, hm, k⟩ => ⟨A, ρ, _, E, env, ex, hm, fun v H1 d g r hq => by
    cases r with
    | @tpn p xs ds h r =>
      refine ⟨⟨p, xs, rfl, h⟩, A, ρ, _, E, env.step g, ex, hq, fun us H2 d2 g2 ⟨y, e, r2⟩ f => ?_⟩
      subst e
      obtain ⟨j, hj, f2⟩ := optQ_some f.2
      have o2 : okDs 60 ds = true := f.1.2
      obtain ⟨z, h1, h2, h3⟩ := idx_pd f.1.1 o2 hj
      have ok := (env.step g).aok
      exact ⟨p, xs, y, _, _, j, z, rfl, rfl, (ndT_keep ok (.ext (Y.G.ext g2)) h).seq, (r.ext ok (Y.G.ext g2)).dp o2, r2.dp f.1.1, f.1.2.shaped, f.1.1.shaped, h1, h2, h3, k _ _ _ (Y.G.trans g g2) (.int _) f2⟩
    | _ => exact hq.elim⟩
end

/-! ### dicts that stay as they are -/
def pairsOf : List D → Option (List Key × List D)
  | [] => some ([], [])
  | .tup [.str x, d] :: r => (pairsOf r).map fun p => (.inr x :: p.1, d :: p.2)
  | .tup [.int i, d] :: r => (pairsOf r).map fun p => (.inl i :: p.1, d :: p.2)
  | _ :: _ => none
def ixK (k : Key) : List Key → Option Nat
  | [] => none
  | g :: r => if g = k then some 0 else (ixK k r).map (· + 1)
def dgetM : F2
  | .dic ks ds, .str x, Q => optQ (ixK (.inr x) ks) fun j => optQ ds[j]? Q
  | .dic ks ds, .int i, Q => optQ (ixK (.inl i) ks) fun j => optQ ds[j]? Q
  | _, _, _ => False
@[simp] theorem dgetM_e1 {ks : List Key} {ds : List D} {x : Str} {Q : D → Prop} : dgetM (.dic ks ds) (.str x) Q = (optQ (ixK (.inr x) ks) fun j => optQ ds[j]? Q) := rfl
@[simp] theorem dgetM_e2 {ks : List Key} {ds : List D} {i : Int} {Q : D → Prop} : dgetM (.dic ks ds) (.int i) Q = (optQ (ixK (.inl i) ks) fun j => optQ ds[j]? Q) := rfl
def dicM : F1
  | .lst ds, Q => optQ (pairsOf ds) fun p => p.1.Nodup ∧ Q (.dic p.1 p.2)
  | _, _ => False
@[simp] theorem dicM_e1 {ds : List D} {Q : D → Prop} : dicM (.lst ds) Q = (optQ (pairsOf ds) fun p => p.1.Nodup ∧ Q (.dic p.1 p.2)) := rfl
theorem valV_ix {k : Key} : ∀ {ks : List Key} {vs : List V} {j : Nat}, ixK k ks = some j → ks.length = vs.length → valV (ks.zip vs) k = vs[j]?
  | [], _, _, h, _ => nomatch h
  | g :: r, [], _, _, hl => nomatch hl
  | g :: r, v :: vs, j, h, hl => by
    unfold ixK at h
    by_cases e : g = k
    · rw [if_pos e] at h
      cases h
      exact valV_pos e
    · rw [if_neg e] at h
      cases q : ixK k r with
      | none => rw [q] at h; cases h
      | some i =>
        rw [q] at h
        cases h
        rw [List.zip_cons_cons, valV_neg e, valV_ix q (Nat.succ.inj hl)]
        rfl
theorem putK_new {kvs : List (Key × V)} {k : Key} {v : V} (h : k ∉ kvs.map (·.1)) : putK kvs k v = kvs ++ [(k, v)] := by
  unfold putK
  rw [if_neg]
  intro z
  obtain ⟨p, h1, h2⟩ := List.any_eq_true.mp z
  exact h (List.mem_map.mpr ⟨p, h1, of_decide_eq_true h2⟩)
theorem mergeK_nodup : ∀ {more kvs : List (Key × V)}, ((kvs ++ more).map (·.1)).Nodup → mergeK kvs more = kvs ++ more
  | [], kvs, _ => (List.append_nil kvs).symm
  | p :: r, kvs, h => by
    show mergeK (putK kvs p.1 p.2) r = _
    have hn : p.1 ∉ kvs.map (·.1) := fun z => by
      rw [List.map_append, List.nodup_append] at h
      exact h.2.2 p.1 z p.1 (List.mem_cons_self ..) rfl
    rw [putK_new hn, mergeK_nodup (by simpa using h)]
    simp
section
variable {K : PySem.W.Frag} {A : Addr → Prop} {H : Hp}
theorem pairs_of : ∀ {ds : List D} {ys : List V} {ks : List Key} {es : List D}, RpAll K A H ys ds → pairsOf ds = some (ks, es) → ∃ (ps : List Addr) (vs : List V), ys = ps.map V.ref ∧ ks.length = vs.length ∧ RpAll K A H vs es ∧ Paired (fun p (kv : Key × V) => SqT K H p [kV kv.1, kv.2]) ps (ks.zip vs)
  | [], _, _, _, .nil, h => by cases h; exact ⟨[], [], rfl, rfl, .nil, .nil⟩
  | d :: ds, _, ks, es, .cons (v := v) (vs := ys) r t, h => by
    unfold pairsOf at h
    split at h
    · cases ‹_ = []›
    · rename_i x d' r' heq
      cases heq
      cases q : pairsOf ds with
      | none => rw [q] at h; cases h
      | some p =>
        rw [q] at h
        cases h
        obtain ⟨ps, vs, e1, e2, r2, r3⟩ := pairs_of t q
        cases r with
        | @tup a xs _ hs ra =>
          cases ra with
          | cons ra rb =>
            cases rb with
            | cons rb rc =>
              cases rc
              cases ra
              exact ⟨a :: ps, _ :: vs, by rw [e1]; rfl, congrArg (· + 1) e2, .cons rb r2, .cons hs r3⟩
    · rename_i x d' r' heq
      cases heq
      cases q : pairsOf ds with
      | none => rw [q] at h; cases h
      | some p =>
        rw [q] at h
        cases h
        obtain ⟨ps, vs, e1, e2, r2, r3⟩ := pairs_of t q
        cases r with
        | @tup a xs _ hs ra =>
          cases ra with
          | cons ra rb =>
            cases rb with
            | cons rb rc =>
              cases rc
              cases ra
              exact ⟨a :: ps, _ :: vs, by rw [e1]; rfl, congrArg (· + 1) e2, .cons rb r2, .cons hs r3⟩
    · cases h
end
section
variable {X : Cx} {Y : Yx} {o a : Expr} {mo ma : EM} {pos : Pos} {k : Nat}
theorem c1_dict (hc : X.calm = true) : C1 X Y (.type "dict") dicM := by
  intro pins s σ H xs us Q I rx ⟨A, x, d, Qd, e, ok, r, f, k⟩
  subst e
  cases r with
  | @lst p ys ds h r =>
    obtain ⟨⟨ks, es⟩, e1, f2⟩ := optQ_some f
    obtain ⟨ps, vs, e2, l, r2, r3⟩ := pairs_of r e1
    subst e2
    refine call_dictP hc pins s σ H _ us Q I rx ⟨p, ps, _, rfl, SqL.of h, r3, fun q hq => ?_⟩
    have em : mergeK [] (ks.zip vs) = ks.zip vs := by
      have e3 : (([] ++ ks.zip vs).map (fun p : Key × V => p.1)) = ks := by
        rw [List.nil_append, List.map_fst_zip (Nat.le_of_eq l)]
      rw [mergeK_nodup (by rw [e3]; exact f2.1)]
      rfl
    rw [em]
    have s := upd_fresh_same (o := .dK (ks.zip vs)) hq
    exact k _ _ _ (Y.G.same s) (.dic upd_same l (no_new ok hq) (r2.ext ok (extN_same s))) f2.2
  | _ => exact f.elim
theorem pd_dget (hr : RoomU k X.A) (ho : PQ X Y o mo) (ha : PD X Y a ma) (hs : NoSl a := by exact fun _ _ => rfl) : PD X Y (.Subscript o a pos) (m2 dgetM mo ma) :=
  pe_imp (pe_dget (by have := hr.un; omega) ho ha hs) fun σ H Q ⟨A, ρ, Qd, E, env, ex, hm, k⟩ => ⟨A, ρ, _, E, env, ex, hm, fun v H1 d g r hq => ⟨A, ρ, _, E, env.step g, ex, hq, fun w H2 d2 g2 r2 f => by
    have rl := Rq.ext (env.step g).aok (Y.G.ext g2) r
    cases rl with
    | @dic p ks vs ds h l r3 =>
      cases r2 with
      | str x =>
        obtain ⟨j, hj, f⟩ := optQ_some f
        obtain ⟨y, hy, f⟩ := optQ_some f
        obtain ⟨u, hu, ru⟩ := r3.get hy
        exact ⟨p, u, rfl, by rw [← hu, ← valV_ix hj l]; exact DGet.k (k := .inr x) h, k _ _ _ (Y.G.trans g g2) ru f⟩
      | int i =>
        obtain ⟨j, hj, f⟩ := optQ_some f
        obtain ⟨y, hy, f⟩ := optQ_some f
        obtain ⟨u, hu, ru⟩ := r3.get hy
        exact ⟨p, u, rfl, by rw [← hu, ← valV_ix hj l]; exact DGet.k (k := .inl i) h, k _ _ _ (Y.G.trans g g2) ru f⟩
      | _ => exact f.elim
    | _ => exact f.elim⟩⟩
end
end WL
namespace WL
open L2 PySem PySem.Spec
open LamX (ExtN)

/-! ### a def as a value, called by a local name -/
structure FnAdr (P : Program) (w : World) (K : PySem.W.Frag) (mg : Str → Option Value) (base : Heap) (k : Nat) (f : Addr) (n : Nat) (m : List D → M) : Prop where
  ex : ∃ (fd : FuncData) (ps : List Str), PySem.W.keepIn K (.ref f) = true ∧ Binds K fd ps [] ∧ FnOk P w K mg base (L2.CX P w) k f fd ps (spD K n m)
theorem FnAt.adr {P : Program} {w : World} {K : PySem.W.Frag} {mg : Str → Option Value} {base : Heap} {k : Nat} {x : Str} {n : Nat} {m : List D → M} {f : Addr} (F : FnAt P w K mg base k x n m) (h : mg x = some (.ref f)) : FnAdr P w K mg base k f n m := by
  obtain ⟨g, fd, ps, e, a, b, c⟩ := F.ex
  rw [h] at e
  cases e
  exact ⟨fd, ps, a, b, c⟩
@[simp ↓] def mCallV (i : Nat) (f : Addr) (n : Nat) (m : List D → M) (ms : EMs) (ρ : DEnv) (Q : D → Prop) (E : Xn → Prop) : Prop := (match look ρ i with | some (.dat (.adr g)) => g = f | _ => False) ∧ ms ρ (fun ds => ds.length = n ∧ m ds Q E) E
section
variable {X : Cx} {Y : Yx} {e o : Expr} {es : List Expr} {ms : EMs} {mo : EM} {p pos apos : Pos} {x : Str} {n k j i : Nat} {m : List D → M} {f : Addr}
theorem pd_callV (c : Cok k X Y) (F : FnAdr X.prog X.w X.K X.mg X.base j f n m) (ha : PAd X Y (e :: es) ms) (hj : j ≤ k := by decide) (hN : X.N[i]? = some x := by rfl) (hv : Vis X.env.scope x := by first | exact Or.inl rfl | exact Or.inr (Or.inl rfl) | exact Or.inr (Or.inr rfl))
    (hd : (x == ("__debug__" : Str)) = false := by decide) (hcd : (x == ("__classdict__" : Str)) = false := by decide)
    (he : starEach (e :: es) X.env = (false, eval e X.env) :: starEach es X.env := by rfl) (hpl : (backTo pos (starEach es X.env)).any (·.1) = false := by rfl) : PD X Y (.Call (.Name x p) (e :: es) [] pos) (mCallV i f n m ms) := by
  obtain ⟨fd, ps, h2, h3, h4⟩ := F.ex
  have FR := h4.raw h3 .nil
  refine pe_imp (ItX.pe_callV FR (c.room.mono hj) h2 c.pass hN hv ha hd hcd he hpl) fun σ H Q ⟨A, ρ, Qd, E, env, ex, hm, k⟩ => ?_
  unfold mCallV at hm
  obtain ⟨h1, hm⟩ := hm
  split at h1
  · rename_i g hl
    subst h1
    obtain ⟨v, w1, w2⟩ := env.sl i _ hl
    cases w2
    refine ⟨w1, A, ρ, _, E, env, ex, hm, fun vs H1 ds g1 r1 h1 => ?_⟩
    have env1 := env.step g1
    exact ⟨A, ds, Qd, E, env1.aok, by rw [List.append_nil]; exact r1, h1.1, h1.2, fun d v H' q s r => k v H' d (Y.G.trans g1 (Y.G.same s)) r q, fun x cls dd H' q s r => ex x cls dd H' q (Y.G.trans env1.go (Y.G.same s)) (r.weak (env1.aok.ext (extN_same s)) fun a z => (env.a0 a z).1)⟩
  · exact h1.elim

/-! ### methods of own classes -/
structure MtAt (P : Program) (w : World) (K : PySem.W.Frag) (mg : Str → Option Value) (base : Heap) (k : Nat) (C : Addr) (x : Str) (n : Nat) (m : List D → M) : Prop where
  ex : ∃ (f : Addr) (fd : FuncData) (ps : List Str), Cls K C ∧ Meth K C x f ∧ Binds K fd ps [] ∧ FnOk P w K mg base (L2.CX P w) k f fd ps (spD K (n + 1) m)
@[simp ↓] def mMeth (C : Addr) (ks : List Str) (n : Nat) (m : List D → M) (mo : EM) (ms : EMs) (ρ : DEnv) (Q : D → Prop) (E : Xn → Prop) : Prop := mo ρ (fun d => match d with | .ins C' ks' fs => (C' = C ∧ ks' = ks) ∧ ms ρ (fun ds => ds.length = n ∧ m (.ins C ks fs :: ds) Q E) E | _ => False) E
theorem pd_meth {C : Addr} {ks : List Str} {pl : Sem Bool} (c : Cok k X Y) (F : MtAt X.prog X.w X.K X.mg X.base j C x n m) (ho : PD X Y o mo) (ha : PAd X Y (e :: es) ms) (hj : j ≤ k := by decide) (hx : ixF x ks = none := by decide +kernel)
    (hst : starEach (e :: es) X.env = (false, eval e X.env) :: starEach es X.env := by rfl) (hpl : (backTo pos (starEach es X.env)).any (·.1) = false := by rfl)
    (ht : eval (.Call (.Attribute o x apos) (e :: es) [] pos) X.env = (do let ov ← eval o X.env; standAt apos.atName; let (f, first) ← holding [ov] (getMethod ov x pl); callWith pos f first (backTo pos (starEach (e :: es) X.env)) (backToKw pos (keywordEach [] X.env))) := by rfl) :
    PD X Y (.Call (.Attribute o x apos) (e :: es) [] pos) (mMeth C ks n m mo ms) := by
  obtain ⟨f, fd, ps, h1, h2, h3, h4⟩ := F.ex
  refine pe_imp (pe_meth (pl := pl) ho h1 h2 h4 (c.room.mono hj) h3 .nil c.pass ha hst hpl ht) fun σ H Q ⟨A, ρ, Qd, E, env, ex, hm, k⟩ => ⟨A, ρ, _, E, env, ex, hm, fun v H1 d g1 r1 hq => ?_⟩
  cases r1 with
  | @ins a C0 dx ks0 vs ds h l n' r =>
    obtain ⟨⟨e1, e2⟩, hq⟩ := hq
    subst e1
    subst e2
    refine ⟨a, dx, _, rfl, h, ixF_none hx, A, ρ, _, E, env.step g1, ex, hq, fun us H2 es g2 r2 hq => ?_⟩
    have env2 := (env.step g1).step g2
    have g := Y.G.trans g1 g2
    exact ⟨A, .ins C0 ks0 ds :: es, Qd, E, env2.aok, .cons ((Rp.ins h l n' r).ext (env.step g1).aok (Y.G.ext g2)) (by rw [List.append_nil]; exact r2), congrArg (· + 1) hq.1, hq.2, fun d v H' q s r => k v H' d (Y.G.trans g (Y.G.same s)) r q, fun x cls dd H' q s r => ex x cls dd H' q (Y.G.trans env2.go (Y.G.same s)) (r.weak (env2.aok.ext (extN_same s)) fun a z => (env.a0 a z).1)⟩
  | _ => exact hq.elim
theorem pd_meth0 {C : Addr} {ks : List Str} {pl : Sem Bool} (c : Cok k X Y) (F : MtAt X.prog X.w X.K X.mg X.base j C x 0 m) (ho : PD X Y o mo) (hj : j ≤ k := by decide) (hx : ixF x ks = none := by decide +kernel)
    (ht : eval (.Call (.Attribute o x apos) [] [] pos) X.env = (do let ov ← eval o X.env; standAt apos.atName; let (f, first) ← holding [ov] (getMethod ov x pl); callWith pos f first (backTo pos (starEach [] X.env)) (backToKw pos (keywordEach [] X.env))) := by rfl) :
    PD X Y (.Call (.Attribute o x apos) [] [] pos) (mMeth C ks 0 m mo mNil) := by
  obtain ⟨f, fd, ps, h1, h2, h3, h4⟩ := F.ex
  refine pe_imp (pe_meth0 (pl := pl) ho h1 h2 h4 (c.room.mono hj) h3 .nil c.pass ht) fun σ H Q ⟨A, ρ, Qd, E, env, ex, hm, k⟩ => ⟨A, ρ, _, E, env, ex, hm, fun v H1 d g1 r1 hq => ?_⟩
  cases r1 with
  | @ins a C0 dx ks0 vs ds h l n' r =>
    obtain ⟨⟨e1, e2⟩, hq⟩ := hq
    subst e1
    subst e2
    have env1 := env.step g1
    refine ⟨a, dx, _, rfl, h, ixF_none hx, ?_⟩
    exact ⟨A, [.ins C0 ks0 ds], Qd, E, env1.aok, .cons (Rp.ins h l n' r) .nil, rfl, hq.2, fun d v H' q s r => k v H' d (Y.G.trans g1 (Y.G.same s)) r q, fun x cls dd H' q s r => ex x cls dd H' q (Y.G.trans env1.go (Y.G.same s)) (r.weak (env1.aok.ext (extN_same s)) fun a z => (env.a0 a z).1)⟩
  | _ => exact hq.elim
end

/-! ### own instances -/
abbrev MI := List D → (List D → Prop) → (Xn → Prop) → Prop
/-- what an __init__ keeps: n arguments, the attributes ks -/
def spI (K : PySem.W.Frag) (C : Addr) (ks : List Str) (n : Nat) (m : MI) : Sp := fun vs H Q E => ∃ (A : Addr → Prop) (x dx : Addr) (as : List V) (ds : List D) (Qd : List D → Prop) (Ed : Xn → Prop) (H0 : Hp), vs = .ref x :: as ∧ H0 x = none ∧ Same H0 H ∧ H x = some (.ins C dx []) ∧ AOk A H0 ∧ RpAll K A H0 as ds ∧ ds.length = n ∧ m ds Qd Ed ∧
  (∀ fs us H', Qd fs → Same H0 H' → H' x = some (.ins C dx (ks.zip us)) → ks.length = us.length → RpAll K (Ap A x) H' us fs → Q .non H') ∧ ∀ z cls dd H', Ed z → Same H0 H' → RpX K A H' cls dd z → E cls dd H'
structure MkAt (P : Program) (w : World) (K : PySem.W.Frag) (mg : Str → Option Value) (base : Heap) (k : Nat) (x : Str) (C : Addr) (ks : List Str) (n : Nat) (m : MI) : Prop where
  ex : ∃ (f : Addr) (fd : FuncData) (ps : List Str), Mk K C f ∧ mg x = some (.ref C) ∧ Binds K fd ps [] ∧ FnOk P w K mg base (L2.CX P w) k f fd ps (spI K C ks n m)
@[simp ↓] def mMake (C : Addr) (ks : List Str) (n : Nat) (m : MI) (ms : EMs) (ρ : DEnv) (Q : D → Prop) (E : Xn → Prop) : Prop := ms ρ (fun ds => ds.length = n ∧ m ds (fun fs => Q (.ins C ks fs)) E) E
section
variable {X : Cx} {Y : Yx} {e : Expr} {es : List Expr} {ms : EMs} {p pos : Pos} {x : Str} {n k j : Nat} {m : MI} {C : Addr} {ks : List Str}
theorem pd_make (c : Cok k X Y) (F : MkAt X.prog X.w X.K X.mg X.base j x C ks n m) (ha : PAd X Y (e :: es) ms) (hj : j + 1 ≤ k := by decide) (hg : Gl X x := by rfl) (hdb : (x == ("__debug__" : Str)) = false := by decide)
    (he : starEach (e :: es) X.env = (false, eval e X.env) :: starEach es X.env := by rfl) (hpl : (backTo pos (starEach es X.env)).any (·.1) = false := by rfl) : PD X Y (.Call (.Name x p) (e :: es) [] pos) (mMake C ks n m ms) := by
  obtain ⟨f, fd, ps, h1, h2, h3, h4⟩ := F.ex
  refine pe_imp (pe_make h1 h4 (c.room.mono hj) hg h2 h3 .nil c.pass ha hdb he hpl) fun σ H Q ⟨A, ρ, Qd, E, env, ex, hm, k⟩ => ⟨A, ρ, _, E, env, ex, hm, fun vs H1 ds g1 r1 hq a dx ha hdx hne => ?_⟩
  have env1 := env.step g1
  have s1 : Same H1 (upd H1 dx (.own a)) := upd_fresh_same hdx
  have s2 : Same (upd H1 dx (.own a)) (upd (upd H1 dx (.own a)) a (.ins C dx [])) := upd_fresh_same (by rw [upd_ne (Ne.symm hne)]; exact ha)
  refine ⟨A, a, dx, vs, ds, _, E, H1, by rw [List.append_nil], ha, s1.trans s2, upd_same, env1.aok, r1, hq.1, hq.2, fun fs us H' q s h l r => ⟨rfl, ?_⟩, fun z cls dd H' q s r => ?_⟩
  · have okx := (env1.aok.ext (extN_same s)).own (.inr ⟨C, dx, _, h⟩)
    exact k _ _ _ (Y.G.trans g1 (Y.G.same s)) (.ins h l (no_new env1.aok ha) (r.move okx .refl fun b z => .inl (.inl z))) q
  · exact ex z cls dd H' q (Y.G.trans env1.go (Y.G.same s)) (r.weak (env1.aok.ext (extN_same s)) fun a z => (env.a0 a z).1)
end
/-- self.f = e -/
@[simp ↓] def sFldM (i : Nat) (f : Str) (m : EM) (ρ : DEnv) (K : Kt) : Prop := m ρ (fun d => match look ρ i with
  | some (.obj C ks ds) => (ixF f ks = none ∧ ks.length ≤ 100) ∧ K.nx (put ρ i (some (.obj C (ks ++ [f]) (ds ++ [d]))))
  | _ => False) K.ex
theorem putF_new {f : Str} {v : V} : ∀ {ks : List Str} {vs : List V}, ixF f ks = none → ks.length = vs.length → putF f v (ks.zip vs) = (ks ++ [f]).zip (vs ++ [v])
  | [], [], _, _ => rfl
  | [], _ :: _, _, h => nomatch h
  | _ :: _, [], _, h => nomatch h
  | k :: r, u :: us, h, hl => by
    unfold ixF at h
    by_cases e : f = k
    · rw [if_pos e] at h; cases h
    · rw [if_neg e] at h
      have q : ixF f r = none := by
        cases w : ixF f r with
        | none => rfl
        | some i => rw [w] at h; cases h
      rw [List.zip_cons_cons]
      show (if k = f then _ else _) = _
      rw [if_neg fun z => e z.symm, putF_new q (Nat.succ.inj hl)]
      rfl
section
variable {K : PySem.W.Frag} {Y : Yx} {A : Addr → Prop} {H : Hp} {σ : St} {ρ : DEnv} {i : Nat} {p C dx : Addr} {ks ks' : List Str} {vs vs' : List V} {ds ds' : List D}
/-- the own instance in the slot i is written -/
theorem EnvOk.updObj (e : EnvOk K Y A H σ ρ) (hl : look ρ i = some (.obj C ks ds)) (hs : σ[i]? = some (some (.ref p))) (hp : H p = some (.ins C dx (ks.zip vs))) (ap : A p) (np : Nt Y.H0 p ∧ Y.ob p dx) (l : ks'.length = vs'.length) (r : RpAll K A H vs' ds') :
    EnvOk K Y A (upd H p (.ins C dx (ks'.zip vs'))) σ (put ρ i (some (.obj C ks' ds'))) := by
  have kp : Keeps A H (upd H p (.ins C dx (ks'.zip vs'))) := keeps_upd ap
  have ok : AOk A (upd H p (.ins C dx (ks'.zip vs'))) := fun a z => by
    by_cases e1 : a = p
    · subst e1; exact .inr ⟨C, dx, _, upd_same⟩
    · rw [upd_ne e1]; exact e.aok a z
  refine ⟨Y.G.mutd e.go np.1 (.inr ⟨_, _, _, hp⟩), e.a0, e.fr, ok, by rw [put_length]; exact e.len, fun j s h => ?_, fun j k q s t h1 h2 i1 i2 e1 e2 => ?_⟩
  · by_cases hj : j = i
    · subst hj
      obtain ⟨q1, q2⟩ := look_put_eq h
      cases q1
      exact ⟨p, dx, vs', hs, upd_same, l, ap, np, r.move e.aok kp .refl⟩
    · rw [look_put_ne _ _ _ _ hj] at h
      have q := e.sl j s h
      cases s with
      | dat d =>
        obtain ⟨v, a, b⟩ := q
        exact ⟨v, a, b.move e.aok kp .refl⟩
      | own es =>
        obtain ⟨q1, ys, a, b, c, d, r'⟩ := q
        have ne : q1 ≠ p := fun z => hj (e.dist j i p _ _ h hl rfl rfl (z ▸ a) hs)
        exact ⟨q1, ys, a, by rw [upd_ne ne]; exact b, c, d, r'.move e.aok kp .refl⟩
      | obj C' ks'' es =>
        obtain ⟨q1, dx', ys, a, b, l', c, d, r'⟩ := q
        have ne : q1 ≠ p := fun z => hj (e.dist j i p _ _ h hl rfl rfl (z ▸ a) hs)
        exact ⟨q1, dx', ys, a, by rw [upd_ne ne]; exact b, l', c, d, r'.move e.aok kp .refl⟩
  · have f : ∀ j s, look (put ρ i (some (.obj C ks' ds'))) j = some s → isDat s = false → ∃ s', look ρ j = some s' ∧ isDat s' = false := fun j s h hd => by
      by_cases hj : j = i
      · subst hj; exact ⟨_, hl, rfl⟩
      · rw [look_put_ne _ _ _ _ hj] at h; exact ⟨s, h, hd⟩
    obtain ⟨s', a1, a2⟩ := f j s h1 i1
    obtain ⟨t', b1, b2⟩ := f k t h2 i2
    exact e.dist j k q s' t' a1 b1 a2 b2 e1 e2
end
section
variable {X : Cx} {Y : Yx} {e : Expr} {m : EM} {i : Nat} {x f : Str} {C : Addr} {pos p1 p2 : Pos}
theorem psd_fld (hc : Cls X.K C) (hn : NoAttr X.K C f) (he : PD X Y e m) (hN : X.N[i]? = some x := by rfl) (hv : Vis X.env.scope x := by first | exact Or.inl rfl | exact Or.inr (Or.inl rfl) | exact Or.inr (Or.inr rfl)) (hd : (x == ("__debug__" : Str)) = false := by decide)
    (hcd : (x == ("__classdict__" : Str)) = false := by decide) (hs : swapsWith e (some (.Attribute (.Name x p1) f p2)) pos.line X.env = pure false := by rfl) :
    PSd X Y (.Assign [.Attribute (.Name x p1) f p2] e pos) (fun ρ K => (match look ρ i with | some (.obj C' _ _) => C' = C | _ => False) ∧ sFldM i f m ρ K) :=
  ps_imp (ps_fld (pe_var hN hv hd hcd) he hs) fun E σ H ⟨A, ρ, K, env, ex, ⟨hC, h⟩, en⟩ => ⟨A, ρ, _, _, env, ex, h, fun v H1 d g1 r1 hq => by
    have e1 := env.step g1
    split at hq
    · rename_i C' ks ds hl
      rw [hl] at hC
      simp only at hC
      subst hC
      obtain ⟨p, dx, vs, h1, h2, l, ap, np, r⟩ := e1.sl i _ hl
      refine ⟨_, h1, p, C', dx, _, rfl, h2, hc, hn, ?_, ?_⟩
      · rw [List.length_zip, l, Nat.min_self, ← l]
        omega
      · rw [putF_new hq.1.1 l]
        refine en.nx A _ _ _ (Stp.trans (.ext (Y.G.ext g1)) ⟨keeps_upd ap, .refl⟩) (e1.updObj hl h1 h2 ap np ?_ (r.append (.cons r1 .nil))) hq.2
        rw [List.length_append, List.length_append, l]
        rfl
    · exact hq.elim⟩
end
/-- __init__ -/
@[simp] def startI (C : Addr) (N : List Str) (ds : List D) : DEnv := some (.obj C [] []) :: startD N.tail ds
@[simp] def ktI (C : Addr) (ks : List Str) (Q : List D → Prop) (E : Xn → Prop) : Kt := ⟨fun ρ => match look ρ 0 with | some (.obj C' ks' fs) => (C' = C ∧ ks' = ks) ∧ Q fs | _ => False, fun _ => False, fun _ => False, fun _ => False, fun _ => False, E⟩
section
variable {P : Program} {w : World} {K : PySem.W.Frag} {mg : Str → Option Value} {base : Heap} {qual : Str} {params : Arguments} {body : List Stmt} {scope : Scope} {f : Addr} {fd : FuncData} {N ps : List Str} {k n : Nat} {C : Addr} {ks : List Str}
theorem fnOkI_of {m : MI} {t : SM} (F : FunD K "__init__" qual params body scope [] [] f fd) (S : FnScope N ps scope) (hn : ps.length = n + 1) (hN : 0 < N.length)
    (hb : ∀ (cdv : Value) (A : Around) (outer : List Env) (s : Shared) (H : Hp) (E : XK) (Y : Yx), Cok k (cxOf (L2.CX P w) P w K mg base N qual scope f cdv A outer s H E) Y → PSsd (cxOf (L2.CX P w) P w K mg base N qual scope f cdv A outer s H E) Y body t)
    (hm : ∀ ds Q E, ds.length = n → m ds Q E → t (startI C N ds) (ktI C ks Q E)) : FnOk P w K mg base (L2.CX P w) (k + 1) f fd ps (spI K C ks n m) := by
  refine F.ok S (fun vs H Q E ⟨A, x, dx, as, ds, _, _, _, e, _, _, _, _, r, l, _⟩ => by rw [e, hn, List.length_cons, r.length, l]) fun cdv A outer s H vs Q E hr ⟨A0, x, dx, as, ds, Qd, Ed, H0, e, hx, s0, hxo, ok, r, l, hm', h1, h2⟩ => ?_
  subst e
  have ok1 := ok.ext (extN_same s0)
  have okx := ok1.own (.inr ⟨C, dx, [], hxo⟩)
  have fr : Fresh A0 (Ap A0 x) H0 := fun a z => z.elim .inl fun z => .inr (z ▸ Nt.of hx)
  have rx : RpAll K (Ap A0 x) H as ds := r.move ok (.ext (extN_same s0)) fr
  have e0 := envOk_start (G := GrSame) (ob := fun p d => p = x ∧ d = dx) (ex := E) (N := N.tail) okx rx
  refine ⟨_, hb cdv A outer s H E ⟨GrSame, H0, A0, E, fun p d => p = x ∧ d = dx⟩ ?_, Ap A0 x, startI C N ds, ktI C ks Qd Ed, ?_, ?_, hm ds Qd Ed l hm', ?_⟩
  · exact ⟨passes_call (takes_of rfl rfl rfl rfl) fun _ _ _ _ h => h, rfl, hr, S.nd, takes_of rfl rfl rfl rfl⟩
  · have st : L2.start N (.ref x :: as) = some (.ref x) :: L2.start N.tail as := by
      unfold L2.start
      rw [List.map_cons, List.cons_append, List.length_tail, List.length_cons]
      congr 3
      omega
    rw [st]
    refine ⟨s0, fun a z => ⟨.inl z, fun nt => ?_⟩, fun a z => z.elim .inl fun z => .inr (by rw [show a = x from z]; exact Nt.of hx), okx, congrArg (· + 1) e0.len, fun i sl h => ?_, fun i j p s t h1 h2 i1 i2 e1 e2 => ?_⟩
    · exact nt.nA ok z
    · cases i with
      | zero => cases h; exact ⟨x, dx, [], rfl, hxo, rfl, .inr rfl, ⟨Nt.of hx, rfl, rfl⟩, .nil⟩
      | succ i =>
        have q := e0.sl i sl h
        cases sl with
        | dat d => exact q
        | own es =>
          obtain ⟨d, e, _⟩ : ∃ d, Sl.own es = .dat d ∧ ds[i]? = some d := by
            rcases look_append h with ⟨_, q⟩ | q
            · exact look_dats q
            · exact (look_none q).elim
          cases e
        | obj C ks es =>
          obtain ⟨d, e, _⟩ : ∃ d, Sl.obj C ks es = .dat d ∧ ds[i]? = some d := by
            rcases look_append h with ⟨_, q⟩ | q
            · exact look_dats q
            · exact (look_none q).elim
          cases e
    · have key : ∀ i s, look (startI C N ds) i = some s → isDat s = false → i = 0 := fun i s h hd => by
        cases i with
        | zero => rfl
        | succ i =>
          rcases look_append (a := ds.map fun d => some (.dat d)) h with ⟨_, q⟩ | q
          · obtain ⟨d, e, _⟩ := look_dats q
            subst e
            cases hd
          · exact (look_none q).elim
      rw [key i s h1 i1, key j t h2 i2]
  · exact fun x cls dd H' z g r => h2 x cls dd H' z g r
  · refine ⟨fun A' σ' H' ρ' st e q => ?_, fun _ _ _ _ _ _ q => q.elim, fun _ _ _ _ _ _ q => q.elim, fun v H' d g r q => q.elim, fun p H' xs ds g n hl r q => q.elim⟩
    unfold ktI at q
    simp only at q
    split at q
    · rename_i C' ks' fs hl
      obtain ⟨⟨e0, e1⟩, q⟩ := q
      subst e1
      subst e0
      obtain ⟨p, dx', us, a1, a2, l', a3, ⟨a4, a5, a6⟩, r'⟩ := e.sl 0 _ hl
      have a5' : p = x := a5
      have a6' : dx' = dx := a6
      subst a5'
      subst a6'
      exact h1 fs us H' q e.go a2 l' (r'.move e.aok .refl fun a z => .inl (z.elim (fun z => (e.a0 a z).1) fun z => z ▸ a3))
    · exact q.elim
end
end WL
namespace WL
open L2 PySem PySem.Spec
open LamX (ExtN)

/-! ### raise C(e, ..), C an own error with its __init__ -/
/-- what such an __init__ keeps: the fields ks, the last one first -/
def spX (C : Addr) (ks : List Str) (n : Nat) : Sp := fun vs H Q _ => ∃ (e : Addr) (as : List V), vs = .ref e :: as ∧ as.length = n ∧ H e = some (exo e C none) ∧
  ∀ d H2, H d = none → d ≠ e → H2 e = some (exo e C (some d)) → H2 d = some (exd d (ks.zip as.reverse)) → (∀ b, b ≠ e → b ≠ d → H2 b = H b) → Q .non H2
structure ExAt (P : Program) (w : World) (K : PySem.W.Frag) (mg : Str → Option Value) (base : Heap) (k : Nat) (x : Str) (C : Addr) (ks : List Str) (n : Nat) : Prop where
  ex : ∃ (fI : Addr) (fd : FuncData) (ps : List Str), OexC K C ∧ PySem.W.findIn K (.ref C) "__init__" = some (some (.ref fI)) ∧ PySem.W.typeIn K (.ref fI) = some (.type "function") ∧ Binds K fd ps [] ∧ mg x = some (.ref C) ∧
    FnOk P w K mg base (L2.CX P w) k fI fd ps (spX C ks n)
  len : ks.length = n
@[simp ↓] def sRaise (C : Addr) (ks : List Str) (n : Nat) (ms : EMs) (ρ : DEnv) (K : Kt) : Prop := ms ρ (fun ds => (ds.length = n ∧ n ≤ 1000) ∧ K.ex ⟨C, ks, ds.reverse⟩) K.ex
section
variable {X : Cx} {Y : Yx} {e : Expr} {es : List Expr} {ms : EMs} {p pos pos' : Pos} {x : Str} {n k j : Nat} {C : Addr} {ks : List Str}
theorem psd_raise (c : Cok k X Y) (F : ExAt X.prog X.w X.K X.mg X.base j x C ks n) (ha : PAd X Y (e :: es) ms) (hj : j + 1 ≤ k := by decide) (hg : Gl X x := by rfl) (hdb : (x == ("__debug__" : Str)) = false := by decide)
    (he : starEach (e :: es) X.env = (false, eval e X.env) :: starEach es X.env := by rfl) (hpl : (backTo pos (starEach es X.env)).any (·.1) = false := by rfl) : PSd X Y (.Raise (some (.Call (.Name x p) (e :: es) [] pos)) none pos') (sRaise C ks n ms) := by
  obtain ⟨fI, fd, ps, h1, h2, h3, h4, h5, h6⟩ := F.ex
  have lk := F.len
  refine ps_imp (ps_raise c.calm c.tk (pmk_oex h1 h2 h3 h6 (c.room.mono hj) h4 .nil passL hg h5 ha hdb he hpl)) fun E σ H ⟨A, ρ, K, env, ex, h, en⟩ => ⟨A, ρ, _, _, env, ex, h, fun vs H1 ds g1 r1 hq => ?_⟩
  have lv := r1.length.trans hq.1.1
  refine ⟨by rw [lv]; exact hq.1.2, fun a ha => ⟨a, vs, by rw [List.append_nil], lv, upd_same, fun d H2 hd hne e1 e2 e3 => ⟨rfl, d, _, e1, e2, by rwa [upd_ne hne] at hd, ?_⟩⟩⟩
  have hd1 : H1 d = none := by rwa [upd_ne hne] at hd
  have sm : Same H1 (upd (del H2 a) d (.xd (ks.zip vs.reverse))) := fun b o hb => by
    have nb : b ≠ d := fun z => by rw [z, hd1] at hb; cases hb
    have na : b ≠ a := fun z => by rw [z, ha] at hb; cases hb
    rw [upd_ne nb, del_ne na, e3 b na nb, upd_ne na]
    exact hb
  have env1 := env.step g1
  refine ex ⟨C, ks, ds.reverse⟩ (.ref C) (some d) _ hq.2 (Y.G.trans env1.go (Y.G.same sm)) ⟨rfl, d, vs.reverse, rfl, upd_same, by rw [List.length_reverse, lv]; exact lk, ?_⟩
  exact (r1.rev.ext env1.aok (extN_same sm)).move (env1.aok.ext (extN_same sm)) .refl fun b z => .inl (env.a0 b z).1
end
end WL
namespace WL
open L2 PySem PySem.Spec
open LamX (ExtN)
def negM : F1
  | .int i, Q => Q (.int (-i))
  | _, _ => False
@[simp] theorem negM_e1 {i : Int} {Q : D → Prop} : negM (.int i) Q = (Q (.int (-i))) := rfl
/-- a module's tuple, without a dict -/
theorem pd_globN {X : Cx} {Y : Yx} {x : Str} {a : Addr} {xs : List V} {ds : List D} {pos : Pos} (hm : X.mg x = some (.ref a)) (h : ∃ o : Obj, X.K.lookup a = some o ∧ o.cls = .type "tuple" ∧ o.dict = none) (hs : ∀ H, SqT X.K H a xs) (r : ∀ A H, RpAll X.K A H xs ds) (hg : Gl X x := by rfl)
    (hd : (x == ("__debug__" : Str)) = false := by decide) : PD X Y (.Name x pos) (mK (.tpn ds)) :=
  pe_imp (pe_glob (v := .ref a) hg hm rfl hd) fun σ H Q ⟨A, ρ, Qd, E, env, ex, hm, k⟩ => k _ H _ (Y.G.refl H) (.tpn (.inr ⟨h, hs⟩) (r _ _)) hm
/-- a def as a value -/
theorem pd_fn {X : Cx} {Y : Yx} {x : Str} {f : Addr} {pos : Pos} (hm : X.mg x = some (.ref f)) (hg : Gl X x := by rfl) (hd : (x == ("__debug__" : Str)) = false := by decide) : PD X Y (.Name x pos) (mK (.adr f)) :=
  pd_glob (v := .ref f) hg hm rfl (fun _ _ _ => .adr f) hd
section
variable {X : Cx} {Y : Yx} {a : Expr} {ma : EM} {pos : Pos}
theorem pd_neg (ha : PD X Y a ma) : PD X Y (.UnaryOp .USub a pos) (m1 negM ma) :=
  pe_imp (pe_un un_neg ha) fun σ H Q ⟨A, ρ, Qd, E, env, ex, hm, k⟩ => ⟨A, ρ, _, E, env, ex, hm, fun v H1 d g r q => by
    cases r with
    | int i => exact ⟨i, rfl, k _ _ _ g (.int _) q⟩
    | _ => exact q.elim⟩
end
/-! ### operators that make a new list -/
abbrev F2F := D → D → (List D → Prop) → Prop
@[simp ↓] def m2F (F : F2F) (a b : EM) (ρ : DEnv) (Q : List D → Prop) (E : Xn → Prop) : Prop := a ρ (fun x => b ρ (fun y => F x y Q) E) E
def mulF : F2F
  | .lst xs, .int n, Q => (xs.length ≤ 1000 ∧ 0 ≤ n ∧ n ≤ 1000) ∧ Q (List.replicate n.toNat xs).flatten
  | _, _, _ => False
@[simp] theorem mulF_e1 {xs : List D} {n : Int} {Q : List D → Prop} : mulF (.lst xs) (.int n) Q = ((xs.length ≤ 1000 ∧ 0 ≤ n ∧ n ≤ 1000) ∧ Q (List.replicate n.toNat xs).flatten) := rfl
def addF : F2F
  | .lst xs, .lst ys, Q => xs.length + ys.length ≤ 100000 ∧ Q (xs ++ ys)
  | _, _, _ => False
@[simp] theorem addF_e1 {xs : List D} {ys : List D} {Q : List D → Prop} : addF (.lst xs) (.lst ys) Q = (xs.length + ys.length ≤ 100000 ∧ Q (xs ++ ys)) := rfl
section
variable {X : Cx} {Y : Yx} {a b : Expr} {ma mb : EM} {pos : Pos}
theorem pf_mul (ha : PQ X Y a ma) (hb : PQ X Y b mb) : PF X Y (.BinOp a .Mult b pos) (m2F mulF ma mb) :=
  pe_imp (pe_op op_rep ha hb) fun σ H Q ⟨A, ρ, Qd, E, env, ex, hm, k⟩ => ⟨A, ρ, _, E, env, ex, hm, fun v H1 d g1 r1 h1 => ⟨A, ρ, _, E, env.step g1, ex, h1, fun w H2 d2 g2 r2 h2 => by
    have env2 := (env.step g1).step g2
    have rl := Rq.ext (env.step g1).aok (Y.G.ext g2) r1
    cases rl with
    | @lst p xs ds h q1 =>
      cases r2 with
      | int n =>
        refine ⟨p, n, xs, rfl, rfl, h, by have := h2.1.2.1; omega, by have := h2.1.2.2; omega, ?_, fun l hl => ?_⟩
        · have e2 : xs.length * n.toNat ≤ 1000 * 1000 := Nat.mul_le_mul (by rw [q1.length]; exact h2.1.1) (by have := h2.1.2.2; omega)
          exact Nat.le_trans e2 (by decide)
        · have rr : ∀ m : Nat, RpAll X.K A H2 (List.replicate m xs).flatten (List.replicate m ds).flatten := fun m => by
            induction m with
            | zero => exact .nil
            | succ m ih =>
              rw [List.replicate_succ, List.replicate_succ, List.flatten_cons, List.flatten_cons]
              exact q1.append ih
          have g := Y.G.trans g1 g2
          exact k _ _ _ (Y.G.trans g (Y.G.same (upd_fresh_same hl))) ((rF_new env2.aok hl (rr _)).back (Y.G.ext g)) h2.2
      | _ => exact h2.elim
    | _ => exact h2.elim⟩⟩
theorem pf_add (ha : PQ X Y a ma) (hb : PQ X Y b mb) : PF X Y (.BinOp a .Add b pos) (m2F addF ma mb) :=
  pe_imp (pe_op op_cat ha hb) fun σ H Q ⟨A, ρ, Qd, E, env, ex, hm, k⟩ => ⟨A, ρ, _, E, env, ex, hm, fun v H1 d g1 r1 h1 => ⟨A, ρ, _, E, env.step g1, ex, h1, fun w H2 d2 g2 r2 h2 => by
    have env2 := (env.step g1).step g2
    have rl := Rq.ext (env.step g1).aok (Y.G.ext g2) r1
    cases rl with
    | @lst p xs ds h q1 =>
      cases r2 with
      | @lst q ys es h3 q2 =>
        refine ⟨p, q, xs, ys, rfl, rfl, h, h3, ?_, fun l hl => ?_⟩
        · rw [q1.length, q2.length]; exact Nat.le_trans h2.1 (by decide)
        · have g := Y.G.trans g1 g2
          exact k _ _ _ (Y.G.trans g (Y.G.same (upd_fresh_same hl))) ((rF_new env2.aok hl (q1.append q2)).back (Y.G.ext g)) h2.2
      | _ => exact h2.elim
    | _ => exact h2.elim⟩⟩
end
/-! ### names of the boot -/
theorem bb_len : bootBuiltins "len" = some (.builtin "len") := PySem.boot_len
theorem bb_int : bootBuiltins "int" = some (.type "int") := PyProof.Rows.boot_int
theorem bb_str : bootBuiltins "str" = some (.type "str") := PyProof.Rows.boot_str
theorem bb_bool : bootBuiltins "bool" = some (.type "bool") := PyProof.Rows.boot_bool
theorem bb_list : bootBuiltins "list" = some (.type "list") := PyProof.Rows.boot_list
theorem bb_tuple : bootBuiltins "tuple" = some (.type "tuple") := PyProof.Rows.boot_tuple
theorem bb_dict : bootBuiltins "dict" = some (.type "dict") := PyProof.Rows.boot_dict
theorem bb_abs : bootBuiltins "abs" = some (.builtin "abs") := PyProof.Rows.boot_abs
theorem bb_sum : bootBuiltins "sum" = some (.builtin "sum") := by decide +kernel
theorem bb_max : bootBuiltins "max" = some (.builtin "max") := by decide +kernel
theorem bb_min : bootBuiltins "min" = some (.builtin "min") := by decide +kernel
theorem bb_all : bootBuiltins "all" = some (.builtin "all") := by decide +kernel
theorem bb_any : bootBuiltins "any" = some (.builtin "any") := by decide +kernel
def bnames : List Str := ["len", "int", "str", "bool", "list", "tuple", "dict", "abs", "sum", "max", "min", "all", "any", "isinstance", "range", "enumerate", "zip", "repr", "sorted", "set"]
end WL
namespace WL
open L2 PySem PySem.Spec
open LamX (ExtN)
/-! ### within __init__ -/
@[simp ↓] def mAttrO (i : Nat) (C : Addr) (f : Str) (ρ : DEnv) (Q : D → Prop) (_ : Xn → Prop) : Prop := match look ρ i with
  | some (.obj C' ks ds) => C' = C ∧ optQ (ixF f ks) fun j => optQ ds[j]? Q
  | _ => False
@[simp ↓] def sFldC (C : Addr) (i : Nat) (f : Str) (m : EM) (ρ : DEnv) (K : Kt) : Prop := (match look ρ i with | some (.obj C' _ _) => C' = C | _ => False) ∧ sFldM i f m ρ K
section
variable {X : Cx} {Y : Yx} {i : Nat} {C : Addr} {f x : Str} {pos p1 : Pos}
theorem pd_attrO (c : Cls X.K C) (n : NoAttr X.K C f) (hN : X.N[i]? = some x := by rfl) (hv : Vis X.env.scope x := by first | exact Or.inl rfl | exact Or.inr (Or.inl rfl) | exact Or.inr (Or.inr rfl)) (hd : (x == ("__debug__" : Str)) = false := by decide)
    (hcd : (x == ("__classdict__" : Str)) = false := by decide) (hb : attributeBase (.Name x p1) f X.env (eval (.Name x p1) X.env) = eval (.Name x p1) X.env := by rfl) : PD X Y (.Attribute (.Name x p1) f pos) (mAttrO i C f) := by
  refine pe_imp (pe_fld (pe_var hN hv hd hcd) hb) fun σ H Q ⟨A, ρ, Qd, E, env, ex, hm, k⟩ => ?_
  unfold mAttrO at hm
  split at hm
  · rename_i C' ks ds hl
    obtain ⟨e, hm⟩ := hm
    subst e
    obtain ⟨j, hj, hm⟩ := optQ_some hm
    obtain ⟨d, hd, hm⟩ := optQ_some hm
    obtain ⟨p, dx, vs, h1, h2, l, ap, np, r⟩ := env.sl i _ hl
    obtain ⟨v, hv, rv⟩ := r.get hd
    exact ⟨_, h1, p, C', dx, _, v, rfl, h2, c, n, (ixF_some hj l).trans hv, k v H d (Y.G.refl H) rv hm⟩
  · exact hm.elim
end
/-! ### == by an own __eq__ -/
structure EqAt (P : Program) (w : World) (K : PySem.W.Frag) (mg : Str → Option Value) (base : Heap) (k : Nat) (C : Addr) (m : List D → M) : Prop where
  ex : ∃ (f : Addr) (fd : FuncData) (ps : List Str), PySem.W.findIn K (.ref C) "__eq__" = some (some (.ref f)) ∧ PySem.W.isFn K (.ref f) = true ∧ Binds K fd ps [] ∧ FnOk P w K mg base (L2.CX P w) k f fd ps (spD K 2 m)
  ins : C8.InsC K C
  nf : ∀ T ∈ plainTs, PySem.W.notFirst K C (.type T) = true
@[simp] def eqOk (C : Addr) : D → Prop
  | .ins C'' _ _ => C'' = C
  | .row => False
  | .adr _ => False
  | _ => True
@[simp] def blQ (Q : D → Prop) : D → Prop
  | .bl b => Q (.bl b)
  | _ => False
/-- x == y, x an instance of C; the answer is a bool -/
@[simp] def eqO (C : Addr) (m : List D → M) (x : D) (y : D) (Q : D → Prop) : Prop := match x with
  | .ins C' ks fs => (C' = C ∧ eqOk C y) ∧ m [.ins C' ks fs, y] (blQ Q) (fun _ => False)
  | _ => False
section
variable {X : Cx} {Y : Yx} {a b : Expr} {ma mb : EM} {C : Addr} {m : List D → M} {k j : Nat} {pos : Pos}
theorem rp_ty {K : PySem.W.Frag} {A : Addr → Prop} {H : Hp} {v : V} {d : D} (r : Rp K A H v d) (c : C8.InsC K C) (hq : eqOk C d) : (∃ T ∈ plainTs, TyX K H v (.type T)) ∨ TyX K H v (.ref C) := by
  cases r with
  | non => exact .inl ⟨"NoneType", by decide, .base .non⟩
  | bl b => exact .inl ⟨"bool", by decide, .base (.bl b)⟩
  | int i => exact .inl ⟨"int", by decide, .base (.int i)⟩
  | str x => exact .inl ⟨"str", by decide, .base (.str x)⟩
  | tup h r => exact .inl ⟨"tuple", by decide, sqT_ty h⟩
  | tpn h r => exact .inl ⟨"tuple", by decide, sqT_ty h.seq⟩
  | lst h n r => exact .inl ⟨"list", by decide, .base (.lst h)⟩
  | dic h l n r => exact .inl ⟨"dict", by decide, .base (.dK h)⟩
  | ins e l n r =>
    have z : _ = C := hq
    subst z
    exact .inr (.base (.ins e c.cl c.ha c.hn c.htk c.hm))
  | row _ _ _ => exact hq.elim
  | adr _ => exact hq.elim
theorem op_eqO (hr : Room k X.A) (F : EqAt X.prog X.w X.K X.mg X.base k C m) : OpR X (compareOp .Eq) (fun x y H Q => ∃ (a dx : Addr) (fs : List (Str × V)) (tb : Value), x = .ref a ∧ H a = some (.ins C dx fs) ∧ TyX X.K H y tb ∧ PySem.W.notFirst X.K C tb = true ∧ spD X.K 2 m [x, y] H (fun v H' => ∃ b, v = .bl b ∧ Q v H') (fun _ _ _ => False)) := by
  obtain ⟨f, fd, ps, hs, hf, hb, Fn⟩ := F.ex
  intro pins s σ H x y v u Q I rx ry ⟨a, dx, fs, tb, e, ha, ty, nf, hsp⟩
  subst e
  cases rx
  obtain ⟨mA, J, _⟩ := ins_get I.hok ha
  obtain ⟨od, J, _⟩ := J.look
  obtain ⟨m0, hF⟩ := I.fr
  obtain ⟨P, kx, hP, _⟩ := kit_of I ry ty
  show wpAny (model X.prog X.w) X.A (richCompare .Eq (.ref a) u) (EP X pins σ Q) X.xe s
  refine PySem.W.cmp_K (op := .Eq) (tb := tb) hr.units0 hF I.ok.mod.kin J (kx.ty _ _ I.kIn hP) nf hs hf ?_
  have hl := Fn.len _ _ _ _ hsp
  have r2 : Vals [V.ref a, y] [Value.ref a, u] := .cons rfl (.cons ry .nil)
  refine wpAny_call (codeAny_mono (Fn.run X.A X.stack s H ⟨[.ref a, u], []⟩ [.ref a, u] [.ref a, y] _ _ hr I.env0 (by
    have q := hb s [.ref a, u] I.kIn (by simpa using hl)
    simpa using q) r2 hsp) fun r s' hq => ?_)
  cases r with
  | error e => exact (passL (X := X) pins σ H s e s' I hq)
  | ok fl =>
    cases fl with
    | ret w =>
      obtain ⟨z, H', I', rz, c, ez, q⟩ := I.after hq
      subst ez
      cases rz
      exact ⟨.bl c, H', I', rfl, q⟩
    | next => exact False.elim hq
    | brk => exact False.elim hq
    | cont => exact False.elim hq
theorem pd_eqO (c : Cok k X Y) (F : EqAt X.prog X.w X.K X.mg X.base j C m) (ha : PD X Y a ma) (hb : PD X Y b mb) (hj : j ≤ k := by decide) : PD X Y (.Compare a [.Eq] [b] pos) (m2 (eqO C m) ma mb) :=
  pe_imp (pe_cmpR (op_eqO (c.room.mono hj) F) ha hb (nomark _)) fun σ H Q ⟨A, ρ, Qd, E, env, ex, hm, k⟩ => ⟨A, ρ, _, E, env, ex, hm, fun v H1 d g1 r1 h1 => ⟨A, ρ, _, E, env.step g1, ex, h1, fun w H2 d2 g2 r2 h2 => by
    have env2 := (env.step g1).step g2
    have rl := r1.ext (env.step g1).aok (Y.G.ext g2)
    cases rl with
    | @ins p C' dx ks vs ds h l n r =>
      obtain ⟨⟨e, hd⟩, hm2⟩ := h2
      subst e
      have fin : ∀ tb, TyX X.K H2 w tb → PySem.W.notFirst X.K C' tb = true → _ := fun tb ty nf => (⟨p, dx, _, tb, rfl, h, ty, nf, A, [.ins C' ks ds, d2], blQ Qd, fun _ => False, env2.aok, .cons (.ins h l n r) (.cons r2 .nil), rfl, hm2, fun d v H' q s r => by
          cases r with
          | bl b => exact ⟨b, rfl, k _ _ _ (Y.G.trans g1 (Y.G.trans g2 (Y.G.same s))) (.bl b) q⟩
          | _ => exact q.elim, fun _ _ _ _ z => z.elim⟩ : ∃ (a dx : Addr) (fs : List (Str × V)) (tb : Value), V.ref p = .ref a ∧ H2 a = some (.ins C' dx fs) ∧ TyX X.K H2 w tb ∧ PySem.W.notFirst X.K C' tb = true ∧ spD X.K 2 m [V.ref p, w] H2 (fun v H' => ∃ b, v = .bl b ∧ Q v H') (fun _ _ _ => False))
      rcases rp_ty r2 F.ins hd with ⟨T, hT, ty⟩ | ty
      · exact fin _ ty (F.nf T hT)
      · exact fin _ ty (by simp [PySem.W.notFirst])
    | _ => exact h2.elim⟩⟩
end
end WL
namespace WL
open L2 PySem PySem.Spec
/-! ### what the basics promise -/
def whB : D → Bool
  | .int _ => true
  | _ => false
def wiB (v : D) (a b : Int) : Bool := match v with
  | .int i => decide (a ≤ i) && decide (i ≤ b)
  | _ => false
def letters : Str := "abcdefghijklmnopqrstuvwxyz"
def nmB : D → Bool
  | .str x => (decide ((1 : Int) ≤ (x.length : Nat)) && decide (((x.length : Nat) : Int) ≤ 8)) && x.cps.toList.all fun c => decide (c ∈ letters.cps.toList)
  | _ => false
def rwB (v : D) (n : Int) : Bool := match v with
  | .tup ds => (((ds.length : Nat) : Int) == n)
  | _ => false
def m_is_whole (_ : PySem.W.Frag) : List D → M := fun ds Q _ => match ds with
  | [d] => Ok d ∧ Q (.bl (whB d))
  | _ => False
def m_is_within (_ : PySem.W.Frag) : List D → M := fun ds Q _ => match ds with
  | [d, .int a, .int b] => Ok d ∧ Q (.bl (wiB d a b))
  | _ => False
def m_is_name (_ : PySem.W.Frag) : List D → M := fun ds Q _ => match ds with
  | [d] => Ok d ∧ Q (.bl (nmB d))
  | _ => False
def m_is_row (_ : PySem.W.Frag) : List D → M := fun ds Q _ => match ds with
  | [d, .int n] => Ok d ∧ Q (.bl (rwB d n))
  | _ => False
theorem Ok.str {x : Str} (h : Ok (.str x)) : x.length ≤ 1000 := by
  unfold Ok okD at h
  rw [Bool.and_eq_true] at h
  exact of_decide_eq_true h.2
theorem Ok.i (i : Int) : Ok (.int i) := rfl
theorem Ok.b (b : Bool) : Ok (.bl b) := rfl
theorem Ok.n : Ok .non := rfl
/-- Ok data are of the plain kinds -/
theorem Ok.cases {P : D → Prop} {d : D} (h : Ok d) (h1 : P .non) (h2 : ∀ b, P (.bl b)) (h3 : ∀ i, P (.int i)) (h4 : ∀ x, x.length ≤ 1000 → Ok (.str x) → P (.str x)) (h5 : ∀ ds, Ok (.tup ds) → P (.tup ds)) (h6 : ∀ ds, Ok (.lst ds) → P (.lst ds)) : P d := by
  cases d with
  | non => exact h1
  | bl b => exact h2 b
  | int i => exact h3 i
  | str x => exact h4 x h.str h
  | tup ds => exact h5 ds h
  | lst ds => exact h6 ds h
  | ins _ _ _ => exact (Bool.noConfusion h)
  | row => exact (Bool.noConfusion h)
  | adr _ => exact (Bool.noConfusion h)
  | dic _ _ => exact (Bool.noConfusion h)
  | tpn _ => exact (Bool.noConfusion h)
end WL
namespace WL
open L2 PySem PySem.Spec
/-! ### loops, comprehensions -/
section
variable {tg : Tg} {tt : EMt} {te : EM} {ρ0 : DEnv}
theorem lc_inv (I : Nat → List D → Prop) {ds : List D} {Q : List D → Prop} (h0 : I 0 [])
    (hs : ∀ i d acc (Rt : D → Prop) (Rf : Prop), ds[i]? = some d → I i acc → (∀ y, I (i + 1) (acc ++ [y]) → Rt y) → (I (i + 1) acc → Rf) → bindT tg d ρ0 fun ρ' => tt ρ' (fun b => if b = true then te ρ' Rt no else Rf) no)
    (hd : ∀ acc, I ds.length acc → Q acc) : lcGo tg tt te ρ0 ds [] Q := by
  have key : ∀ (r : List D) (i : Nat) (acc : List D), (∀ j, r[j]? = ds[i + j]?) → i + r.length = ds.length → I i acc → lcGo tg tt te ρ0 r acc Q := by
    intro r
    induction r with
    | nil =>
      intro i acc _ hl h
      have e : i = ds.length := by simpa using hl
      subst e
      exact hd acc h
    | cons d r ih =>
      intro i acc he hl h
      have e0 : ds[i]? = some d := by simpa using (he 0).symm
      have he' : ∀ j, r[j]? = ds[i + 1 + j]? := fun j => by
        have q := he (j + 1)
        rw [List.getElem?_cons_succ] at q
        rw [q]
        congr 1
        omega
      have hl' : i + 1 + r.length = ds.length := by rw [List.length_cons] at hl; omega
      exact hs i d acc _ _ e0 h (fun y hy => ih (i + 1) _ he' hl' hy) fun h' => ih (i + 1) _ he' hl' h'
  exact key ds 0 [] (fun j => by rw [Nat.zero_add]) (Nat.zero_add _) h0
/-- every item goes to f of it -/
theorem lc_map (f : D → D) {ds : List D} {Q : List D → Prop} (hs : ∀ d ∈ ds, ∀ R : D → Prop, R (f d) → bindT tg d ρ0 fun ρ' => te ρ' R no) (hd : Q (ds.map f)) : lcGo tg mYes te ρ0 ds [] Q := by
  refine lc_inv (fun i acc => acc = (ds.take i).map f) rfl (fun i d acc Rt Rf hd h ht _ => ?_) fun acc h => ?_
  · have hm := List.mem_of_getElem? hd
    have e : (ds.take (i + 1)).map f = (ds.take i).map f ++ [f d] := by
      rw [List.take_succ, hd]
      simp
    have q := hs d hm Rt (ht _ (by rw [h, e]))
    simpa [mYes] using q
  · rw [h, List.take_length]
    exact hd
/-- those of p, each f of it -/
theorem lc_filter (p : D → Bool) (f : D → D) {ds : List D} {Q : List D → Prop} (hs : ∀ d ∈ ds, ∀ (Rt : D → Prop) (Rf : Prop), (p d = true → Rt (f d)) → (p d = false → Rf) → bindT tg d ρ0 fun ρ' => tt ρ' (fun b => if b = true then te ρ' Rt no else Rf) no)
    (hd : Q ((ds.filter p).map f)) : lcGo tg tt te ρ0 ds [] Q := by
  refine lc_inv (fun i acc => acc = ((ds.take i).filter p).map f) rfl (fun i d acc Rt Rf hd h ht hf => ?_) fun acc h => ?_
  · have hm := List.mem_of_getElem? hd
    have e : (ds.take (i + 1)) = ds.take i ++ [d] := by
      rw [List.take_succ, hd]
      rfl
    refine hs d hm Rt Rf (fun hp => ht _ ?_) fun hp => hf ?_
    · rw [h, e, List.filter_append, List.map_append]
      simp [List.filter_cons, hp]
    · rw [h, e, List.filter_append, List.map_append]
      simp [List.filter_cons, hp]
  · rw [h, List.take_length]
    exact hd
end
theorem forD_inv {b : D → SM} {K : Kt} (I : Nat → DEnv → Prop) {ds : List D} {ρ : DEnv} (h0 : I 0 ρ)
    (hs : ∀ i d ρ (N : DEnv → Prop), ds[i]? = some d → I i ρ → (∀ ρ', I (i + 1) ρ' → N ρ') → b d ρ { K with nx := N, ct := N, bk := K.nx }) (hd : ∀ ρ, I ds.length ρ → K.nx ρ) : forD b ds ρ K := by
  have key : ∀ (r : List D) (i : Nat) (ρ : DEnv), (∀ j, r[j]? = ds[i + j]?) → i + r.length = ds.length → I i ρ → forD b r ρ K := by
    intro r
    induction r with
    | nil =>
      intro i ρ _ hl h
      have e : i = ds.length := by simpa using hl
      subst e
      exact hd ρ h
    | cons d r ih =>
      intro i ρ he hl h
      have e0 : ds[i]? = some d := by simpa using (he 0).symm
      have he' : ∀ j, r[j]? = ds[i + 1 + j]? := fun j => by
        have q := he (j + 1)
        rw [List.getElem?_cons_succ] at q
        rw [q]
        congr 1
        omega
      have hl' : i + 1 + r.length = ds.length := by rw [List.length_cons] at hl; omega
      exact hs i d ρ _ e0 h fun ρ' h' => ih (i + 1) ρ' he' hl' h'
  exact key ds 0 ρ (fun j => by rw [Nat.zero_add]) (Nat.zero_add _) h0
theorem while_inv {c : EMt} {t : SM} {K : Kt} (I : DEnv → Prop) (μ : DEnv → Nat) {ρ : DEnv} (h0 : I ρ)
    (hs : ∀ ρ (N : DEnv → Prop), I ρ → (∀ ρ', I ρ' → μ ρ' < μ ρ → N ρ') → c ρ (fun b => if b = true then t ρ { K with nx := N, ct := N, bk := K.nx } else K.nx ρ) K.ex) : sWhile c t ρ K := by
  have key : ∀ n ρ, I ρ → μ ρ < n → whN c t n ρ K := by
    intro n
    induction n with
    | zero => intro ρ _ h; exact absurd h (Nat.not_lt_zero _)
    | succ n ih =>
      intro ρ h hn
      exact hs ρ (fun ρ' => whN c t n ρ' K) h fun ρ' h' hl => ih ρ' h' (by omega)
  exact ⟨μ ρ + 1, key _ ρ h0 (Nat.lt_succ_self _)⟩
/-! ### basics -/
theorem okDs_mem {n : Nat} : ∀ {ds : List D} {d : D}, okDs n ds = true → d ∈ ds → okD n d = true
  | [], _, _, h => by cases h
  | e :: r, d, h, hm => by
    cases n with
    | zero => cases h
    | succ n =>
      rw [okDs, Bool.and_eq_true] at h
      rcases List.mem_cons.mp hm with q | q
      · rw [q]; exact okD_mono n (n + 1) e (Nat.le_succ _) h.1
      · exact okDs_mem h.2 q
theorem Ok.mem {ds : List D} {d : D} (h : Ok (.tup ds)) (hm : d ∈ ds) : Ok d := okDs_mem (show okDs 60 ds = true from h) hm
theorem Ok.memL {ds : List D} {d : D} (h : Ok (.lst ds)) (hm : d ∈ ds) : Ok d := okDs_mem (show okDs 60 ds = true from h) hm
theorem okDs_of {n : Nat} : ∀ {ds : List D}, (∀ d ∈ ds, okD n d = true) → okDs (n + 1) ds = true
  | [], _ => by rw [okDs]
  | d :: r, h => by
    rw [okDs, h d (List.mem_cons_self ..), okDs_of fun e he => h e (List.mem_cons_of_mem _ he)]
    rfl
theorem okDs_sub {n : Nat} {ds es : List D} (h : okDs n ds = true) (hs : ∀ d ∈ es, d ∈ ds) : okDs n es = true := by
  induction es with
  | nil => rw [okDs]
  | cons e r ih =>
    cases n with
    | zero =>
      have hm := hs e (List.mem_cons_self ..)
      cases ds with
      | nil => cases hm
      | cons _ _ => cases h
    | succ n =>
      rw [okDs, Bool.and_eq_true]
      refine ⟨?_, ih fun d hd => hs d (List.mem_cons_of_mem _ hd)⟩
      have key : ∀ {ds : List D}, okDs (n + 1) ds = true → e ∈ ds → okD n e = true := by
        intro ds
        induction ds with
        | nil => intro _ h; cases h
        | cons d ds ih2 =>
          intro h hm
          rw [okDs, Bool.and_eq_true] at h
          rcases List.mem_cons.mp hm with q | q
          · rw [q]; exact h.1
          · exact ih2 h.2 q
      exact key h (hs e (List.mem_cons_self ..))
theorem Ok.tsub {ds es : List D} (h : Ok (.tup ds)) (hs : ∀ d ∈ es, d ∈ ds) : Ok (.tup es) := okDs_sub (show okDs 60 ds = true from h) hs
theorem Ok.take {ds : List D} (h : Ok (.tup ds)) (n : Nat) : Ok (.tup (ds.take n)) := h.tsub fun _ hd => List.mem_of_mem_take hd
theorem Ok.drop {ds : List D} (h : Ok (.tup ds)) (n : Nat) : Ok (.tup (ds.drop n)) := h.tsub fun _ hd => List.mem_of_mem_drop hd
theorem ok_letters : Ok (.str letters) := by
  show okD 60 (.str letters) = true
  decide +kernel
theorem blsOf_f {α : Type} (f : α → Bool) (l : List α) : blsOf (l.map fun c => D.bl (f c)) = some (l.map f) := by
  rw [show (l.map fun c => D.bl (f c)) = (l.map f).map D.bl by rw [List.map_map]; rfl]
  exact blsOf_map _
theorem intsOf_f {α : Type} (f : α → Int) (l : List α) : intsOf (l.map fun c => D.int (f c)) = some (l.map f) := by
  rw [show (l.map fun c => D.int (f c)) = (l.map f).map D.int by rw [List.map_map]; rfl]
  exact intsOf_map _
end WL
namespace WL
open L2 PySem PySem.Spec
/-! ### slices -/
theorem cutL_pre {α : Type} (xs : List α) (i : Nat) : cutL xs none (some (i : Int)) = xs.take i := by
  unfold cutL
  rw [HT.sIx_none, HT.sIx_nat, List.drop_zero, Nat.sub_zero]
  by_cases h : i ≤ xs.length
  · rw [Nat.min_eq_left h]
  · rw [Nat.min_eq_right (by omega), List.take_length, List.take_of_length_le (by omega)]
theorem cutL_suf {α : Type} (xs : List α) (i : Nat) : cutL xs (some (i : Int)) none = xs.drop i := by
  unfold cutL
  rw [HT.sIx_none, HT.sIx_nat]
  by_cases h : i ≤ xs.length
  · rw [Nat.min_eq_left h, List.take_of_length_le (by rw [List.length_drop]; exact Nat.le_refl _)]
  · rw [Nat.min_eq_right (by omega), List.drop_length, List.drop_of_length_le (by omega), List.take_nil]
/-! ### promises of the basics -/
def ks_BadPart : List Str := ["place", "part"]
def ks_BadNumber : List Str := ["value"]
def ks_Unknown : List Str := ["name"]
/-- the place that an error tells: none for the thing itself -/
def plD (d : D) : D := if eqD d (.int (-1)) = true then .non else d
def m_require_part (K : PySem.W.Frag) : List D → M := fun ds Q E => match ds with
  | [part, place] => Ok place ∧ (place = .non → Q .non) ∧ (place ≠ .non → E ⟨He.ga K "BadPart", ks_BadPart, [plD place, part]⟩)
  | _ => False
def fwGo (P : D → List D → Bool) (all : List D) : Nat → List D → D
  | _, [] => .non
  | i, d :: r => if P d (all.take i) = true then fwGo P all (i + 1) r else .int (i : Nat)
def fwD (P : D → List D → Bool) (v : D) (lo hi : Int) : D := match v with
  | .tup ds => if lo ≤ ((ds.length : Nat) : Int) ∧ ((ds.length : Nat) : Int) ≤ hi then fwGo P ds 0 ds else .int (-1)
  | _ => .int (-1)
/-- what a judge of rows says, given that those ahead are right -/
def Jdg (P : D → List D → Bool) (m : List D → M) : Prop := ∀ row ahead (Q : D → Prop) (E : Xn → Prop), Ok row → Ok (.tup ahead) → ahead.length ≤ 1000 → (∀ i d, ahead[i]? = some d → P d (ahead.take i) = true) → Q (.bl (P row ahead)) → m [row, .tup ahead] Q E
def mG_first_wrong (a : Addr) (P : D → List D → Bool) : List D → M := fun ds Q _ => match ds with
  | [v, .int lo, .int hi, .adr f] => (f = a ∧ hi ≤ 1000) ∧ Ok v ∧ Q (fwD P v lo hi)
  | _ => False
end WL
namespace WL
open L2 PySem PySem.Spec
def N_is_whole : List Str := ["value"]
def P_is_whole : List Str := ["value"]
def t_is_whole (K : PySem.W.Frag) : SM :=
  (sRet (mAndV (mB1 (isTyM K "int") (mVar 0)) (mNotV (mB1 (isTyM K "bool") (mVar 0)))))
def N_is_within : List Str := ["value", "least", "most"]
def P_is_within : List Str := ["value", "least", "most"]
def t_is_within (K : PySem.W.Frag) : SM :=
  (sRet (mAndV (mCall 1 (m_is_whole K) (mCons (mVar 0) mNil)) (m3v leM leM (mVar 1) (mVar 0) (mVar 2))))
def N_is_name : List Str := ["value", "sign"]
def P_is_name : List Str := ["value"]
def t_is_name (K : PySem.W.Frag) : SM :=
  (sSeq (sIf (mOr (mNot (mTru (mB1 (isTyM K "str") (mVar 0)))) (mNot (m3t leM leM (mK (.int 1)) (m1 lenM (mVar 0)) (mK (.int 8)))))
  (sRet (mK (.bl false)))
  sNext)
  (sRet (m1 allM (mNew (mLc (miS (mVar 0)) [1] (.nm 1) mYes (m2v inM (mVar 1) (mK (.str "abcdefghijklmnopqrstuvwxyz"))))))))
def N_is_row : List Str := ["value", "size"]
def P_is_row : List Str := ["value", "size"]
def t_is_row (K : PySem.W.Frag) : SM :=
  (sRet (mAndV (mB1 (isTyM K "tuple") (mVar 0)) (m2v eqM (m1 lenM (mVar 0)) (mVar 1))))
theorem s_is_whole (K : PySem.W.Frag) : ∀ ds Q E, ds.length = 1 → m_is_whole K ds Q E → t_is_whole K (startD N_is_whole ds) (kt Q E) := by
  intro ds Q E hl h
  unfold m_is_whole at h
  split at h
  · obtain ⟨ok, q⟩ := h
    rename_i d
    cases d <;> first | exact (Bool.noConfusion ok) | simpa [t_is_whole, N_is_whole, whB] using q
  · exact h.elim
theorem s_is_within (K : PySem.W.Frag) : ∀ ds Q E, ds.length = 3 → m_is_within K ds Q E → t_is_within K (startD N_is_within ds) (kt Q E) := by
  intro ds Q E hl h
  unfold m_is_within at h
  split at h
  · rename_i d a b
    obtain ⟨ok, q⟩ := h
    cases d <;> first | exact (Bool.noConfusion ok) | (simp [t_is_within, N_is_within, whB, wiB, m_is_whole] at q ⊢; first | exact ⟨ok, q⟩ | skip)
    refine ⟨ok, ?_⟩
    split
    · simpa [*] using q
    · simpa [*] using q
  · exact h.elim
theorem s_is_row (K : PySem.W.Frag) : ∀ ds Q E, ds.length = 2 → m_is_row K ds Q E → t_is_row K (startD N_is_row ds) (kt Q E) := by
  intro ds Q E hl h
  unfold m_is_row at h
  split at h
  · rename_i d n
    obtain ⟨ok, q⟩ := h
    cases d <;> first | exact (Bool.noConfusion ok) | (simp [t_is_row, N_is_row, rwB, Ok.i, eqD] at q ⊢; exact q)
  · exact h.elim
theorem inS_letters (c : Nat) : inS ⟨#[c]⟩ letters = decide (c ∈ letters.cps.toList) := inS_one c letters
theorem s_is_name (K : PySem.W.Frag) : ∀ ds Q E, ds.length = 1 → m_is_name K ds Q E → t_is_name K (startD N_is_name ds) (kt Q E) := by
  intro ds Q E hl h
  unfold m_is_name at h
  split at h
  · rename_i d
    obtain ⟨ok, q⟩ := h
    cases d <;> first | exact (Bool.noConfusion ok) | (simp [t_is_name, N_is_name, nmB] at q ⊢; first | exact q | skip)
    rename_i x
    refine ⟨ok.str, ?_⟩
    have key : ∀ R : List D → Prop, R (x.cps.toList.map fun c => .bl (decide (c ∈ letters.cps.toList))) → lcGo (.nm 1) mYes (m2v inM (mVar 1) (mK (.str "abcdefghijklmnopqrstuvwxyz"))) [some (.dat (.str x)), none] (chars x) [] R := fun R hR => by
      refine lc_map (fun d => .bl (match d with | .str y => inS y letters | _ => false)) (fun d hd R' hR' => ?_) ?_
      · obtain ⟨c, hc, rfl⟩ := List.mem_map.mp hd
        simpa [letters] using hR'
      · simpa [chars, Function.comp_def, inS_letters] using hR
    have el : (chars x).length = x.length := by simp [chars, Str.length]
    by_cases h1 : (1 : Int) ≤ ((x.length : Nat) : Int)
    · by_cases h3 : ((x.length : Nat) : Int) ≤ 8
      · have h4 : ¬ (8 : Int) < ((x.length : Nat) : Int) := by omega
        simp only [h1, h3, decide_true, Bool.true_and] at q
        simp only [h1, h3, h4, if_true, if_false, ite_true, ite_false]
        refine ⟨by rw [el]; omega, key _ ?_⟩
        rw [blsOf_f]
        simpa [List.all_map, Function.comp_def] using q
      · have h4 : (8 : Int) < ((x.length : Nat) : Int) := by omega
        simpa [h1, h3, h4] using q
    · simpa [h1] using q
  · exact h.elim
end WL
namespace WL
open L2 PySem PySem.Spec
def N_require_part : List Str := ["part", "place"]
def P_require_part : List Str := ["part", "place"]
def t_require_part (K : PySem.W.Frag) : SM :=
  (sIf (m2t isNotM (mVar 1) (mK .non))
  (sRaise (He.ga K "BadPart") ks_BadPart 2 (mCons (mVar 0) (mCons (mIf (m2t eqM (mVar 1) (m1 negM (mK (.int 1)))) (mK .non) (mVar 1)) mNil)))
  sNext)
def N_require_parts : List Str := ["thing", "words", "parts", "judge", "place", "word"]
def P_require_parts : List Str := ["thing", "words", "parts", "judge"]
def t_require_parts (K : PySem.W.Frag) (a_judge : Addr) (m_judge : List D → M) : SM :=
  (sSeq (sIf (mNot (mTru (mCall 2 (m_is_row K) (mCons (mVar 2) (mCons (m1 lenM (mUn (mVar 1))) mNil)))))
  (sDrop (mCall 2 (m_require_part K) (mCons (mVar 0) (mCons (m1 negM (mK (.int 1))) mNil))))
  sNext)
  (sFor (miE (mUn (mVar 1))) (.tp [(.nm 4), (.nm 5)])
  (sDrop (mCall 2 (m_require_part K) (mCons (mVar 5) (mCons (mCallV 3 a_judge 2 m_judge (mCons (mVar 2) (mCons (mVar 4) mNil))) mNil))))))
def N_replaced : List Str := ["parts", "place", "value"]
def P_replaced : List Str := ["parts", "place", "value"]
def t_replaced (K : PySem.W.Frag) : SM :=
  (sRet (m2 addM (m2 addM (mSl (mVar 0) moN (moS (mVar 1))) (mTup (mCons (mVar 2) mNil))) (mSl (mVar 0) (moS (m2 addM (mVar 1) (mK (.int 1)))) moN)))
def N_place_of : List Str := ["words", "word", "thing"]
def P_place_of : List Str := ["words", "word", "thing"]
def t_place_of (K : PySem.W.Frag) : SM :=
  (sSeq (sIf (mOr (mNot (mTru (mB1 (isTyM K "str") (mVar 1)))) (m2t notInM (mVar 1) (mUn (mVar 0))))
  (sDrop (mCall 2 (m_require_part K) (mCons (mVar 2) (mCons (m1 negM (mK (.int 1))) mNil))))
  sNext)
  (sRet (mMtN idxTM (mVar 0) (mVar 1))))
def N_names_in : List Str := ["rows", "row"]
def P_names_in : List Str := ["rows"]
def t_names_in (K : PySem.W.Frag) : SM :=
  (sRet (m1 tpnM (mNew (mLc (miT (mVar 0)) [1] (.nm 1) mYes (m2 ixM (mVar 1) (mK (.int 0)))))))
def N_first_wrong : List Str := ["value", "least", "most", "judge", "place", "row"]
def P_first_wrong : List Str := ["value", "least", "most", "judge"]
def t_first_wrong (K : PySem.W.Frag) (a_judge : Addr) (m_judge : List D → M) : SM :=
  (sSeq (sIf (mOr (mNot (mTru (mB1 (isTyM K "tuple") (mVar 0)))) (mNot (m3t leM leM (mVar 1) (m1 lenM (mVar 0)) (mVar 2))))
  (sRet (m1 negM (mK (.int 1))))
  sNext)
  (sSeq (sFor (miE (mVar 0)) (.tp [(.nm 4), (.nm 5)])
  (sIf (mNot (mTru (mCallV 3 a_judge 2 m_judge (mCons (mVar 5) (mCons (mSl (mVar 0) moN (moS (mVar 4))) mNil)))))
  (sRet (mVar 4))
  sNext))
  (sRet (mK .non))))
theorem s_require_part (K : PySem.W.Frag) : ∀ ds Q E, ds.length = 2 → m_require_part K ds Q E → t_require_part K (startD N_require_part ds) (kt Q E) := by
  intro ds Q E hl h
  unfold m_require_part at h
  split at h
  · rename_i part place
    obtain ⟨ok, q1, q2⟩ := h
    cases place <;> first | exact (Bool.noConfusion ok) | (simp [t_require_part, N_require_part, plD] at q1 q2 ⊢; first | exact q1 | (refine ⟨⟨ok, Ok.i _⟩, ?_⟩; split <;> simp_all))
  · exact h.elim
theorem fwGo_nat (P : D → List D → Bool) (all : List D) : ∀ (r : List D) (i : Nat), fwGo P all i r = .non ∨ ∃ j : Nat, fwGo P all i r = .int (j : Nat)
  | [], _ => .inl rfl
  | d :: r, i => by
    unfold fwGo
    split
    · exact fwGo_nat P all r (i + 1)
    · exact .inr ⟨i, rfl⟩
theorem s_first_wrong (K : PySem.W.Frag) (a : Addr) (P : D → List D → Bool) (mj : List D → M) (hJ : Jdg P mj) : ∀ ds Q E, ds.length = 4 → mG_first_wrong a P ds Q E → t_first_wrong K a mj (startD N_first_wrong ds) (kt Q E) := by
  intro ds Q E hl h
  unfold mG_first_wrong at h
  split at h
  · rename_i v lo hi f
    obtain ⟨⟨e, hh⟩, ok, q⟩ := h
    subst e
    cases v with
    | tup v =>
      simp only [fwD] at q
      have loop : v.length ≤ 1000 → Q (fwGo P v 0 v) → forD (lpB (.tp [(.nm 4), (.nm 5)]) (sIf (mNot (mTru (mCallV 3 f 2 mj (mCons (mVar 5) (mCons (mSl (mVar 0) moN (moS (mVar 4))) mNil))))) (sRet (mVar 4)) sNext)) (numd v)
          [some (.dat (.tup v)), some (.dat (.int lo)), some (.dat (.int hi)), some (.dat (.adr f)), none, none] { nx := fun ρ' => Q .non, rt := Q, rf := fun ds => Q (.lst ds), bk := fun _ => False, ct := fun _ => False, ex := E } := fun hv q => by
        refine forD_inv (fun i ρ => (∃ x4 x5, ρ = [some (.dat (.tup v)), some (.dat (.int lo)), some (.dat (.int hi)), some (.dat (.adr f)), x4, x5]) ∧ (∀ j d, j < i → v[j]? = some d → P d (v.take j) = true) ∧ Q (fwGo P v i (v.drop i))) ⟨⟨none, none, rfl⟩, fun j d h => absurd h (Nat.not_lt_zero j), q⟩ ?_ ?_
        · intro i d ρ N hd ⟨⟨x4, x5, hρ⟩, hp, hq⟩ hN
          subst hρ
          rw [numd_get] at hd
          cases w : v[i]? with
          | none => rw [w] at hd; cases hd
          | some y =>
            rw [w] at hd
            cases hd
            have hi : i < v.length := (List.getElem?_eq_some_iff.mp w).1
            have dr : v.drop i = y :: v.drop (i + 1) := by
              obtain ⟨h1, h2⟩ := List.getElem?_eq_some_iff.mp w
              rw [← h2]
              exact List.drop_eq_getElem_cons h1
            rw [dr] at hq
            simp [lpB, cutL_pre]
            refine hJ y (v.take i) _ _ (ok.mem (List.mem_of_getElem? w)) (ok.take i) (by rw [List.length_take]; omega) (fun j d hj => ?_) ?_
            · rw [List.getElem?_take] at hj
              split at hj
              · rename_i hji
                rw [List.take_take, Nat.min_eq_left (Nat.le_of_lt hji)]
                exact hp j d hji hj
              · cases hj
            · unfold fwGo at hq
              by_cases hP : P y (v.take i) = true
              · rw [if_pos hP] at hq
                simp only [hP, truM]
                refine hN _ ⟨⟨_, _, rfl⟩, fun j d hj hd => ?_, hq⟩
                rcases Nat.lt_succ_iff_lt_or_eq.mp hj with h | h
                · exact hp j d h hd
                · subst h
                  rw [w] at hd
                  cases hd
                  exact hP
              · rw [if_neg hP] at hq
                simp only [Bool.not_eq_true] at hP
                simpa [hP] using hq
        · intro ρ ⟨⟨x4, x5, hρ⟩, hp, hq⟩
          have e : (numd v).length = v.length := by simp [numd]
          rw [e, List.drop_length] at hq
          exact hq
      simp [t_first_wrong, N_first_wrong]
      by_cases h1 : lo ≤ ((v.length : Nat) : Int)
      · by_cases h2 : ((v.length : Nat) : Int) ≤ hi
        · have h2' : ¬ hi < ((v.length : Nat) : Int) := by omega
          rw [if_pos ⟨h1, h2⟩] at q
          simpa [h1, h2, h2', kt] using loop (by omega) q
        · have h2' : hi < ((v.length : Nat) : Int) := by omega
          rw [if_neg fun z => h2 z.2] at q
          simpa [h1, h2, h2'] using q
      · rw [if_neg fun z => h1 z.1] at q
        simpa [h1] using q
    | _ => first | exact (Bool.noConfusion ok) | (simp [t_first_wrong, N_first_wrong, fwD] at q ⊢; exact q)
  · exact h.elim
end WL
namespace WL
open L2 PySem PySem.Spec
/-- the parts, one after another: the first wrong one is told -/
def rpGo (K : PySem.W.Frag) (W : Nat → D) (Q : Prop) (E : Xn → Prop) : Nat → List D → Prop
  | _, [] => Q
  | i, w :: r => Ok (W i) ∧ (W i = .non → rpGo K W Q E (i + 1) r) ∧ (W i ≠ .non → E ⟨He.ga K "BadPart", ks_BadPart, [plD (W i), w]⟩)
def mG_require_parts (K : PySem.W.Frag) (a : Addr) (W : D → Nat → D) : List D → M := fun ds Q E => match ds with
  | [thing, .tpn ws, parts, .adr f] => f = a ∧ Ok parts ∧ (rwB parts (ws.length : Nat) = false → E ⟨He.ga K "BadPart", ks_BadPart, [.non, thing]⟩) ∧ (rwB parts (ws.length : Nat) = true → rpGo K (W parts) (Q .non) E 0 ws)
  | _ => False
def Jdp (W : D → Nat → D) (n : Nat) (m : List D → M) : Prop := ∀ parts (i : Nat) (Q : D → Prop) (E : Xn → Prop), Ok parts → rwB parts (n : Nat) = true → i < n → Q (W parts i) → m [parts, .int (i : Nat)] Q E
theorem s_require_parts (K : PySem.W.Frag) (a : Addr) (W : D → Nat → D) (mj : List D → M) (n : Nat) (hJ : Jdp W n mj) : ∀ ds Q E, ds.length = 4 → ((∃ thing ws parts f, ds = [thing, .tpn ws, parts, f] ∧ ws.length = n) ∧ mG_require_parts K a W ds Q E) → t_require_parts K a mj (startD N_require_parts ds) (kt Q E) := by
  intro ds Q E hl ⟨⟨thing, ws, parts, f, e, hn⟩, h⟩
  subst e
  cases f with
  | adr f =>
    obtain ⟨e, ok, h1, h2⟩ := h
    subst e
    simp [t_require_parts, N_require_parts, m_is_row]
    refine ⟨ok, ?_⟩
    cases hr : rwB parts (ws.length : Nat) with
    | false =>
      have q := h1 hr
      simp [m_require_part, Ok.i, plD, eqD]
      exact q
    | true =>
      have q := h2 hr
      simp
      refine forD_inv (fun i ρ => (∃ x4 x5, ρ = [some (.dat thing), some (.dat (.tpn ws)), some (.dat parts), some (.dat (.adr f)), x4, x5]) ∧ rpGo K (W parts) (Q .non) E i (ws.drop i)) ⟨⟨none, none, rfl⟩, q⟩ ?_ ?_
      · intro i d ρ N hd ⟨⟨x4, x5, hρ⟩, hq⟩ hN
        subst hρ
        rw [numd_get] at hd
        cases w : ws[i]? with
        | none => rw [w] at hd; cases hd
        | some y =>
          rw [w] at hd
          cases hd
          obtain ⟨hi, e2⟩ := List.getElem?_eq_some_iff.mp w
          have dr : ws.drop i = y :: ws.drop (i + 1) := by
            rw [← e2]
            exact List.drop_eq_getElem_cons hi
          rw [dr] at hq
          obtain ⟨o, q1, q2⟩ := hq
          simp [lpB, m_require_part]
          refine hJ parts i _ _ ok (by rw [← hn]; exact hr) (by omega) ?_
          exact ⟨o, fun e => hN _ ⟨⟨_, _, rfl⟩, q1 e⟩, q2⟩
      · intro ρ ⟨⟨x4, x5, hρ⟩, hq⟩
        have e : (numd ws).length = ws.length := by simp [numd]
        rw [e, List.drop_length] at hq
        exact hq
  | _ => exact h.elim
def m_replaced (_ : PySem.W.Frag) : List D → M := fun ds Q _ => match ds with
  | [.tup ps, .int i, v] => (0 ≤ i ∧ ps.length ≤ 900) ∧ Q (.tup (ps.take i.toNat ++ v :: ps.drop (i.toNat + 1)))
  | _ => False
theorem cutL_pre' {α : Type} (xs : List α) {i : Int} (h : 0 ≤ i) : cutL xs none (some i) = xs.take i.toNat := by
  rw [← cutL_pre xs i.toNat, Int.toNat_of_nonneg h]
theorem cutL_suf' {α : Type} (xs : List α) {i : Int} (h : 0 ≤ i) : cutL xs (some i) none = xs.drop i.toNat := by
  rw [← cutL_suf xs i.toNat, Int.toNat_of_nonneg h]
theorem s_replaced (K : PySem.W.Frag) : ∀ ds Q E, ds.length = 3 → m_replaced K ds Q E → t_replaced K (startD N_replaced ds) (kt Q E) := by
  intro ds Q E hl h
  unfold m_replaced at h
  split at h
  · rename_i ps i v
    obtain ⟨⟨h0, h1⟩, q⟩ := h
    have e : (i + 1).toNat = i.toNat + 1 := by omega
    have l1 : (ps.take i.toNat).length ≤ ps.length := by rw [List.length_take]; omega
    have l2 : (ps.drop (i.toNat + 1)).length ≤ ps.length := by rw [List.length_drop]; omega
    simp [t_replaced, N_replaced, cutL_pre' ps h0, cutL_suf' ps (show 0 ≤ i + 1 by omega), e]
    simp at q l1 l2
    exact ⟨by omega, by omega, q⟩
  · exact h.elim
def strIn (d : D) (ws : List D) : Bool := isTy "str" d && inB d ws
def m_place_of (K : PySem.W.Frag) : List D → M := fun ds Q E => match ds with
  | [.tpn ws, word, thing] => (Ok word ∧ Ok (.tup ws)) ∧ ((strIn word ws = false → E ⟨He.ga K "BadPart", ks_BadPart, [.non, thing]⟩) ∧ (strIn word ws = true → optQ (idxB word ws) fun j => Q (.int (j : Nat))))
  | _ => False
theorem s_place_of (K : PySem.W.Frag) : ∀ ds Q E, ds.length = 3 → m_place_of K ds Q E → t_place_of K (startD N_place_of ds) (kt Q E) := by
  intro ds Q E hl h
  unfold m_place_of at h
  split at h
  · rename_i ws word thing
    obtain ⟨⟨o1, o2⟩, q1, q2⟩ := h
    cases word <;> first | exact (Bool.noConfusion o1) | (simp [t_place_of, N_place_of, m_require_part, Ok.i, plD, eqD, strIn] at q1 q2 ⊢; first | exact q1 | skip)
    refine ⟨⟨o1, o2⟩, ?_⟩
    split
    · rename_i hb
      exact ⟨⟨o1, o2⟩, q2 hb⟩
    · rename_i hb
      exact q1 (by simpa using hb)
  · exact h.elim
/-- a row's first -/
def row0 : D → D
  | .tup (n :: _) => n
  | _ => .non
def m_names_in (_ : PySem.W.Frag) : List D → M := fun ds Q _ => match ds with
  | [.tup rows] => (rows.length ≤ 1000 ∧ ∀ r ∈ rows, ∃ n t, r = .tup (n :: t)) ∧ Q (.tpn (rows.map row0))
  | _ => False
theorem s_names_in (K : PySem.W.Frag) : ∀ ds Q E, ds.length = 1 → m_names_in K ds Q E → t_names_in K (startD N_names_in ds) (kt Q E) := by
  intro ds Q E hl h
  unfold m_names_in at h
  split at h
  · rename_i rows
    obtain ⟨⟨h1, h2⟩, q⟩ := h
    simp [t_names_in, N_names_in]
    refine ⟨by omega, lc_map row0 (fun d hd R hR => ?_) q⟩
    obtain ⟨n, t, rfl⟩ := h2 d hd
    simp [L2.atI, L2.ixN]
    exact hR
  · exact h.elim
end WL
namespace K16
open L2 PySem PySem.Spec WL
/-! ### the text -/
def top (i : Nat) : Stmt := PySem.Challenge.pw_waterhours_k16_whole_turns.main.body.getD i (.Pass ⟨0, 0, 0, 0⟩)
def clsBody (s : Stmt) : List Stmt := match s with
  | .ClassDef _ _ _ b _ _ _ _ _ _ _ => b
  | _ => []
def meth (s : Stmt) (j : Nat) : Stmt := (clsBody s).getD j (.Pass ⟨0, 0, 0, 0⟩)
def ks_Turns : List Str := ["parts", "rows", "names", "hours"]
def d_PARTS : List D := [.str "rows"]
structure Facts (K : PySem.W.Frag) (mg : Str → Option Value) : Prop where
  nb : ∀ x ∈ bnames, mg x = none
  c_LONGEST : ∃ t, mg "LONGEST" = some (.int 8 t)
  c_MOST_ROWS : ∃ t, mg "MOST_ROWS" = some (.int 8 t)
  c_MOST_WEIGHT : ∃ t, mg "MOST_WEIGHT" = some (.int 99 t)
  c_MOST_HOURS : ∃ t, mg "MOST_HOURS" = some (.int 60 t)
  c_MOST_PRICE : ∃ t, mg "MOST_PRICE" = some (.int 9999 t)
  c_LETTERS : ∃ t, mg "LETTERS" = some (.str "abcdefghijklmnopqrstuvwxyz" t)
  g_PARTS : mg "PARTS" = some (.ref (He.ga K "PARTS"))
  o_PARTS : ∃ o : Obj, K.lookup (He.ga K "PARTS") = some o ∧ o.cls = .type "tuple" ∧ o.dict = none
  s_PARTS : ∀ H, SqT K H (He.ga K "PARTS") [.str "rows"]
  f_is_share : mg "is_share" = some (.ref (He.ga K "is_share"))
  f_wrong_place : mg "wrong_place" = some (.ref (He.ga K "wrong_place"))
  g_Turns : mg "Turns" = some (.ref (He.ga K "Turns"))
  cls_Turns : Cls K (He.ga K "Turns")
  noat_Turns : ∀ f ∈ ks_Turns, NoAttr K (He.ga K "Turns") f
  insC_Turns : C8.InsC K (He.ga K "Turns")
  kn_Turns : ∀ T ∈ plainTs, PySem.W.kitOne K (.type T) (.ref (He.ga K "Turns")) = some false
theorem Facts.r_PARTS {K : PySem.W.Frag} {mg : Str → Option Value} (G : Facts K mg) {A : Addr → Prop} {H : Hp} : RpAll K A H [.str "rows"] d_PARTS := .cons (.str _) .nil
/-! ### promises -/
abbrev Rw := Str × Int × Int
def rD (r : Rw) : D := .tup [.str r.1, .int r.2.1, .int r.2.2]
def shareB (row : D) (ahead : List D) : Bool := match row with
  | .tup [n, w, h] => (nmB n && !inB n (ahead.map row0)) && (wiB w 1 99 && wiB h 0 60)
  | _ => false
def m_is_share (_ : PySem.W.Frag) : List D → M := fun ds Q _ => match ds with
  | [row, .tup ahead] => (Ok row ∧ Ok (.tup ahead) ∧ ahead.length ≤ 1000 ∧ ∀ r ∈ ahead, ∃ n w h, r = .tup [n, w, h]) ∧ Q (.bl (shareB row ahead))
  | _ => False
def m_first_wrong (K : PySem.W.Frag) : List D → M := mG_first_wrong (He.ga K "is_share") shareB
/-- what is wrong with the one part -/
def wrongD (parts : D) (_ : Nat) : D := match parts with
  | .tup (v :: _) => fwD shareB v 1 8
  | _ => .non
def m_wrong_place (_ : PySem.W.Frag) : List D → M := fun ds Q _ => match ds with
  | [.tup [v], .int i] => Ok v ∧ Q (wrongD (.tup [v]) i.toNat)
  | _ => False
def m_require_parts (K : PySem.W.Frag) : List D → M := fun ds Q E => (∃ thing parts f, ds = [thing, .tpn d_PARTS, parts, f] ∧ d_PARTS.length = 1) ∧ mG_require_parts K (He.ga K "wrong_place") wrongD ds Q E
/-- a row's hours -/
def hrs : D → Int
  | .tup [_, _, .int h] => h
  | _ => 0
def turnsFs (v : D) (rs : List D) : List D := [.tup [v], v, .tpn (rs.map row0), .int (rs.map hrs).sum]
/-- what is not right: the error's place, its part -/
def badT (parts : D) : Option (D × D) := match parts with
  | .tup [v] => match fwD shareB v 1 8 with
    | .non => none
    | w => some (plD w, .str "rows")
  | _ => some (.non, .str "turns")
def m_Turns (K : PySem.W.Frag) : MI := fun ds Q E => match ds with
  | [parts] => Ok parts ∧ (∀ p, badT parts = some p → E ⟨He.ga K "BadPart", ks_BadPart, [p.1, p.2]⟩) ∧ (badT parts = none → ∃ rs, parts = .tup [.tup rs] ∧ Q (turnsFs (.tup rs) rs))
  | _ => False
/-- an instance -/
def tI (K : PySem.W.Frag) (fs : List D) : D := .ins (He.ga K "Turns") ks_Turns fs
def m_Turns_with_part (K : PySem.W.Frag) : List D → M := fun ds Q E => match ds with
  | [.ins C ks [.tup ps, v, nm, hs], word, value] => (C = He.ga K "Turns" ∧ ks = ks_Turns ∧ ps.length = 1) ∧ (Ok word ∧ Ok value) ∧ (eqD (.str "rows") word = false → E ⟨He.ga K "BadPart", ks_BadPart, [.non, .str "turns"]⟩) ∧
    (eqD (.str "rows") word = true → m_Turns K [.tup [value]] (fun fs => Q (tI K fs)) E)
  | _ => False
def m_Turns_with_share (K : PySem.W.Frag) : List D → M := fun ds Q E => match ds with
  | [.ins C ks [.tup ps, .tup rs, .tpn nm, hs], name, weight, hours] => (C = He.ga K "Turns" ∧ ks = ks_Turns ∧ ps.length = 1) ∧ (okD 50 name = true ∧ okD 50 weight = true ∧ okD 50 hours = true ∧ Ok (.tup nm) ∧ Ok (.tup rs) ∧ rs.length ≤ 900) ∧ (inB name nm = false → E ⟨He.ga K "Unknown", ks_Unknown, [name]⟩) ∧
    (inB name nm = true → optQ (idxB name nm) fun j => m_Turns K [.tup [.tup (rs.take j ++ .tup [name, weight, hours] :: rs.drop (j + 1))]] (fun fs => Q (tI K fs)) E)
  | _ => False
def m_Turns_eq (K : PySem.W.Frag) : List D → M := fun ds Q _ => match ds with
  | [.ins C ks [p, v, nm, hs], other] => (C = He.ga K "Turns" ∧ ks = ks_Turns ∧ Ok p) ∧ match other with
    | .ins C' ks' [p', v', nm', hs'] => (C' = He.ga K "Turns" ∧ ks' = ks_Turns ∧ Ok p') ∧ Q (.bl (eqD p p'))
    | .ins _ _ _ => False
    | d => Ok d ∧ Q (.bl false)
  | _ => False
def m_are_turns (K : PySem.W.Frag) : List D → M := fun ds Q _ => match ds with
  | [.ins C _ _] => C = He.ga K "Turns" ∧ Q (.bl true)
  | [d] => Ok d ∧ Q (.bl false)
  | _ => False
end K16
namespace WL
open L2 PySem PySem.Spec
theorem ixN_nat {n i : Nat} (h : i < n) : L2.ixN n (i : Int) = some i := by
  unfold L2.ixN
  simp [h]
theorem atI_n {α : Type} (l : List α) (i : Nat) : L2.atI l (i : Int) = l[i]? := by
  unfold L2.atI L2.ixN
  by_cases h : i < l.length
  · simp [h]
  · simp [h]
@[simp] theorem atI_l0 {α : Type} (a : α) (l : List α) : L2.atI (a :: l) 0 = some a := atI_n (a :: l) 0
@[simp] theorem atI_l1 {α : Type} (a b : α) (l : List α) : L2.atI (a :: b :: l) 1 = some b := atI_n (a :: b :: l) 1
@[simp] theorem atI_l2 {α : Type} (a b c : α) (l : List α) : L2.atI (a :: b :: c :: l) 2 = some c := atI_n (a :: b :: c :: l) 2
@[simp] theorem atI_l3 {α : Type} (a b c d : α) (l : List α) : L2.atI (a :: b :: c :: d :: l) 3 = some d := atI_n (a :: b :: c :: d :: l) 3
end WL
namespace K16
open L2 PySem PySem.Spec WL
/-! ### shares in numbers -/
def wts (rs : List Rw) : List Int := rs.map fun r => r.2.1
def hrsL (rs : List Rw) : List Int := rs.map fun r => r.2.2
/-- the hour goes to p sooner than to b -/
def ltF (f ws : List Int) (p b : Nat) : Bool := decide ((f.getD p 0 + 1) * ws.getD b 0 < (f.getD b 0 + 1) * ws.getD p 0)
def bestGo (f ws : List Int) (n : Nat) : Nat := match n with
  | 0 => 0
  | n + 1 => if ltF f ws n (bestGo f ws n) = true then n else bestGo f ws n
def stepF (f ws : List Int) : List Int := f.set (bestGo f ws ws.length) (f.getD (bestGo f ws ws.length) 0 + 1)
def inTurn (ws : List Int) : Nat → List Int
  | 0 => List.replicate ws.length 0
  | n + 1 => stepF (inTurn ws n) ws
theorem inTurn_length (ws : List Int) : ∀ n, (inTurn ws n).length = ws.length
  | 0 => List.length_replicate
  | n + 1 => by rw [inTurn, stepF, List.length_set]; exact inTurn_length ws n
theorem bestGo_lt (f ws : List Int) : ∀ n, 0 < n → bestGo f ws n < n
  | 0, h => absurd h (Nat.lt_irrefl _)
  | n + 1, _ => by
    unfold bestGo
    split
    · exact Nat.lt_succ_self n
    · cases n with
      | zero => exact Nat.lt_succ_self 0
      | succ n => exact Nat.lt_succ_of_lt (bestGo_lt f ws (n + 1) (Nat.succ_pos n))
/-- shares that hold -/
structure vR (rs : List Rw) : Prop where
  lo : 1 ≤ rs.length
  hi : rs.length ≤ 8
  row : ∀ r ∈ rs, nmB (.str r.1) = true ∧ (1 ≤ r.2.1 ∧ r.2.1 ≤ 99) ∧ (0 ≤ r.2.2 ∧ r.2.2 ≤ 60)
  nd : (rs.map fun r => r.1).Nodup
  ok : ∀ r ∈ rs, okD 40 (.str r.1) = true
def tD (K : PySem.W.Frag) (rs : List Rw) : D := tI K (turnsFs (.tup (rs.map rD)) (rs.map rD))
theorem hrs_sum (rs : List Rw) : ((rs.map rD).map hrs).sum = (hrsL rs).sum := by
  rw [List.map_map]
  rfl
theorem names_eq (rs : List Rw) : (rs.map rD).map row0 = rs.map fun r => D.str r.1 := by
  rw [List.map_map]
  rfl
section
variable {K : PySem.W.Frag} {rs : List Rw} {Q : D → Prop}
@[simp] theorem at_parts : atM (He.ga K "Turns") ks_Turns 0 (tD K rs) Q = Q (.tup [.tup (rs.map rD)]) := by simp [tD, tI, turnsFs]
@[simp] theorem at_rows : atM (He.ga K "Turns") ks_Turns 1 (tD K rs) Q = Q (.tup (rs.map rD)) := by simp [tD, tI, turnsFs]
@[simp] theorem at_names : atM (He.ga K "Turns") ks_Turns 2 (tD K rs) Q = Q (.tpn (rs.map fun r => D.str r.1)) := by
  rw [← names_eq]
  simp [tD, tI, turnsFs]
@[simp] theorem at_hours : atM (He.ga K "Turns") ks_Turns 3 (tD K rs) Q = Q (.int (hrsL rs).sum) := by
  rw [← hrs_sum]
  simp [tD, tI, turnsFs]
end
theorem sum_bound : ∀ {l : List Int} {b : Int}, (∀ x ∈ l, 0 ≤ x ∧ x ≤ b) → 0 ≤ l.sum ∧ l.sum ≤ l.length * b
  | [], b, _ => by simp
  | x :: l, b, h => by
    obtain ⟨h1, h2⟩ := h x (List.mem_cons_self ..)
    obtain ⟨h3, h4⟩ := sum_bound fun y hy => h y (List.mem_cons_of_mem _ hy)
    rw [List.sum_cons, List.length_cons]
    refine ⟨by omega, ?_⟩
    have : ((l.length + 1 : Nat) : Int) * b = l.length * b + b := by
      rw [Int.natCast_add, Int.add_mul]
      simp
    omega
theorem vR.sum {rs : List Rw} (v : vR rs) : 0 ≤ (hrsL rs).sum ∧ (hrsL rs).sum ≤ 480 := by
  have q := sum_bound (l := hrsL rs) (b := 60) fun x hx => by
    obtain ⟨r, h1, rfl⟩ := List.mem_map.mp hx
    exact (v.row r h1).2.2
  have : (hrsL rs).length ≤ 8 := by rw [hrsL, List.length_map]; exact v.hi
  omega
theorem vR.wt {rs : List Rw} (v : vR rs) {i : Nat} {x : Int} (h : (wts rs)[i]? = some x) : 1 ≤ x ∧ x ≤ 99 := by
  obtain ⟨r, h1, rfl⟩ := List.mem_map.mp (List.mem_of_getElem? h)
  exact (v.row r h1).2.1
def m_fair_hours (K : PySem.W.Frag) : List D → M := fun ds Q _ => ∃ rs, vR rs ∧ ds = [tD K rs] ∧ Q (.tup ((inTurn (wts rs) (hrsL rs).sum.toNat).map D.int))
/-- the one envies the other -/
def envR (a b : Rw) : Bool := decide ((a.2.2 + 1) * b.2.1 < b.2.2 * a.2.1)
def rowOf (rs : List Rw) (x : Str) : Option Rw := rs.find? fun r => r.1 == x
def envyB (rs : List Rw) (v : D) : Bool := match v with
  | .tup [.str a, .str b] => (match rowOf rs a, rowOf rs b with
    | some r, some s => envR r s
    | _, _ => false)
  | _ => false
def m_is_envy (K : PySem.W.Frag) : List D → M := fun ds Q _ => ∃ rs v, vR rs ∧ Ok v ∧ ds = [tD K rs, v] ∧ Q (.bl (envyB rs v))
/-- the first pair, by the one, then by the other -/
def envyOf (rs : List Rw) : D := match rs.findSome? fun r => (rs.find? fun s => envR r s).map fun s => (r, s) with
  | some (r, s) => .tup [.str r.1, .str s.1]
  | none => .non
def m_envy_of (K : PySem.W.Frag) : List D → M := fun ds Q _ => ∃ rs, vR rs ∧ ds = [tD K rs] ∧ Q (envyOf rs)
def fairB (rs : List Rw) : Bool := rs.all fun r => rs.all fun s => !envR r s
def m_are_fair (K : PySem.W.Frag) : List D → M := fun ds Q _ => ∃ rs, vR rs ∧ ds = [tD K rs] ∧ Q (.bl (fairB rs))
end K16
namespace K16
open L2 PySem PySem.Spec WL
def N_fair_hours : List Str := ["turns", "found", "hour", "best", "place", "row"]
def P_fair_hours : List Str := ["turns"]
def t_fair_hours (K : PySem.W.Frag) : SM :=
  (sSeq (sOwn (m2F mulF (mNew (mLst (mCons (mK (.int 0)) mNil))) (m1 lenM (mAttr (He.ga K "Turns") ks_Turns 1 (mVar 0)))) 1)
  (sSeq (sFor (miR1 (mAttr (He.ga K "Turns") ks_Turns 3 (mVar 0))) (.nm 2)
  (sSeq (sSet (mK (.int 0)) 3)
  (sSeq (sFor (miE (mAttr (He.ga K "Turns") ks_Turns 1 (mVar 0))) (.tp [(.nm 4), (.nm 5)])
  (sIf (m2t ltM (m2 mulM (m2 addM (m2 ixM (mOwn 1) (mVar 4)) (mK (.int 1))) (m2 ixM (m2 ixM (mAttr (He.ga K "Turns") ks_Turns 1 (mVar 0)) (mVar 3)) (mK (.int 1)))) (m2 mulM (m2 addM (m2 ixM (mOwn 1) (mVar 3)) (mK (.int 1))) (m2 ixM (mVar 5) (mK (.int 1)))))
  (sSet (mVar 4) 3)
  sNext))
  (sAugS 1 (mVar 3) (mK (.int 1)) iaddM))))
  (sRet (m1 tupM (mOwn 1)))))
theorem big_w {i : Int} (h : 1 ≤ i ∧ i ≤ 99) : big i := by unfold big; omega
theorem rD_at {rs : List Rw} {i : Nat} {r : Rw} (h : rs[i]? = some r) : (rs.map rD)[i]? = some (rD r) := by rw [List.getElem?_map, h]; rfl
theorem wts_at {rs : List Rw} {i : Nat} {r : Rw} (h : rs[i]? = some r) : (wts rs).getD i 0 = r.2.1 := by
  unfold wts
  rw [List.getD_eq_getElem?_getD, List.getElem?_map, h]
  rfl
theorem ints_at {f : List Int} {i : Nat} (h : i < f.length) : (f.map D.int)[i]? = some (.int (f.getD i 0)) := by
  rw [List.getElem?_map, List.getElem?_eq_getElem h, List.getD_eq_getElem?_getD, List.getElem?_eq_getElem h]
  rfl
theorem ints_get {f : List Int} {i : Nat} (h : i < f.length) : f[i]? = some (f.getD i 0) := by
  rw [List.getElem?_eq_getElem h, List.getD_eq_getElem?_getD, List.getElem?_eq_getElem h]
  rfl
theorem upto_at {n i : Nat} {d : D} (h : (upto n)[i]? = some d) : i < n ∧ d = .int (i : Nat) := by
  have hi : i < n := by
    have q := (List.getElem?_eq_some_iff.mp h).1
    simpa [upto] using q
  refine ⟨hi, ?_⟩
  simp [upto, hi] at h
  exact h.symm
theorem s_fair_hours (K : PySem.W.Frag) : ∀ ds Q E, ds.length = 1 → m_fair_hours K ds Q E → t_fair_hours K (startD N_fair_hours ds) (kt Q E) := by
  rintro ds Q E hl ⟨rs, v, rfl, q⟩
  have hs := v.sum
  have hi := v.hi
  have lw : (wts rs).length = rs.length := List.length_map _
  simp [t_fair_hours, N_fair_hours]
  refine ⟨by omega, by omega, ?_⟩
  refine forD_inv (fun i ρ => ∃ x2 x3 x4 x5, ρ = [some (.dat (tD K rs)), some (.own ((inTurn (wts rs) i).map D.int)), x2, x3, x4, x5]) ⟨none, none, none, none, ?_⟩ ?_ ?_
  · simp [inTurn, lw]
  · rintro i d ρ N hd ⟨x2, x3, x4, x5, rfl⟩ hN
    obtain ⟨hi2, rfl⟩ := upto_at hd
    have lf : (inTurn (wts rs) i).length = rs.length := (inTurn_length _ _).trans lw
    simp [lpB]
    refine forD_inv (fun p ρ => ∃ x4 x5, ρ = [some (.dat (tD K rs)), some (.own ((inTurn (wts rs) i).map D.int)), some (.dat (.int (i : Nat))), some (.dat (.int (bestGo (inTurn (wts rs) i) (wts rs) p : Nat))), x4, x5]) ⟨x4, x5, rfl⟩ ?_ ?_
    · rintro p d ρ N' hd ⟨x4, x5, rfl⟩ hN'
      rw [numd_get] at hd
      cases w : rs[p]? with
      | none => rw [List.getElem?_map, w] at hd; cases hd
      | some r =>
        rw [rD_at w] at hd
        cases hd
        have hp : p < rs.length := (List.getElem?_eq_some_iff.mp w).1
        have hb : bestGo (inTurn (wts rs) i) (wts rs) p < rs.length := by
          rcases Nat.eq_zero_or_pos p with h | h
          · rw [h]; exact Nat.lt_of_le_of_lt (Nat.zero_le _) hp
          · exact Nat.lt_trans (bestGo_lt _ _ p h) hp
        obtain ⟨rb, hrb⟩ : ∃ rb, rs[bestGo (inTurn (wts rs) i) (wts rs) p]? = some rb := ⟨_, List.getElem?_eq_getElem hb⟩
        have w1 := (v.row r (List.mem_of_getElem? w)).2.1
        have w2 := (v.row rb (List.mem_of_getElem? hrb)).2.1
        simp [lpB, atI_n, ints_at (f := inTurn (wts rs) i) (i := p) (by omega), ints_at (f := inTurn (wts rs) i) (i := bestGo (inTurn (wts rs) i) (wts rs) p) (by omega), rD_at hrb, rD]
        refine ⟨.inr (big_w w2), .inr (big_w w1), ?_⟩
        have e : bestGo (inTurn (wts rs) i) (wts rs) (p + 1) = if (((inTurn (wts rs) i)[p]?.getD 0 + 1) * rb.2.1 < ((inTurn (wts rs) i)[bestGo (inTurn (wts rs) i) (wts rs) p]?.getD 0 + 1) * r.2.1) then p else bestGo (inTurn (wts rs) i) (wts rs) p := by
          rw [bestGo, ltF, wts_at hrb, wts_at w]
          simp
        split
        · rename_i h
          exact hN' _ ⟨_, _, by rw [e, if_pos h]⟩
        · rename_i h
          exact hN' _ ⟨_, _, by rw [e, if_neg h]⟩
    · rintro ρ ⟨x4, x5, rfl⟩
      have hb : bestGo (inTurn (wts rs) i) (wts rs) rs.length < rs.length := bestGo_lt _ _ _ v.lo
      have en : (numd (rs.map rD)).length = rs.length := by simp [numd]
      rw [en]
      simp [lf, ixN_nat hb]
      rw [ints_get (f := inTurn (wts rs) i) (i := bestGo (inTurn (wts rs) i) (wts rs) rs.length) (by omega)]
      simp
      have e2 : ((inTurn (wts rs) i).map D.int).set (bestGo (inTurn (wts rs) i) (wts rs) rs.length) (.int ((inTurn (wts rs) i)[bestGo (inTurn (wts rs) i) (wts rs) rs.length]?.getD 0 + 1)) = (inTurn (wts rs) (i + 1)).map D.int := by
        simp [inTurn, stepF, lw, List.map_set]
      rw [e2]
      exact hN _ ⟨_, _, _, _, rfl⟩
  · rintro ρ ⟨x2, x3, x4, x5, rfl⟩
    simpa [upto] using q
end K16
namespace K16
open L2 PySem PySem.Spec WL
def N_is_envy : List Str := ["turns", "value", "name", "rows", "row", "one", "other"]
def P_is_envy : List Str := ["turns", "value"]
def t_is_envy (K : PySem.W.Frag) : SM :=
  (sSeq (sIf (mOr (mNot (mTru (mCall 2 (m_is_row K) (mCons (mVar 1) (mCons (mK (.int 2)) mNil))))) (mNot (mTru (m1 allM (mNew (mLc (miT (mVar 1)) [2] (.nm 2) mYes (mAndV (mB1 (isTyM K "str") (mVar 2)) (m2v inM (mVar 2) (mUn (mAttr (He.ga K "Turns") ks_Turns 2 (mVar 0)))))))))))
  (sRet (mK (.bl false)))
  sNext)
  (sSeq (sSet (m1 dicM (mNew (mLc (miT (mAttr (He.ga K "Turns") ks_Turns 1 (mVar 0))) [4] (.nm 4) mYes (mTup (mCons (m2 ixM (mVar 4) (mK (.int 0))) (mCons (mVar 4) mNil)))))) 3)
  (sSeq (sPar [5, 6] (mlD (m2 dgetM (mVar 3) (m2 ixM (mVar 1) (mK (.int 0)))) (mlD (m2 dgetM (mVar 3) (m2 ixM (mVar 1) (mK (.int 1)))) mlN)))
  (sRet (m2v ltM (m2 mulM (m2 addM (m2 ixM (mVar 5) (mK (.int 2))) (mK (.int 1))) (m2 ixM (mVar 6) (mK (.int 1)))) (m2 mulM (m2 ixM (mVar 6) (mK (.int 2))) (m2 ixM (mVar 5) (mK (.int 1)))))))))
theorem in_names (rs : List Rw) (x : Str) : inB (.str x) (rs.map fun r => D.str r.1) = (rowOf rs x).isSome := by
  induction rs with
  | nil => rfl
  | cons r rs ih =>
    rw [List.map_cons, inB, ih]
    show ((r.1 == x) || _) = _
    unfold rowOf
    rw [List.find?_cons]
    cases r.1 == x <;> rfl
theorem pairs_rows (rs : List Rw) : pairsOf (rs.map fun r => D.tup [.str r.1, rD r]) = some (rs.map fun r => .inr r.1, rs.map rD) := by
  induction rs with
  | nil => rfl
  | cons r rs ih =>
    rw [List.map_cons, pairsOf, ih]
    rfl
theorem ixK_rows (rs : List Rw) (x : Str) (Q : D → Prop) : (optQ (ixK (.inr x) (rs.map fun r => (.inr r.1 : Key))) fun j => optQ (rs.map rD)[j]? Q) = optQ (rowOf rs x) fun r => Q (rD r) := by
  induction rs with
  | nil => rfl
  | cons r rs ih =>
    rw [List.map_cons, ixK, rowOf, List.find?_cons]
    by_cases e : r.1 = x
    · have e2 : (r.1 == x) = true := by rw [e]; exact beq_self_eq_true x
      have e3 : (Sum.inr r.1 : Key) = .inr x := by rw [e]
      rw [if_pos e3, e2]
      rfl
    · have e2 : (r.1 == x) = false := beq_eq_false_iff_ne.mpr e
      have e3 : ¬ (Sum.inr r.1 : Key) = .inr x := fun z => e (Sum.inr.inj z)
      rw [if_neg e3, e2]
      show _ = optQ (rowOf rs x) _
      rw [← ih]
      cases ixK (.inr x) (rs.map fun r => (.inr r.1 : Key)) with
      | none => rfl
      | some j => simp
theorem ixK_rows' (rs : List Rw) (x : Str) (Q : D → Prop) : (optQ (ixK (.inr x) (rs.map fun r => (.inr r.1 : Key))) fun j => optQ (Option.map rD rs[j]?) Q) = optQ (rowOf rs x) fun r => Q (rD r) := by
  rw [← ixK_rows]
  simp only [List.getElem?_map]
theorem vR.okN {rs : List Rw} (v : vR rs) : Ok (.tup (rs.map fun r => D.str r.1)) := okDs_of (n := 59) fun d hd => by
  obtain ⟨r, h, rfl⟩ := List.mem_map.mp hd
  exact okD_mono 40 59 _ (by decide) (v.ok r h)
theorem rowOf_mem {rs : List Rw} {x : Str} {r : Rw} (h : rowOf rs x = some r) : r ∈ rs ∧ r.1 = x := ⟨List.mem_of_find?_eq_some h, by simpa using List.find?_some h⟩
theorem s_is_envy (K : PySem.W.Frag) : ∀ ds Q E, ds.length = 2 → m_is_envy K ds Q E → t_is_envy K (startD N_is_envy ds) (kt Q E) := by
  rintro ds Q E hl ⟨rs, v, vr, ok, rfl, q⟩
  have nd : (rs.map fun r => (Sum.inr r.1 : Key)).Nodup := by
    have h := vr.nd
    rw [show (rs.map fun r => (Sum.inr r.1 : Key)) = (rs.map fun r => r.1).map Sum.inr by rw [List.map_map]; rfl]
    exact List.Pairwise.map _ (fun a b h z => h (Sum.inr.inj z)) h
  simp [t_is_envy, N_is_envy, m_is_row, -List.map_map]
  refine ⟨ok, ?_⟩
  cases v with
  | tup xs =>
    match xs, ok, q with
    | [a, b], ok, q =>
      have oa : Ok a := ok.mem (by simp)
      have ob : Ok b := ok.mem (by simp)
      simp [rwB]
      have oN := vr.okN
      have lenR : rs.length ≤ 100000 := by have := vr.hi; omega
      have e0 : ∀ x y, envyB rs (.tup [x, y]) = true → (∃ s, x = .str s) ∧ ∃ s, y = .str s := fun x y h => by
        unfold envyB at h
        split at h
        · rename_i e
          cases e
          exact ⟨⟨_, rfl⟩, ⟨_, rfl⟩⟩
        · cases h
      cases a <;> first | exact (Bool.noConfusion oa) | skip
      case str sa =>
        cases b <;> first | exact (Bool.noConfusion ob) | skip
        case str sb =>
          simp [in_names]
          refine ⟨⟨oa, oN⟩, ⟨ob, oN⟩, ?_⟩
          cases ha : rowOf rs sa with
          | none => simpa [envyB, ha, blsOf] using q
          | some ra =>
            cases hb : rowOf rs sb with
            | none => simpa [envyB, ha, hb, blsOf] using q
            | some rb =>
              simp [blsOf]
              refine ⟨lenR, lc_map (fun d => .tup [row0 d, d]) (fun d hd R hR => ?_) ?_⟩
              · obtain ⟨r, h1, rfl⟩ := List.mem_map.mp hd
                simpa [rD, row0] using hR
              · have e : (rs.map rD).map (fun d => D.tup [row0 d, d]) = rs.map fun r => D.tup [.str r.1, rD r] := by
                  rw [List.map_map]
                  rfl
                rw [e, pairs_rows]
                have wa := (vr.row ra (rowOf_mem ha).1).2.1
                have wb := (vr.row rb (rowOf_mem hb).1).2.1
                simp [nd, ixK_rows', ha, hb, rD]
                refine ⟨.inr (big_w wb), .inr (big_w wa), ?_⟩
                simpa [envyB, ha, hb, envR] using q
        all_goals (simp [in_names, blsOf, envyB] at q ⊢; exact ⟨⟨oa, oN⟩, q⟩)
      all_goals (cases b <;> first | exact (Bool.noConfusion ob) | (simp [in_names, blsOf, envyB, ob, oN] at q ⊢; exact q))
    | [], ok, q => simpa [rwB, envyB] using q
    | [_], ok, q => simpa [rwB, envyB] using q
    | a :: b :: c :: d, ok, q =>
      have e5 : rwB (.tup (a :: b :: c :: d)) 2 = false := by
        unfold rwB
        simp
        omega
      simp [e5, envyB] at q ⊢
      exact q
  | _ => first | exact (Bool.noConfusion ok) | simpa [rwB, envyB] using q
end K16
namespace K16
open L2 PySem PySem.Spec WL
def N_envy_of : List Str := ["turns", "one", "other"]
def P_envy_of : List Str := ["turns"]
def t_envy_of (K : PySem.W.Frag) : SM :=
  (sSeq (sFor (miT (mUn (mAttr (He.ga K "Turns") ks_Turns 2 (mVar 0)))) (.nm 1)
  (sFor (miT (mUn (mAttr (He.ga K "Turns") ks_Turns 2 (mVar 0)))) (.nm 2)
  (sIf (mTru (mCall 2 (m_is_envy K) (mCons (mVar 0) (mCons (mTup (mCons (mVar 1) (mCons (mVar 2) mNil))) mNil))))
  (sRet (mTup (mCons (mVar 1) (mCons (mVar 2) mNil))))
  sNext)))
  (sRet (mK .non)))
def N_are_fair : List Str := ["turns"]
def P_are_fair : List Str := ["turns"]
def t_are_fair (K : PySem.W.Frag) : SM :=
  (sRet (m2v isM (mCall 1 (m_envy_of K) (mCons (mVar 0) mNil)) (mK .non)))
theorem rowOf_of {rs : List Rw} (v : vR rs) {r : Rw} (h : r ∈ rs) : rowOf rs r.1 = some r := by
  have nd := v.nd
  clear v
  induction rs with
  | nil => cases h
  | cons a rs ih =>
    unfold rowOf
    rw [List.find?_cons]
    rw [List.map_cons, List.nodup_cons] at nd
    rcases List.mem_cons.mp h with e | e
    · subst e
      rw [beq_self_eq_true]
    · have : (a.1 == r.1) = false := beq_eq_false_iff_ne.mpr fun z => nd.1 (z ▸ List.mem_map.mpr ⟨r, e, rfl⟩)
      rw [this]
      exact ih e nd.2
theorem envyB_of {rs : List Rw} (v : vR rs) {r s : Rw} (h1 : r ∈ rs) (h2 : s ∈ rs) : envyB rs (.tup [.str r.1, .str s.1]) = envR r s := by
  unfold envyB
  simp only
  rw [rowOf_of v h1, rowOf_of v h2]
theorem split_at {α : Type} {l : List α} {i : Nat} {x : α} (h : l[i]? = some x) : l = l.take i ++ x :: l.drop (i + 1) := by
  obtain ⟨h1, h2⟩ := List.getElem?_eq_some_iff.mp h
  rw [← h2, ← List.drop_eq_getElem_cons h1, List.take_append_drop]
theorem envyOf_at {rs : List Rw} {i j : Nat} {r s : Rw} (hi : ∀ q ∈ rs.take i, rs.find? (fun s => envR q s) = none) (hr : rs[i]? = some r) (hj : ∀ q ∈ rs.take j, envR r q = false) (hs : rs[j]? = some s) (h : envR r s = true) : envyOf rs = .tup [.str r.1, .str s.1] := by
  have e1 : rs.find? (fun s => envR r s) = some s := by
    rw [split_at hs, List.find?_append, List.find?_eq_none.mpr (by intro q hq; simp [hj q hq]), List.find?_cons, h]
    rfl
  have e2 : rs.findSome? (fun r => (rs.find? fun s => envR r s).map fun s => (r, s)) = some (r, s) := by
    conv => lhs; arg 2; rw [split_at hr]
    rw [List.findSome?_append, List.findSome?_eq_none_iff.mpr (by intro q hq; rw [hi q hq]; rfl), List.findSome?_cons, e1]
    rfl
  unfold envyOf
  rw [e2]
theorem envyOf_none {rs : List Rw} (h : ∀ q ∈ rs, rs.find? (fun s => envR q s) = none) : envyOf rs = .non := by
  unfold envyOf
  rw [List.findSome?_eq_none_iff.mpr (by intro q hq; rw [h q hq]; rfl)]
theorem str_at {rs : List Rw} {i : Nat} {d : D} (h : (rs.map fun r => D.str r.1)[i]? = some d) : ∃ r, rs[i]? = some r ∧ d = .str r.1 := by
  rw [List.getElem?_map] at h
  cases w : rs[i]? with
  | none => rw [w] at h; cases h
  | some r => rw [w] at h; cases h; exact ⟨r, rfl, rfl⟩
theorem ok_pair {rs : List Rw} (v : vR rs) {r s : Rw} (h1 : r ∈ rs) (h2 : s ∈ rs) : Ok (.tup [.str r.1, .str s.1]) := okDs_of (n := 59) fun d hd => by
  simp at hd
  rcases hd with rfl | rfl
  · exact okD_mono 40 59 _ (by decide) (v.ok r h1)
  · exact okD_mono 40 59 _ (by decide) (v.ok s h2)
theorem s_envy_of (K : PySem.W.Frag) : ∀ ds Q E, ds.length = 1 → m_envy_of K ds Q E → t_envy_of K (startD N_envy_of ds) (kt Q E) := by
  rintro ds Q E hl ⟨rs, vr, rfl, q⟩
  simp [t_envy_of, N_envy_of]
  refine forD_inv (fun i ρ => (∃ x1 x2, ρ = [some (.dat (tD K rs)), x1, x2]) ∧ ∀ q ∈ rs.take i, rs.find? (fun s => envR q s) = none) ⟨⟨none, none, rfl⟩, by simp⟩ ?_ ?_
  · rintro i d ρ N hd ⟨⟨x1, x2, rfl⟩, hp⟩ hN
    obtain ⟨r, hr, rfl⟩ := str_at hd
    have hrm := List.mem_of_getElem? hr
    simp [lpB]
    refine forD_inv (fun j ρ => (∃ x2, ρ = [some (.dat (tD K rs)), some (.dat (.str r.1)), x2]) ∧ ∀ q ∈ rs.take j, envR r q = false) ⟨⟨x2, rfl⟩, by simp⟩ ?_ ?_
    · rintro j d ρ N' hd ⟨⟨x2, rfl⟩, hq⟩ hN'
      obtain ⟨s, hs, rfl⟩ := str_at hd
      have hsm := List.mem_of_getElem? hs
      simp [lpB]
      refine ⟨rs, _, vr, ok_pair vr hrm hsm, rfl, ?_⟩
      rw [envyB_of vr hrm hsm]
      cases he : envR r s with
      | true =>
        rw [envyOf_at hp hr hq hs he] at q
        simpa using q
      | false =>
        simp
        refine hN' _ ⟨⟨_, rfl⟩, fun q hq2 => ?_⟩
        rw [List.take_succ, hs] at hq2
        rcases List.mem_append.mp hq2 with h | h
        · exact hq q h
        · simp at h
          subst h
          exact he
    · rintro ρ ⟨⟨x2, rfl⟩, hq⟩
      refine hN _ ⟨⟨_, _, rfl⟩, fun q hq2 => ?_⟩
      rw [List.take_succ, hr] at hq2
      rcases List.mem_append.mp hq2 with h | h
      · exact hp q h
      · simp at h
        subst h
        refine List.find?_eq_none.mpr fun s hs => ?_
        have e : rs.take (rs.map fun r => D.str r.1).length = rs := by simp
        rw [e] at hq
        simp [hq s hs]
  · rintro ρ ⟨⟨x1, x2, rfl⟩, hp⟩
    have e : rs.take (rs.map fun r => D.str r.1).length = rs := by simp
    rw [e] at hp
    rw [envyOf_none hp] at q
    exact q
theorem fair_none {rs : List Rw} : fairB rs = true ↔ ∀ q ∈ rs, rs.find? (fun s => envR q s) = none := by
  unfold fairB
  simp [List.find?_eq_none]
theorem envyOf_some {rs : List Rw} (h : fairB rs = false) : ∃ r s, r ∈ rs ∧ s ∈ rs ∧ envR r s = true ∧ envyOf rs = .tup [.str r.1, .str s.1] := by
  cases w : rs.findSome? (fun r => (rs.find? fun s => envR r s).map fun s => (r, s)) with
  | none =>
    rw [List.findSome?_eq_none_iff] at w
    have f := fair_none.mpr fun q hq => by simpa using w q hq
    rw [f] at h
    cases h
  | some p =>
    obtain ⟨r, h1, h2⟩ := List.exists_of_findSome?_eq_some w
    cases z : rs.find? (fun s => envR r s) with
    | none => rw [z] at h2; cases h2
    | some s =>
      rw [z] at h2
      cases h2
      refine ⟨r, s, h1, List.mem_of_find?_eq_some z, by simpa using List.find?_some z, ?_⟩
      unfold envyOf
      rw [w]
theorem s_are_fair (K : PySem.W.Frag) : ∀ ds Q E, ds.length = 1 → m_are_fair K ds Q E → t_are_fair K (startD N_are_fair ds) (kt Q E) := by
  rintro ds Q E hl ⟨rs, vr, rfl, q⟩
  simp [t_are_fair, N_are_fair]
  refine ⟨rs, vr, rfl, ?_⟩
  cases hf : fairB rs with
  | true =>
    rw [envyOf_none (fair_none.mp hf)]
    rw [hf] at q
    exact q
  | false =>
    obtain ⟨r, s, _, _, _, e⟩ := envyOf_some hf
    rw [e]
    rw [hf] at q
    exact q
end K16
namespace K16
open L2 PySem PySem.Spec WL
/-- a price's form -/
def goodP : D → Option (Int × Int)
  | .tup [.int a, .int b] => if (0 ≤ a ∧ a ≤ 9999) ∧ (1 ≤ b ∧ b ≤ 9999) then some (a, b) else none
  | _ => none
def holdsP (rs : List Rw) (a b : Int) : Bool := rs.all fun r => decide (r.2.2 * b ≤ a * r.2.1) && decide (a * r.2.1 ≤ (r.2.2 + 1) * b)
def priceB (rs : List Rw) (v : D) : Bool := match goodP v with
  | some (a, b) => holdsP rs a b
  | none => false
def m_is_price (K : PySem.W.Frag) : List D → M := fun ds Q _ => ∃ rs v, vR rs ∧ Ok v ∧ ds = [tD K rs, v] ∧ Q (.bl (priceB rs v))
def moreR (b r : Rw) : Rw := if b.2.2 * r.2.1 < r.2.2 * b.2.1 then r else b
def bestRow : List Rw → Rw
  | [] => ("", 0, 0)
  | r :: t => (r :: t).foldl moreR r
def priceOf (rs : List Rw) : D := if fairB rs = true then .tup [.int (bestRow rs).2.2, .int (bestRow rs).2.1] else .non
def m_price_of (K : PySem.W.Frag) : List D → M := fun ds Q _ => ∃ rs, vR rs ∧ ds = [tD K rs] ∧ Q (priceOf rs)
def inN (rs : List Rw) : D → Option Rw
  | .str x => rowOf rs x
  | _ => none
def m_share_at (K : PySem.W.Frag) : List D → M := fun ds Q E => ∃ rs d, vR rs ∧ Ok d ∧ ds = [tD K rs, d] ∧ (inN rs d = none → E ⟨He.ga K "Unknown", ks_Unknown, [d]⟩) ∧ ∀ r, inN rs d = some r → Q (.tup [.int r.2.1, .int r.2.2])
def m_most_for (K : PySem.W.Frag) : List D → M := fun ds Q E => ∃ rs d, vR rs ∧ Ok d ∧ ds = [tD K rs, d] ∧ (goodP d = none → E ⟨He.ga K "BadNumber", ks_BadNumber, [d]⟩) ∧ ∀ a b, goodP d = some (a, b) → Q (.tup (rs.map fun r => .int (a * r.2.1 / b)))
def m_turns_paper (K : PySem.W.Frag) : List D → M := fun ds Q _ => ∃ rs, vR rs ∧ ds = [tD K rs] ∧ Q (.tup [.bl (fairB rs), if fairB rs = true then priceOf rs else envyOf rs])
def paperB (rs : List Rw) : D → Bool
  | .tup [.bl b, x] => if b = true then priceB rs x else envyB rs x
  | _ => false
def m_is_turns_paper (K : PySem.W.Frag) : List D → M := fun ds Q _ => ∃ rs v, vR rs ∧ Ok v ∧ ds = [tD K rs, v] ∧ Q (.bl (paperB rs v))
end K16
namespace K16
open L2 PySem PySem.Spec WL
def N_is_price : List Str := ["turns", "value", "row"]
def P_is_price : List Str := ["turns", "value"]
def t_is_price (K : PySem.W.Frag) : SM :=
  (sSeq (sIf (mOr (mNot (mTru (mCall 2 (m_is_row K) (mCons (mVar 1) (mCons (mK (.int 2)) mNil))))) (mOr (mNot (mTru (mCall 3 (m_is_within K) (mCons (m2 ixM (mVar 1) (mK (.int 0))) (mCons (mK (.int 0)) (mCons (mK (.int 9999)) mNil)))))) (mNot (mTru (mCall 3 (m_is_within K) (mCons (m2 ixM (mVar 1) (mK (.int 1))) (mCons (mK (.int 1)) (mCons (mK (.int 9999)) mNil))))))))
  (sRet (mK (.bl false)))
  sNext)
  (sRet (m1 allM (mNew (mLc (miT (mAttr (He.ga K "Turns") ks_Turns 1 (mVar 0))) [2] (.nm 2) mYes (m3v leM leM (m2 mulM (m2 ixM (mVar 2) (mK (.int 2))) (m2 ixM (mVar 1) (mK (.int 1)))) (m2 mulM (m2 ixM (mVar 1) (mK (.int 0))) (m2 ixM (mVar 2) (mK (.int 1)))) (m2 mulM (m2 addM (m2 ixM (mVar 2) (mK (.int 2))) (mK (.int 1))) (m2 ixM (mVar 1) (mK (.int 1))))))))))
def N_price_of : List Str := ["turns", "best", "row"]
def P_price_of : List Str := ["turns"]
def t_price_of (K : PySem.W.Frag) : SM :=
  (sSeq (sIf (mNot (mTru (mCall 1 (m_are_fair K) (mCons (mVar 0) mNil))))
  (sRet (mK .non))
  sNext)
  (sSeq (sSet (m2 ixM (mAttr (He.ga K "Turns") ks_Turns 1 (mVar 0)) (mK (.int 0))) 1)
  (sSeq (sFor (miT (mAttr (He.ga K "Turns") ks_Turns 1 (mVar 0))) (.nm 2)
  (sSet (mIf (m2t gtM (m2 mulM (m2 ixM (mVar 2) (mK (.int 2))) (m2 ixM (mVar 1) (mK (.int 1)))) (m2 mulM (m2 ixM (mVar 1) (mK (.int 2))) (m2 ixM (mVar 2) (mK (.int 1))))) (mVar 2) (mVar 1)) 1))
  (sRet (mTup (mCons (m2 ixM (mVar 1) (mK (.int 2))) (mCons (m2 ixM (mVar 1) (mK (.int 1))) mNil)))))))
def N_share_at : List Str := ["turns", "name"]
def P_share_at : List Str := ["turns", "name"]
def t_share_at (K : PySem.W.Frag) : SM :=
  (sSeq (sIf (m2t notInM (mVar 1) (mUn (mAttr (He.ga K "Turns") ks_Turns 2 (mVar 0))))
  (sRaise (He.ga K "Unknown") ks_Unknown 1 (mCons (mVar 1) mNil))
  sNext)
  (sRet (mSl (m2 ixM (mAttr (He.ga K "Turns") ks_Turns 1 (mVar 0)) (mMtN idxTM (mAttr (He.ga K "Turns") ks_Turns 2 (mVar 0)) (mVar 1))) (moS (mK (.int 1))) moN)))
def N_most_for : List Str := ["turns", "price", "row"]
def P_most_for : List Str := ["turns", "price"]
def t_most_for (K : PySem.W.Frag) : SM :=
  (sSeq (sIf (mOr (mNot (mTru (mCall 2 (m_is_row K) (mCons (mVar 1) (mCons (mK (.int 2)) mNil))))) (mOr (mNot (mTru (mCall 3 (m_is_within K) (mCons (m2 ixM (mVar 1) (mK (.int 0))) (mCons (mK (.int 0)) (mCons (mK (.int 9999)) mNil)))))) (mNot (mTru (mCall 3 (m_is_within K) (mCons (m2 ixM (mVar 1) (mK (.int 1))) (mCons (mK (.int 1)) (mCons (mK (.int 9999)) mNil))))))))
  (sRaise (He.ga K "BadNumber") ks_BadNumber 1 (mCons (mVar 1) mNil))
  sNext)
  (sRet (m1 tupM (mNew (mLc (miT (mAttr (He.ga K "Turns") ks_Turns 1 (mVar 0))) [2] (.nm 2) mYes (m2 fdvM (m2 mulM (m2 ixM (mVar 1) (mK (.int 0))) (m2 ixM (mVar 2) (mK (.int 1)))) (m2 ixM (mVar 1) (mK (.int 1)))))))))
def N_turns_paper : List Str := ["turns", "price"]
def P_turns_paper : List Str := ["turns"]
def t_turns_paper (K : PySem.W.Frag) : SM :=
  (sSeq (sSet (mCall 1 (m_price_of K) (mCons (mVar 0) mNil)) 1)
  (sRet (mIf (m2t isNotM (mVar 1) (mK .non)) (mTup (mCons (mK (.bl true)) (mCons (mVar 1) mNil))) (mTup (mCons (mK (.bl false)) (mCons (mCall 1 (m_envy_of K) (mCons (mVar 0) mNil)) mNil))))))
def N_is_turns_paper : List Str := ["turns", "value"]
def P_is_turns_paper : List Str := ["turns", "value"]
def t_is_turns_paper (K : PySem.W.Frag) : SM :=
  (sSeq (sIf (mOr (mNot (mTru (mCall 2 (m_is_row K) (mCons (mVar 1) (mCons (mK (.int 2)) mNil))))) (mNot (mTru (mB1 (isTyM K "bool") (m2 ixM (mVar 1) (mK (.int 0)))))))
  (sRet (mK (.bl false)))
  sNext)
  (sRet (mIf (mTru (m2 ixM (mVar 1) (mK (.int 0)))) (mCall 2 (m_is_price K) (mCons (mVar 0) (mCons (m2 ixM (mVar 1) (mK (.int 1))) mNil))) (mCall 2 (m_is_envy K) (mCons (mVar 0) (mCons (m2 ixM (mVar 1) (mK (.int 1))) mNil))))))
theorem row2 {xs : List D} : rwB (.tup xs) 2 = true ↔ ∃ a b, xs = [a, b] := by
  unfold rwB
  constructor
  · intro h
    match xs, h with
    | [], h => simp at h
    | [_], h => simp at h
    | [a, b], _ => exact ⟨a, b, rfl⟩
    | _ :: _ :: _ :: _, h => simp at h; omega
  · rintro ⟨a, b, rfl⟩
    rfl
theorem big_p {i : Int} (h : 0 ≤ i ∧ i ≤ 9999) : big i := by unfold big; omega
theorem wiB_int {d : D} {a b : Int} (h : wiB d a b = true) : ∃ i, d = .int i ∧ a ≤ i ∧ i ≤ b := by
  unfold wiB at h
  split at h
  · simp only [Bool.and_eq_true, decide_eq_true_eq] at h
    exact ⟨_, rfl, h⟩
  · cases h
theorem goodP_none {x y : D} (h : ¬ (wiB x 0 9999 = true ∧ wiB y 1 9999 = true)) : goodP (.tup [x, y]) = none := by
  unfold goodP
  split
  · rename_i e
    cases e
    rw [if_neg]
    intro z
    exact h ⟨by simp [wiB, z.1], by simp [wiB, z.2]⟩
  · rfl
theorem goodP_row {xs : List D} (h : ∀ a b, xs ≠ [a, b]) : goodP (.tup xs) = none := by
  unfold goodP
  split
  · rename_i e
    cases e
    exact absurd rfl (h _ _)
  · rfl
theorem s_is_price (K : PySem.W.Frag) : ∀ ds Q E, ds.length = 2 → m_is_price K ds Q E → t_is_price K (startD N_is_price ds) (kt Q E) := by
  rintro ds Q E hl ⟨rs, v, vr, ok, rfl, q⟩
  simp [t_is_price, N_is_price, m_is_row, -List.map_map]
  refine ⟨ok, ?_⟩
  cases v with
  | tup xs =>
    cases hr : rwB (.tup xs) 2 with
    | false =>
      have e : goodP (.tup xs) = none := goodP_row fun a b z => by rw [row2.mpr ⟨a, b, z⟩] at hr; cases hr
      simpa [priceB, e] using q
    | true =>
      obtain ⟨x, y, rfl⟩ := row2.mp hr
      have ox : Ok x := ok.mem (by simp)
      have oy : Ok y := ok.mem (by simp)
      simp [m_is_within, ox, oy]
      cases h1 : wiB x 0 9999 with
      | false =>
        have e := goodP_none (x := x) (y := y) fun z => by rw [h1] at z; cases z.1
        simpa [priceB, e] using q
      | true =>
        cases h2 : wiB y 1 9999 with
        | false =>
          have e := goodP_none (x := x) (y := y) fun z => by rw [h2] at z; cases z.2
          simpa [priceB, e] using q
        | true =>
          obtain ⟨a, rfl, ha⟩ := wiB_int h1
          obtain ⟨b, rfl, hb⟩ := wiB_int h2
          have e : goodP (.tup [.int a, .int b]) = some (a, b) := by
            unfold goodP
            simp [ha, hb]
          simp
          refine ⟨by have := vr.hi; omega, lc_map (fun d => match d with | .tup [_, .int w, .int h] => .bl (decide (h * b ≤ a * w) && decide (a * w ≤ (h + 1) * b)) | _ => .non) (fun d hd R hR => ?_) ?_⟩
          · obtain ⟨r, h3, rfl⟩ := List.mem_map.mp hd
            have wr := (vr.row r h3).2.1
            simp [rD] at hR ⊢
            refine ⟨.inr (big_p (by omega)), .inl (big_p ha), ?_⟩
            split
            · rename_i h4
              refine ⟨.inr (big_p (by omega)), ?_⟩
              simpa [h4] using hR
            · rename_i h4
              simpa [h4] using hR
          · have e2 : (rs.map rD).map (fun d => match d with | .tup [_, .int w, .int h] => D.bl (decide (h * b ≤ a * w) && decide (a * w ≤ (h + 1) * b)) | _ => .non) = rs.map fun r => D.bl (decide (r.2.2 * b ≤ a * r.2.1) && decide (a * r.2.1 ≤ (r.2.2 + 1) * b)) := by
              rw [List.map_map]
              rfl
            rw [e2, blsOf_f]
            simp only [optQ_s]
            simp only [priceB, e, holdsP] at q
            simpa [List.all_map, Function.comp_def] using q
  | _ => first | exact (Bool.noConfusion ok) | simpa [rwB, priceB, goodP] using q
theorem moreR_mem (rs : List Rw) : ∀ (t : List Rw) (b : Rw), b ∈ rs → (∀ r ∈ t, r ∈ rs) → t.foldl moreR b ∈ rs
  | [], b, h, _ => h
  | r :: t, b, h, ht => by
    rw [List.foldl_cons]
    refine moreR_mem rs t _ ?_ fun x hx => ht x (List.mem_cons_of_mem _ hx)
    unfold moreR
    split
    · exact ht r (List.mem_cons_self ..)
    · exact h
theorem foldl_take {α β : Type} (f : β → α → β) {l : List α} {i : Nat} {x : α} (h : l[i]? = some x) (b : β) : (l.take (i + 1)).foldl f b = f ((l.take i).foldl f b) x := by
  rw [List.take_succ, h, List.foldl_append]
  rfl
theorem s_price_of (K : PySem.W.Frag) : ∀ ds Q E, ds.length = 1 → m_price_of K ds Q E → t_price_of K (startD N_price_of ds) (kt Q E) := by
  rintro ds Q E hl ⟨rs, vr, rfl, q⟩
  simp [t_price_of, N_price_of]
  refine ⟨rs, vr, rfl, ?_⟩
  cases hf : fairB rs with
  | false => simpa [priceOf, hf] using q
  | true =>
    match rs, vr, hf, q with
    | [], vr, _, _ => exact absurd vr.lo (by decide)
    | r0 :: t, vr, hf, q =>
      simp [-forD]
      refine forD_inv (fun i ρ => ∃ x2, ρ = [some (.dat (tD K (r0 :: t))), some (.dat (rD (((r0 :: t).take i).foldl moreR r0))), x2]) ⟨none, rfl⟩ ?_ ?_
      · rintro i d ρ N hd ⟨x2, rfl⟩ hN
        rw [show rD r0 :: t.map rD = (r0 :: t).map rD from rfl, List.getElem?_map] at hd
        cases w : (r0 :: t)[i]? with
        | none => rw [w] at hd; cases hd
        | some r =>
          rw [w] at hd
          cases hd
          have hbm : ((r0 :: t).take i).foldl moreR r0 ∈ r0 :: t := moreR_mem _ _ _ (List.mem_cons_self ..) fun r hr => List.mem_of_mem_take hr
          have w1 := (vr.row r (List.mem_of_getElem? w)).2
          have w2 := (vr.row _ hbm).2
          generalize hb : ((r0 :: t).take i).foldl moreR r0 = b at *
          have e := foldl_take moreR w r0
          rw [hb] at e
          simp [lpB, rD]
          refine ⟨.inl (big_p (by omega)), .inl (big_p (by omega)), ?_⟩
          split
          · rename_i h
            exact hN _ ⟨_, by rw [e, moreR, if_pos h, rD]⟩
          · rename_i h
            exact hN _ ⟨_, by rw [e, moreR, if_neg h, rD]⟩
      · rintro ρ ⟨x2, rfl⟩
        have e : (r0 :: t).take (rD r0 :: t.map rD).length = r0 :: t := by simp
        rw [e]
        simp [rD]
        simpa [priceOf, hf, bestRow] using q
theorem in_row {rs : List Rw} {d : D} (ok : Ok d) : inB d (rs.map fun r => D.str r.1) = (inN rs d).isSome := by
  cases d with
  | str x => exact in_names rs x
  | _ =>
    first
    | exact (Bool.noConfusion ok)
    | (show inB _ _ = false
       clear ok
       induction rs with
       | nil => rfl
       | cons r rs ih =>
         rw [List.map_cons, inB, ih]
         rfl)
theorem idx_row {rs : List Rw} {x : Str} {r : Rw} (h : rowOf rs x = some r) : ∃ j, idxB (.str x) (rs.map fun r => D.str r.1) = some j ∧ rs[j]? = some r := by
  induction rs with
  | nil => cases h
  | cons a rs ih =>
    unfold rowOf at h
    rw [List.find?_cons] at h
    rw [List.map_cons, idxB]
    cases e : a.1 == x with
    | true =>
      rw [e] at h
      cases h
      exact ⟨0, if_pos e, rfl⟩
    | false =>
      rw [e] at h
      obtain ⟨j, h1, h2⟩ := ih h
      exact ⟨j + 1, by rw [if_neg (by show ¬ (a.1 == x) = true; rw [e]; decide), h1]; rfl, by simpa using h2⟩
theorem s_share_at (K : PySem.W.Frag) : ∀ ds Q E, ds.length = 2 → m_share_at K ds Q E → t_share_at K (startD N_share_at ds) (kt Q E) := by
  rintro ds Q E hl ⟨rs, d, vr, ok, rfl, q1, q2⟩
  have oN := vr.okN
  simp [t_share_at, N_share_at, -List.map_map, in_row ok]
  refine ⟨⟨ok, oN⟩, ?_⟩
  cases h : inN rs d with
  | none => simpa using q1 h
  | some r =>
    cases d with
    | str x =>
      obtain ⟨j, h1, h2⟩ := idx_row (show rowOf rs x = some r from h)
      simp [h1, atI_n, rD_at h2, -List.getElem?_map]
      refine ⟨⟨ok, oN⟩, ?_⟩
      have e := cutL_suf [D.str r.1, .int r.2.1, .int r.2.2] 1
      simp [rD, h2]
      rw [show (some (1 : Int)) = some ((1 : Nat) : Int) from rfl, e]
      exact q2 r h
    | _ => cases h
theorem goodP_some {d : D} {a b : Int} (h : goodP d = some (a, b)) : d = .tup [.int a, .int b] ∧ (0 ≤ a ∧ a ≤ 9999) ∧ (1 ≤ b ∧ b ≤ 9999) := by
  unfold goodP at h
  split at h
  · split at h
    · rename_i hh
      cases h
      exact ⟨rfl, hh⟩
    · cases h
  · cases h
theorem s_most_for (K : PySem.W.Frag) : ∀ ds Q E, ds.length = 2 → m_most_for K ds Q E → t_most_for K (startD N_most_for ds) (kt Q E) := by
  rintro ds Q E hl ⟨rs, v, vr, ok, rfl, q1, q2⟩
  simp [t_most_for, N_most_for, m_is_row, -List.map_map]
  refine ⟨ok, ?_⟩
  cases v with
  | tup xs =>
    cases hr : rwB (.tup xs) 2 with
    | false => simpa using q1 (goodP_row fun a b z => by rw [row2.mpr ⟨a, b, z⟩] at hr; cases hr)
    | true =>
      obtain ⟨x, y, rfl⟩ := row2.mp hr
      have ox : Ok x := ok.mem (by simp)
      have oy : Ok y := ok.mem (by simp)
      simp [m_is_within, ox, oy]
      cases h1 : wiB x 0 9999 with
      | false => simpa using q1 (goodP_none (x := x) (y := y) fun z => by rw [h1] at z; cases z.1)
      | true =>
        cases h2 : wiB y 1 9999 with
        | false => simpa using q1 (goodP_none (x := x) (y := y) fun z => by rw [h2] at z; cases z.2)
        | true =>
          obtain ⟨a, rfl, ha⟩ := wiB_int h1
          obtain ⟨b, rfl, hb⟩ := wiB_int h2
          have e : goodP (.tup [.int a, .int b]) = some (a, b) := by
            unfold goodP
            simp [ha, hb]
          simp
          refine ⟨by have := vr.hi; omega, lc_map (fun d => match d with | .tup [_, .int w, _] => .int (a * w / b) | _ => .non) (fun d hd R hR => ?_) ?_⟩
          · obtain ⟨r, h3, rfl⟩ := List.mem_map.mp hd
            simp [rD] at hR ⊢
            exact ⟨.inl (big_p ha), by omega, hR⟩
          · have e2 : (rs.map rD).map (fun d => match d with | .tup [_, .int w, _] => D.int (a * w / b) | _ => .non) = rs.map fun r => D.int (a * r.2.1 / b) := by
              rw [List.map_map]
              rfl
            rw [e2]
            exact q2 a b e
  | _ => first | exact (Bool.noConfusion ok) | simpa [rwB] using q1 rfl
theorem s_turns_paper (K : PySem.W.Frag) : ∀ ds Q E, ds.length = 1 → m_turns_paper K ds Q E → t_turns_paper K (startD N_turns_paper ds) (kt Q E) := by
  rintro ds Q E hl ⟨rs, vr, rfl, q⟩
  simp [t_turns_paper, N_turns_paper]
  refine ⟨rs, vr, rfl, ?_⟩
  cases hf : fairB rs with
  | true =>
    rw [hf] at q
    simpa [priceOf, hf] using q
  | false =>
    rw [hf] at q
    simp [priceOf, hf]
    exact ⟨rs, vr, rfl, by simpa using q⟩
theorem s_is_turns_paper (K : PySem.W.Frag) : ∀ ds Q E, ds.length = 2 → m_is_turns_paper K ds Q E → t_is_turns_paper K (startD N_is_turns_paper ds) (kt Q E) := by
  rintro ds Q E hl ⟨rs, v, vr, ok, rfl, q⟩
  simp [t_is_turns_paper, N_is_turns_paper, m_is_row]
  refine ⟨ok, ?_⟩
  cases v with
  | tup xs =>
    cases hr : rwB (.tup xs) 2 with
    | false =>
      have e : paperB rs (.tup xs) = false := by
        unfold paperB
        split
        · rename_i e
          cases e
          cases hr
        · rfl
      simpa [e] using q
    | true =>
      obtain ⟨x, y, rfl⟩ := row2.mp hr
      have ox : Ok x := ok.mem (by simp)
      have oy : Ok y := ok.mem (by simp)
      cases x with
      | bl b =>
        simp
        cases b with
        | true => exact ⟨rs, y, vr, oy, rfl, q⟩
        | false => exact ⟨rs, y, vr, oy, rfl, q⟩
      | _ => first | exact (Bool.noConfusion ox) | simpa [paperB] using q
  | _ => first | exact (Bool.noConfusion ok) | simpa [rwB, paperB] using q
end K16
namespace WL
open L2 PySem PySem.Spec
/-! ### promises of the laws' own defs -/
/-- a draw: any number below n -/
def m__law_taken (_ : PySem.W.Frag) : List D → M := fun ds Q _ => match ds with
  | [.row, .int n] => (0 < n ∧ n < 1073741824) ∧ ∀ k : Int, 0 ≤ k → k < n → Q (.int k)
  | _ => False
def m__law_pick (_ : PySem.W.Frag) : List D → M := fun ds Q _ => match ds with
  | [.row, .lst things] => (1 ≤ things.length ∧ things.length ≤ 1000) ∧ ∀ d ∈ things, Q d
  | _ => False
def m__law_at (_ : PySem.W.Frag) : List D → M := fun ds Q _ => match ds with
  | [.tup rows, .int n, v] => (1 ≤ n ∧ rows.length ≤ 900) ∧ Q (.tup (rows.take (n - 1).toNat ++ v :: rows.drop n.toNat))
  | _ => False
def flatD : List D → List D
  | [] => []
  | .lst xs :: r => xs ++ flatD r
  | .tup xs :: r => xs ++ flatD r
  | _ :: r => flatD r
def m__law_flat (_ : PySem.W.Frag) : List D → M := fun ds Q _ => match ds with
  | [.lst rows] => ((flatD rows).length ≤ 1000 ∧ ∀ r ∈ rows, ∃ xs, r = .lst xs ∨ r = .tup xs) ∧ Q (.lst (flatD rows))
  | _ => False
def m__law_whole (_ : PySem.W.Frag) : List D → M := fun ds Q _ => match ds with
  | [d, .int a, .int b] => Ok d ∧ Q (.bl (wiB d a b))
  | _ => False
end WL
namespace WL
open L2 PySem PySem.Spec
def N__law_pick : List Str := ["row", "things"]
def P__law_pick : List Str := ["row", "things"]
def t__law_pick (K : PySem.W.Frag) : SM :=
  (sRet (m2 ixM (mVar 1) (mCall 2 (m__law_taken K) (mCons (mVar 0) (mCons (m1 lenM (mVar 1)) mNil)))))
def N__law_at : List Str := ["rows", "number", "value"]
def P__law_at : List Str := ["rows", "number", "value"]
def t__law_at (K : PySem.W.Frag) : SM :=
  (sRet (m2 addM (m2 addM (mSl (mVar 0) moN (moS (m2 subM (mVar 1) (mK (.int 1))))) (mTup (mCons (mVar 2) mNil))) (mSl (mVar 0) (moS (mVar 1)) moN)))
def N__law_flat : List Str := ["rows", "found", "row"]
def P__law_flat : List Str := ["rows"]
def t__law_flat (K : PySem.W.Frag) : SM :=
  (sSeq (sSet (mNew (mLst mNil)) 1)
  (sSeq (sFor (miL (mVar 0)) (.nm 2)
  (sSet (m2 addM (mVar 1) (mNew (m1F lstM (mVar 2)))) 1))
  (sRet (mVar 1))))
def N__law_whole : List Str := ["value", "least", "most"]
def P__law_whole : List Str := ["value", "least", "most"]
def t__law_whole (K : PySem.W.Frag) : SM :=
  (sRet (mAndV (mB1 (isTyM K "int") (mVar 0)) (mAndV (mNotV (mB1 (isTyM K "bool") (mVar 0))) (m3v leM leM (mVar 1) (mVar 0) (mVar 2)))))
def N__law_alike : List Str := ["found", "due", "k"]
def P__law_alike : List Str := ["found", "due"]
def t__law_alike (K : PySem.W.Frag) (m__law_alike : List D → M) : SM :=
  (sSeq (sIf (mTru (mB1 (isTysM K ["tuple", "list"]) (mVar 1)))
  (sSeq (sIf (mOr (mNot (mTru (mB1 (isTysM K ["tuple", "list"]) (mVar 0)))) (m2t neM (mB1 (isTyM K "list") (mVar 0)) (mB1 (isTyM K "list") (mVar 1))))
  (sRet (mK (.bl false)))
  sNext)
  (sSeq (sIf (m2t neM (m1 lenM (mVar 0)) (m1 lenM (mVar 1)))
  (sRet (mK (.bl false)))
  sNext)
  (sRet (m2v eqM (mNew (mLc (miR1 (m1 lenM (mVar 1))) [2] (.nm 2) (mNot (mTru (mCall 2 m__law_alike (mCons (m2 ixM (mVar 0) (mVar 2)) (mCons (m2 ixM (mVar 1) (mVar 2)) mNil))))) (mVar 2))) (mNew (mLst mNil))))))
  sNext)
  (sSeq (sIf (mOr (m2t isM (mVar 1) (mK .non)) (mTru (mB1 (isTyM K "str") (mVar 1))))
  (sRet (mAndV (m2v eqM (mVar 0) (mVar 1)) (m2v eqM (mB1 (isTyM K "str") (mVar 0)) (mB1 (isTyM K "str") (mVar 1)))))
  sNext)
  (sRet (mAndV (mB1 (isTyM K "int") (mVar 0)) (mAndV (m2v eqM (mB1 (isTyM K "bool") (mVar 0)) (mB1 (isTyM K "bool") (mVar 1))) (m2v eqM (mVar 0) (mVar 1)))))))
theorem s__law_pick (K : PySem.W.Frag) : ∀ ds Q E, ds.length = 2 → m__law_pick K ds Q E → t__law_pick K (startD N__law_pick ds) (kt Q E) := by
  intro ds Q E hl h
  unfold m__law_pick at h
  split at h
  · rename_i things
    obtain ⟨⟨h1, h2⟩, q⟩ := h
    simp [t__law_pick, N__law_pick, m__law_taken]
    refine ⟨⟨by omega, by omega⟩, fun k hk hk2 => ?_⟩
    have e : k = ((k.toNat : Nat) : Int) := (Int.toNat_of_nonneg hk).symm
    have hlt : k.toNat < things.length := by omega
    rw [e, atI_n, List.getElem?_eq_getElem hlt]
    exact q _ (List.getElem_mem hlt)
  · exact h.elim
theorem s__law_at (K : PySem.W.Frag) : ∀ ds Q E, ds.length = 3 → m__law_at K ds Q E → t__law_at K (startD N__law_at ds) (kt Q E) := by
  intro ds Q E hl h
  unfold m__law_at at h
  split at h
  · rename_i ps n v
    obtain ⟨⟨h0, h1⟩, q⟩ := h
    have l1 : (ps.take (n - 1).toNat).length ≤ ps.length := by rw [List.length_take]; omega
    have l2 : (ps.drop n.toNat).length ≤ ps.length := by rw [List.length_drop]; omega
    simp [t__law_at, N__law_at, cutL_pre' ps (show 0 ≤ n - 1 by omega), cutL_suf' ps (show 0 ≤ n by omega)]
    simp at q l1 l2
    exact ⟨by omega, by omega, q⟩
  · exact h.elim
theorem s__law_whole (K : PySem.W.Frag) : ∀ ds Q E, ds.length = 3 → m__law_whole K ds Q E → t__law_whole K (startD N__law_whole ds) (kt Q E) := by
  intro ds Q E hl h
  unfold m__law_whole at h
  split at h
  · rename_i d a b
    obtain ⟨ok, q⟩ := h
    cases d with
    | int i =>
      simp [t__law_whole, N__law_whole, wiB] at q ⊢
      split
      · rename_i h1
        simpa [h1] using q
      · rename_i h1
        simpa [h1] using q
    | _ => first | exact (Bool.noConfusion ok) | (simp [t__law_whole, N__law_whole, wiB] at q ⊢; exact q)
  · exact h.elim
theorem s__law_flat (K : PySem.W.Frag) : ∀ ds Q E, ds.length = 1 → m__law_flat K ds Q E → t__law_flat K (startD N__law_flat ds) (kt Q E) := by
  intro ds Q E hl h
  unfold m__law_flat at h
  split at h
  · rename_i rows
    obtain ⟨⟨h1, h2⟩, q⟩ := h
    simp [t__law_flat, N__law_flat, -forD]
    have fa : ∀ (a b : List D), flatD (a ++ b) = flatD a ++ flatD b := fun a b => by
      induction a with
      | nil => rfl
      | cons d a ih => cases d <;> simp [flatD, ih]
    refine forD_inv (fun i ρ => ∃ x2, ρ = [some (.dat (.lst rows)), some (.dat (.lst (flatD (rows.take i)))), x2]) ⟨none, rfl⟩ ?_ ?_
    · rintro i d ρ N hd ⟨x2, rfl⟩ hN
      have e : rows.take (i + 1) = rows.take i ++ [d] := by
        rw [List.take_succ, hd]
        rfl
      have lf : (flatD (rows.take (i + 1))).length ≤ 1000 := by
        have q := fa (rows.take (i + 1)) (rows.drop (i + 1))
        rw [List.take_append_drop] at q
        have q2 := congrArg List.length q
        rw [List.length_append] at q2
        omega
      rw [e, fa] at lf
      have key : ∀ xs, flatD [d] = xs → flatD (rows.take (i + 1)) = flatD (rows.take i) ++ xs := fun xs h => by rw [e, fa, h]
      obtain ⟨xs, hx | hx⟩ := h2 d (List.mem_of_getElem? hd)
      · subst hx
        have kx := key xs (by simp [flatD])
        simp [flatD] at lf
        simp [lpB]
        exact ⟨by omega, hN _ ⟨_, by rw [kx]⟩⟩
      · subst hx
        have kx := key xs (by simp [flatD])
        simp [flatD] at lf
        simp [lpB]
        exact ⟨by omega, hN _ ⟨_, by rw [kx]⟩⟩
    · rintro ρ ⟨x2, rfl⟩
      rw [List.take_length]
      exact q
  · exact h.elim
theorem okDs_at {n : Nat} {ds : List D} {i : Nat} {d : D} (h : okDs (n + 1) ds = true) (hd : ds[i]? = some d) : okD n d = true := by
  have hm := List.mem_of_getElem? hd
  clear hd
  induction ds with
  | nil => cases hm
  | cons e r ih =>
    rw [okDs, Bool.and_eq_true] at h
    rcases List.mem_cons.mp hm with q | q
    · rw [q]; exact h.1
    · exact ih h.2 q
mutual
theorem eqD_refl : ∀ (n : Nat) (d : D), okD n d = true → eqD d d = true
  | _, .non, _ => rfl
  | _, .bl b, _ => by simp [eqD]
  | _, .int i, _ => by simp [eqD]
  | _, .str x, _ => by simp [eqD]
  | n, .tup xs, h => eqDs_refl n xs h
  | n, .lst xs, h => eqDs_refl n xs h
theorem eqDs_refl : ∀ (n : Nat) (ds : List D), okDs n ds = true → eqDs ds ds = true
  | _, [], _ => rfl
  | n + 1, d :: r, h => by
    rw [okDs, Bool.and_eq_true] at h
    rw [eqDs, eqD_refl n d h.1, eqDs_refl (n + 1) r h.2]
    rfl
end
mutual
/-- no sequence in it is long -/
def smD : D → Bool
  | .tup xs => decide (xs.length ≤ 900) && smDs xs
  | .lst xs => decide (xs.length ≤ 900) && smDs xs
  | _ => true
def smDs : List D → Bool
  | [] => true
  | d :: r => smD d && smDs r
end
theorem smDs_at {ds : List D} {i : Nat} {d : D} (h : smDs ds = true) (hd : ds[i]? = some d) : smD d = true := by
  have hm := List.mem_of_getElem? hd
  clear hd
  induction ds with
  | nil => cases hm
  | cons e r ih =>
    rw [smDs, Bool.and_eq_true] at h
    rcases List.mem_cons.mp hm with q | q
    · rw [q]; exact h.1
    · exact ih h.2 q
theorem mem_upto {n : Nat} {d : D} (h : d ∈ upto n) : ∃ i : Nat, i < n ∧ d = .int i := by
  unfold upto at h
  simp at h
  obtain ⟨i, h1, h2⟩ := h
  exact ⟨i, h1, h2.symm⟩
theorem upto_length (n : Nat) : (upto n).length = n := by simp [upto]
/-- the same data -/
def m__law_alike (n : Nat) : List D → M := fun ds Q _ => match ds with
  | [a, b] => (a = b ∧ okD n a = true ∧ smD a = true ∧ n ≤ 50) ∧ Q (.bl true)
  | _ => False
theorem s__law_alike (K : PySem.W.Frag) (n : Nat) (mr : List D → M) (hr : ∀ xs d, okDs n xs = true → d ∈ xs → smD d = true → n ≤ 50 → ∀ (Q : D → Prop) E, Q (.bl true) → mr [d, d] Q E) :
    ∀ ds Q E, ds.length = 2 → m__law_alike n ds Q E → t__law_alike K mr (startD N__law_alike ds) (kt Q E) := by
  intro ds Q E hl h
  unfold m__law_alike at h
  split at h
  · rename_i a b
    obtain ⟨⟨e, o, sm, hn⟩, q⟩ := h
    subst e
    have ok : Ok a := okD_mono _ 60 _ (by omega) o
    cases a with
    | tup xs =>
      have o' : okDs n xs = true := o
      rw [smD, Bool.and_eq_true, decide_eq_true_eq] at sm
      have okn : Ok (.lst []) := rfl
      simp [t__law_alike, N__law_alike, Ok.b, Ok.i, eqD, upto_length]
      refine ⟨by omega, by omega, lc_filter (fun _ => false) id (fun d hd Rt Rf ht hf => ?_) ?_⟩
      · obtain ⟨i, hi, rfl⟩ := mem_upto hd
        have hx : xs[i]? = some xs[i] := List.getElem?_eq_getElem hi
        simp [atI_n, hx]
        exact hr xs _ o' (List.mem_of_getElem? hx) (smDs_at sm.2 hx) hn _ _ (by simpa using hf rfl)
      · rw [show (upto xs.length).filter (fun _ => false) = [] from List.filter_eq_nil_iff.mpr fun _ _ => by simp]
        exact ⟨⟨okn, okn⟩, q⟩
    | lst xs =>
      have o' : okDs n xs = true := o
      rw [smD, Bool.and_eq_true, decide_eq_true_eq] at sm
      have okn : Ok (.lst []) := rfl
      simp [t__law_alike, N__law_alike, Ok.b, Ok.i, eqD, upto_length]
      refine ⟨by omega, by omega, lc_filter (fun _ => false) id (fun d hd Rt Rf ht hf => ?_) ?_⟩
      · obtain ⟨i, hi, rfl⟩ := mem_upto hd
        have hx : xs[i]? = some xs[i] := List.getElem?_eq_getElem hi
        simp [atI_n, hx]
        exact hr xs _ o' (List.mem_of_getElem? hx) (smDs_at sm.2 hx) hn _ _ (by simpa using hf rfl)
      · rw [show (upto xs.length).filter (fun _ => false) = [] from List.filter_eq_nil_iff.mpr fun _ _ => by simp]
        exact ⟨⟨okn, okn⟩, q⟩
    | _ => first | exact (Bool.noConfusion ok) | (simp [t__law_alike, N__law_alike, Ok.b, Ok.i, Ok.n, eqD, ok] at q ⊢; first | exact q | skip)
  · exact h.elim
end WL
namespace WL
open L2 PySem PySem.Spec
def N__law_names : List Str := ["row", "many", "letters", "begin", "names", "head", "tail", "kind", "k", "sign"]
def P__law_names : List Str := ["row", "many"]
def t__law_names (K : PySem.W.Frag) : SM :=
  (sSeq (sSet (mK (.str "abcdefghijklmnopqrstuvwxyz")) 2)
  (sSeq (sPar [3, 4] (mlD (mCall 2 (m__law_taken K) (mCons (mVar 0) (mCons (mK (.int 26)) mNil))) (mlO (mLst mNil) mlN)))
  (sSeq (sSet (m2 mulM (m2 ixM (mVar 2) (mCall 2 (m__law_taken K) (mCons (mVar 0) (mCons (mK (.int 26)) mNil)))) (mCall 2 (m__law_taken K) (mCons (mVar 0) (mCons (mK (.int 4)) mNil)))) 5)
  (sSeq (sSet (m2 mulM (m2 ixM (mVar 2) (mCall 2 (m__law_taken K) (mCons (mVar 0) (mCons (mK (.int 26)) mNil)))) (mCall 2 (m__law_taken K) (mCons (mVar 0) (mCons (mK (.int 4)) mNil)))) 6)
  (sSeq (sSet (mCall 2 (m__law_taken K) (mCons (mVar 0) (mCons (mK (.int 2)) mNil))) 7)
  (sSeq (sFor (miR1 (mVar 1)) (.nm 8)
  (sSeq (sSet (m2 ixM (mVar 2) (m2 modM (m1 intM (m2 addM (mVar 3) (m2 mulM (mK (.int 7)) (mVar 8)))) (mK (.int 26)))) 9)
  (sApp 4 (mIf (m2t eqM (mVar 7) (mK (.int 0))) (m2 addM (m2 addM (mVar 5) (mVar 9)) (mVar 6)) (m2 addM (mVar 9) (m2 mulM (m2 ixM (mVar 2) (mCall 2 (m__law_taken K) (mCons (mVar 0) (mCons (mK (.int 26)) mNil)))) (mCall 2 (m__law_taken K) (mCons (mVar 0) (mCons (mK (.int 8)) mNil)))))))))
  (sRetO 4)))))))
def N__law_fresh : List Str := ["names", "sign"]
def P__law_fresh : List Str := ["names"]
def t__law_fresh (K : PySem.W.Frag) : SM :=
  (sRet (m2 ixM (mNew (mLc (miS (mK (.str "zyxwvutsrqponmlkjihgfedcba"))) [1] (.nm 1) (m2t notInM (m2 mulM (mVar 1) (mK (.int 8))) (mVar 0)) (m2 mulM (mVar 1) (mK (.int 8))))) (mK (.int 0))))
theorem str_ext {x y : Str} (h : x.cps.toList = y.cps.toList) : x = y := by
  cases x; cases y
  congr 1
  exact Array.toList_inj.mp h
theorem app_list (x y : Str) : (x ++ y).cps.toList = x.cps.toList ++ y.cps.toList := by
  show (x.cps ++ y.cps).toList = _
  simp
theorem len_list (x : Str) : x.length = x.cps.toList.length := by
  show x.cps.size = _
  simp
theorem letters_lt : ∀ c ∈ letters.cps.toList, c < 0x110000 := by decide +kernel
theorem letters_len : letters.cps.toList.length = 26 := by decide +kernel
theorem letters_nd : letters.cps.toList.Nodup := by decide +kernel
/-- a name's signs -/
def Lt (x : Str) : Prop := ∀ c ∈ x.cps.toList, c ∈ letters.cps.toList
theorem Lt.app {x y : Str} (h : Lt x) (g : Lt y) : Lt (x ++ y) := fun c hc => by
  rw [app_list] at hc
  rcases List.mem_append.mp hc with q | q
  · exact h c q
  · exact g c q
theorem Lt.one {c : Nat} (h : c ∈ letters.cps.toList) : Lt ⟨#[c]⟩ := fun d hd => by
  have e : d = c := by simpa using hd
  rw [e]; exact h
theorem Lt.mul {c : Nat} (h : c ∈ letters.cps.toList) (n : Int) : Lt (Txt.mul ⟨#[c]⟩ n) := fun d hd => by
  rw [PyProof.Rows.mul_one_list] at hd
  rw [(List.mem_replicate.mp hd).2]
  exact h
theorem mul_len (c : Nat) (n : Int) : (Txt.mul ⟨#[c]⟩ n).length = n.toNat := by
  rw [len_list, PyProof.Rows.mul_one_list, List.length_replicate]
theorem nmB_of {x : Str} (h : Lt x) (h1 : 1 ≤ x.length) (h2 : x.length ≤ 8) : nmB (.str x) = true := by
  simp only [nmB, Bool.and_eq_true, decide_eq_true_eq, List.all_eq_true]
  exact ⟨⟨by omega, by omega⟩, h⟩
theorem nmB_ok {x : Str} (n : Nat) (h : nmB (.str x) = true) : okD n (.str x) = true := by
  simp only [nmB, Bool.and_eq_true, decide_eq_true_eq, List.all_eq_true] at h
  rw [okD, Bool.and_eq_true]
  refine ⟨?_, decide_eq_true (by omega)⟩
  unfold PyData.strOk
  rw [← Array.all_toList, List.all_eq_true]
  exact fun c hc => decide_eq_true (letters_lt c (h.2 c hc))

def m__law_names (_ : PySem.W.Frag) : List D → M := fun ds Q _ => match ds with
  | [.row, .int many] => (0 ≤ many ∧ many ≤ 26) ∧ ∀ xs : List Str, (xs.length : Int) = many → xs.Nodup → (∀ x ∈ xs, nmB (.str x) = true) → Q (.lst (xs.map D.str))
  | _ => False
/-- the i-th sign, and it is one -/
theorem letter_at {i : Int} (h0 : 0 ≤ i) (h1 : i < 26) : ∃ c, letters.cps.toList[i.toNat]? = some c ∧ c ∈ letters.cps.toList := by
  have h : i.toNat < letters.cps.toList.length := by rw [letters_len]; omega
  exact ⟨_, List.getElem?_eq_getElem h, List.getElem_mem h⟩
theorem letter_atI {i : Int} (h0 : 0 ≤ i) (h1 : i < 26) : ∃ c, atI letters.cps.toList i = some c ∧ c ∈ letters.cps.toList ∧ letters.cps.toList[i.toNat]? = some c := by
  obtain ⟨c, h2, h3⟩ := letter_at h0 h1
  refine ⟨c, ?_, h3, h2⟩
  rw [← Int.toNat_of_nonneg h0, atI_n]
  exact h2
/-- the signs at pos are told by the place -/
structure NmI (pos : Nat) (begin : Int) (xs : List Str) : Prop where
  nm : ∀ x ∈ xs, nmB (.str x) = true
  at_ : ∀ (p : Nat) (x : Str), xs[p]? = some x → x.cps.toList[pos]? = letters.cps.toList[((begin + 7 * (p : Int)) % 26).toNat]?
theorem NmI.nd {pos : Nat} {begin : Int} {xs : List Str} (h : NmI pos begin xs) (hl : xs.length ≤ 26) : xs.Nodup := by
  refine List.pairwise_iff_getElem.mpr ?_
  intro p q hp hq hpq e
  have e1 : xs[p]? = some xs[p] := List.getElem?_eq_getElem (by omega)
  have e2 : xs[q]? = some xs[q] := List.getElem?_eq_getElem hq
  have a1 := h.at_ p _ e1
  have a2 := h.at_ q _ e2
  rw [← e, a1] at a2
  have b1 : ((begin + 7 * (p : Int)) % 26).toNat < letters.cps.toList.length := by rw [letters_len]; omega
  have b2 : ((begin + 7 * (q : Int)) % 26).toNat < letters.cps.toList.length := by rw [letters_len]; omega
  have := (List.getElem?_inj b1 letters_nd).mp a2
  omega
theorem NmI.snoc {pos : Nat} {begin : Int} {xs : List Str} {x : Str} (h : NmI pos begin xs) (hn : nmB (.str x) = true) (ha : x.cps.toList[pos]? = letters.cps.toList[((begin + 7 * (xs.length : Int)) % 26).toNat]?) : NmI pos begin (xs ++ [x]) where
  nm := fun y hy => by
    rcases List.mem_append.mp hy with q | q
    · exact h.nm y q
    · rw [List.mem_singleton.mp q]; exact hn
  at_ := fun p y hy => by
    by_cases hp : p < xs.length
    · rw [List.getElem?_append_left hp] at hy
      exact h.at_ p y hy
    · rw [List.getElem?_append_right (by omega)] at hy
      have : p - xs.length = 0 := by
        rcases Nat.eq_zero_or_pos (p - xs.length) with q | q
        · exact q
        · rw [List.getElem?_eq_none (by simp; omega)] at hy; cases hy
      rw [this] at hy
      cases hy
      have : p = xs.length := by omega
      rw [this]
      exact ha
theorem letters_len' : letters.length = 26 := by rw [len_list, letters_len]
theorem upto_at {n i : Nat} {d : D} (h : (upto n)[i]? = some d) : i < n ∧ d = .int (i : Nat) := by
  have hi : i < n := by
    have q := (List.getElem?_eq_some_iff.mp h).1
    simpa [upto] using q
  refine ⟨hi, ?_⟩
  simp [upto, hi] at h
  exact h.symm
theorem one_len (c : Nat) : ({ cps := #[c] } : Str).length = 1 := rfl
theorem s__law_names (K : PySem.W.Frag) : ∀ ds Q E, ds.length = 2 → m__law_names K ds Q E → t__law_names K (startD N__law_names ds) (kt Q E) := by
  intro ds Q E hl h
  unfold m__law_names at h
  split at h
  · rename_i many
    obtain ⟨⟨h0, h1⟩, q⟩ := h
    unfold t__law_names
    rw [show ("abcdefghijklmnopqrstuvwxyz" : Str) = letters from rfl]
    have lL := letters_len'
    have lA := @letter_atI
    obtain ⟨L, hL⟩ : ∃ L, L = letters := ⟨_, rfl⟩
    rw [← hL] at lL lA ⊢
    simp [N__law_names, m__law_taken, -forD]
    intro b hb0 hb1 a ha0 ha1
    obtain ⟨c, hc, hcm, _⟩ := lA ha0 ha1
    refine ⟨by omega, ?_⟩
    rw [hc, optQ_s]
    intro n hn0 hn1
    refine ⟨by rw [one_len]; omega, hn0, by omega, fun a2 ha20 ha21 => ⟨by omega, ?_⟩⟩
    obtain ⟨c2, hc2, hcm2, _⟩ := lA ha20 ha21
    rw [hc2, optQ_s]
    intro n2 hn20 hn21
    refine ⟨by rw [one_len]; omega, hn20, by omega, fun kd hk0 hk1 => ⟨by omega, ?_⟩⟩
    have hN : ∀ {x : Str}, (∀ e ∈ x.cps.toList, e ∈ L.cps.toList) → Lt x := fun h => by rw [hL] at h; exact h
    have l1 : Lt (Txt.mul ⟨#[c]⟩ n) := Lt.mul (by rw [← hL]; exact hcm) n
    have l2 : Lt (Txt.mul ⟨#[c2]⟩ n2) := Lt.mul (by rw [← hL]; exact hcm2) n2
    have g1 : (Txt.mul ⟨#[c]⟩ n).length = n.toNat := mul_len c n
    have g2 : (Txt.mul ⟨#[c2]⟩ n2).length = n2.toNat := mul_len c2 n2
    generalize Txt.mul ⟨#[c]⟩ n = hd at l1 g1 ⊢
    generalize Txt.mul ⟨#[c2]⟩ n2 = tl at l2 g2 ⊢
    refine forD_inv (fun i ρ => ∃ (xs : List Str) (x8 x9 : Option Sl), ρ = [some (.dat .row), some (.dat (.int many)), some (.dat (.str L)), some (.dat (.int b)), some (.own (xs.map D.str)), some (.dat (.str hd)), some (.dat (.str tl)), some (.dat (.int kd)), x8, x9] ∧ xs.length = i ∧ NmI (if kd = 0 then hd.length else 0) b xs) ⟨[], none, none, rfl, rfl, ⟨fun _ h => (List.not_mem_nil h).elim, fun _ _ h => by cases h⟩⟩ ?_ ?_
    · rintro i d ρ N hd' ⟨xs, x8, x9, rfl, hxl, hI⟩ hNx
      obtain ⟨hi2, rfl⟩ := upto_at hd'
      obtain ⟨s, hs, hsm, hs3⟩ := lA (i := (b + 7 * (i : Int)) % 26) (by omega) (by omega)
      have ls : Lt ⟨#[s]⟩ := Lt.one (by rw [← hL]; exact hsm)
      have key : ∀ x : Str, Lt x → 1 ≤ x.length → x.length ≤ 8 → x.cps.toList[(if kd = 0 then hd.length else 0)]? = some s → N [some (.dat .row), some (.dat (.int many)), some (.dat (.str L)), some (.dat (.int b)), some (.own (xs.map D.str ++ [.str x])), some (.dat (.str hd)), some (.dat (.str tl)), some (.dat (.int kd)), some (.dat (.int i)), some (.dat (.str ⟨#[s]⟩))] := fun x hx hx1 hx2 hx3 => by
        refine hNx _ ⟨xs ++ [x], _, _, by rw [List.map_append]; rfl, by rw [List.length_append]; simp; omega, hI.snoc (nmB_of hx hx1 hx2) ?_⟩
        rw [hx3, ← hL, hxl, hs3]
      simp [lpB, hs, lL, Ok.i, eqD, one_len]
      refine ⟨.inl (by unfold big; omega), ?_⟩
      have al : ∀ x y : Str, (x ++ y).length = x.length + y.length := fun x y => by rw [len_list, app_list, List.length_append, ← len_list, ← len_list]
      split
      · rename_i hk
        refine ⟨by omega, by rw [al, one_len]; omega, by omega, key _ ((l1.app ls).app l2) (by rw [al, al, one_len]; omega) (by rw [al, al, one_len]; omega) ?_⟩
        rw [if_pos hk, app_list, app_list, List.getElem?_append_left (by rw [List.length_append, ← len_list]; simp), List.getElem?_append_right (by rw [len_list]; exact Nat.le_refl _), len_list]
        simp
      · rename_i hk
        simp [m__law_taken]
        intro a3 h30 h31
        obtain ⟨c3, hc3, hcm3, _⟩ := lA h30 h31
        refine ⟨by omega, ?_⟩
        rw [hc3, optQ_s]
        intro n3 h40 h41
        have l3 : Lt (Txt.mul ⟨#[c3]⟩ n3) := Lt.mul (by rw [← hL]; exact hcm3) n3
        have g3 : (Txt.mul ⟨#[c3]⟩ n3).length = n3.toNat := mul_len c3 n3
        simp [one_len, g3]
        refine ⟨by omega, by omega, by omega, by omega, key _ (ls.app l3) (by rw [al, one_len]; omega) (by rw [al, one_len]; omega) ?_⟩
        rw [if_neg hk, app_list]
        simp
    · rintro ρ ⟨xs, x8, x9, rfl, hxl, hI⟩
      have e : (upto many.toNat).length = many.toNat := upto_length _
      exact q xs (by omega) (hI.nd (by omega)) hI.nm
  · exact h.elim
end WL
namespace WL
open L2 PySem PySem.Spec
theorem pigeon {α : Type} [BEq α] [LawfulBEq α] : ∀ {l m : List α}, l.Nodup → (∀ x ∈ l, x ∈ m) → l.length ≤ m.length
  | [], _, _, _ => Nat.zero_le _
  | x :: l, m, h, hs => by
    rw [List.nodup_cons] at h
    have hx := hs x (List.mem_cons_self ..)
    have ih := pigeon (l := l) (m := m.erase x) h.2 fun y hy => by
      have hne : y ≠ x := fun z => h.1 (z ▸ hy)
      exact (List.mem_erase_of_ne hne).mpr (hs y (List.mem_cons_of_mem _ hy))
    rw [List.length_erase_of_mem hx] at ih
    have := List.length_pos_of_mem hx
    rw [List.length_cons]
    omega
def m__law_fresh (_ : PySem.W.Frag) : List D → M := fun ds Q _ => ∃ xs : List Str, ds = [.tup (xs.map D.str)] ∧ (xs.length < 26 ∧ Ok (.tup (xs.map D.str))) ∧ ∀ s : Str, nmB (.str s) = true → s ∉ xs → Q (.str s)
def lettersR : Str := "zyxwvutsrqponmlkjihgfedcba"
theorem lettersR_in : ∀ c ∈ lettersR.cps.toList, c ∈ letters.cps.toList := by decide +kernel
theorem lettersR_nd : lettersR.cps.toList.Nodup := by decide +kernel
theorem lettersR_len : lettersR.cps.toList.length = 26 := by decide +kernel
theorem inB_str (x : Str) (xs : List Str) : inB (.str x) (xs.map D.str) = decide (x ∈ xs) := by
  induction xs with
  | nil => simp [inB]
  | cons y r ih =>
    rw [List.map_cons, inB, ih]
    by_cases h : x = y
    · subst h; simp [eqD]
    · have : (y == x) = false := beq_eq_false_iff_ne.mpr fun z => h z.symm
      simp [eqD, this, h]
theorem s__law_fresh (K : PySem.W.Frag) : ∀ ds Q E, ds.length = 1 → m__law_fresh K ds Q E → t__law_fresh K (startD N__law_fresh ds) (kt Q E) := by
  rintro ds Q E hl ⟨xs, rfl, ⟨h1, ok⟩, q⟩
  unfold t__law_fresh
  rw [show ("zyxwvutsrqponmlkjihgfedcba" : Str) = lettersR from rfl]
  have hi := lettersR_in
  have hd := lettersR_nd
  have hn := lettersR_len
  generalize lettersR = L at hi hd hn ⊢
  have hlen : (chars L).length = 26 := by simp [chars, hn]
  simp [N__law_fresh]
  refine ⟨by omega, lc_filter (fun d => match d with | .str x => !inB (.str (Txt.mul x 8)) (xs.map D.str) | _ => false) (fun d => match d with | .str x => .str (Txt.mul x 8) | _ => .non) (fun d hd2 Rt Rf ht hf => ?_) ?_⟩
  · obtain ⟨c, hc, rfl⟩ := List.mem_map.mp hd2
    have g : Ok (.str (Txt.mul ⟨#[c]⟩ 8)) := nmB_ok 60 (nmB_of (Lt.mul (hi c hc) 8) (by rw [mul_len]; decide) (by rw [mul_len]; decide))
    simp [one_len, g, ok]
    cases w : inB (.str (Txt.mul ⟨#[c]⟩ 8)) (xs.map D.str) with
    | true => simp; exact hf (by simp [w])
    | false => simp [one_len]; exact ht (by simp [w])
  · have e : (chars L).filter (fun d => match d with | .str x => !inB (.str (Txt.mul x 8)) (xs.map D.str) | _ => false) = (L.cps.toList.filter fun c => !inB (.str (Txt.mul ⟨#[c]⟩ 8)) (xs.map D.str)).map fun c => D.str ⟨#[c]⟩ := by
      unfold chars
      rw [List.filter_map]
      rfl
    rw [e, List.map_map]
    have ne : ∃ c r, (L.cps.toList.filter fun c => !inB (.str (Txt.mul ⟨#[c]⟩ 8)) (xs.map D.str)) = c :: r := by
      cases w : (L.cps.toList.filter fun c => !inB (.str (Txt.mul ⟨#[c]⟩ 8)) (xs.map D.str)) with
      | cons c r => exact ⟨c, r, rfl⟩
      | nil =>
        rw [List.filter_eq_nil_iff] at w
        have inj : (L.cps.toList.map fun c => Txt.mul ⟨#[c]⟩ 8).Nodup := by
          refine List.Pairwise.map _ ?_ hd
          intro a b hab z
          have z2 := congrArg (fun x : Str => x.cps.toList) z
          simp only [PyProof.Rows.mul_one_list] at z2
          exact hab (by simpa using z2)
        have := pigeon inj fun x hx => by
          obtain ⟨c, hc, rfl⟩ := List.mem_map.mp hx
          have := w c hc
          rw [inB_str] at this
          simpa using this
        rw [List.length_map] at this
        omega
    obtain ⟨c, r, w⟩ := ne
    have hc : c ∈ L.cps.toList.filter fun c => !inB (.str (Txt.mul ⟨#[c]⟩ 8)) (xs.map D.str) := by rw [w]; exact List.mem_cons_self ..
    rw [List.mem_filter, inB_str] at hc
    rw [w, List.map_cons, atI_l0, optQ_s]
    exact q _ (nmB_of (Lt.mul (hi c hc.1) 8) (by rw [mul_len]; decide) (by rw [mul_len]; decide)) (by simpa using hc.2)
end WL
namespace K16
open L2 PySem PySem.Spec WL
def m__law_in_turn (_ : PySem.W.Frag) : List D → (List D → Prop) → (Xn → Prop) → Prop := fun ds Q _ => ∃ (ws : List Int) (n : Nat), ds = [.lst (ws.map D.int), .int n] ∧ (1 ≤ ws.length ∧ ws.length ≤ 8 ∧ n ≤ 1000) ∧ (∀ x ∈ ws, 1 ≤ x ∧ x ≤ 99) ∧ Q ((inTurn ws n).map D.int)
def m__law_turns (_ : PySem.W.Frag) : List D → M := fun ds Q _ => ds = [.row] ∧ ∀ rs, vR rs → rs.length ≤ 5 → Q (.tup [.tup (rs.map rD)])
def envRow (rs : List Rw) (a : Rw) : List D := (rs.filter fun b => envR a b).map fun b => .tup [.str a.1, .str b.1]
def envL (rs : List Rw) : List D := rs.flatMap (envRow rs)
def m__law_envies (_ : PySem.W.Frag) : List D → M := fun ds Q _ => ∃ rs, vR rs ∧ ds = [.tup [.tup (rs.map rD)]] ∧ Q (.lst (envL rs))
def m__law_priced (_ : PySem.W.Frag) : List D → M := fun ds Q _ => ∃ rs v, vR rs ∧ Ok v ∧ ds = [.tup [.tup (rs.map rD)], v] ∧ Q (.bl (priceB rs v))
/-! the first of those that nobody goes before -/
theorem cross {a b c x y z : Int} (hx : 0 < x) (hy : 0 < y) (hz : 0 < z) (h1 : a * y < b * x) (h2 : b * z ≤ c * y) : a * z < c * x := by
  have e1 : a * y * z < b * x * z := Int.mul_lt_mul_of_pos_right h1 hz
  have e2 : b * z * x ≤ c * y * x := Int.mul_le_mul_of_nonneg_right h2 (Int.le_of_lt hx)
  have e3 : b * x * z = b * z * x := by rw [Int.mul_assoc, Int.mul_comm x z, ← Int.mul_assoc]
  have e4 : y * (a * z) < y * (c * x) := by
    have f1 : y * (a * z) = a * y * z := by rw [← Int.mul_assoc, Int.mul_comm y a]
    have f2 : y * (c * x) = c * y * x := by rw [← Int.mul_assoc, Int.mul_comm y c]
    omega
  exact Int.lt_of_mul_lt_mul_left e4 (Int.le_of_lt hy)
theorem cross' {a b c x y z : Int} (hx : 0 < x) (hy : 0 < y) (hz : 0 < z) (h1 : a * y ≤ b * x) (h2 : b * z < c * y) : a * z < c * x := by
  have e1 : a * y * z ≤ b * x * z := Int.mul_le_mul_of_nonneg_right h1 (Int.le_of_lt hz)
  have e2 : b * z * x < c * y * x := Int.mul_lt_mul_of_pos_right h2 hx
  have e3 : b * x * z = b * z * x := by rw [Int.mul_assoc, Int.mul_comm x z, ← Int.mul_assoc]
  have e4 : y * (a * z) < y * (c * x) := by
    have f1 : y * (a * z) = a * y * z := by rw [← Int.mul_assoc, Int.mul_comm y a]
    have f2 : y * (c * x) = c * y * x := by rw [← Int.mul_assoc, Int.mul_comm y c]
    omega
  exact Int.lt_of_mul_lt_mul_left e4 (Int.le_of_lt hy)
section
variable {f ws : List Int}
theorem best_min (hw : ∀ i, i < ws.length → 0 < ws.getD i 0) : ∀ n, 0 < n → n ≤ ws.length → ∀ j, j < n → ltF f ws j (bestGo f ws n) = false
  | 0, h, _, _, _ => absurd h (Nat.lt_irrefl _)
  | n + 1, _, hl, j, hj => by
    have ih := fun (h : 0 < n) => best_min hw n h (by omega)
    unfold bestGo
    rcases Nat.eq_zero_or_pos n with h0 | h0
    · subst h0
      have : j = 0 := by omega
      subst this
      unfold bestGo
      simp [ltF]
    · have hb := bestGo_lt f ws n h0
      have w1 := hw n (by omega)
      have w2 := hw (bestGo f ws n) (by omega)
      have w3 := hw j (by omega)
      split
      · rename_i hn
        rcases Nat.lt_or_ge j n with h | h
        · have q := ih h0 j h
          unfold ltF at q hn ⊢
          rw [decide_eq_false_iff_not] at q ⊢
          rw [decide_eq_true_eq] at hn
          have := cross (c := f.getD j 0 + 1) w1 w2 w3 hn (by omega)
          omega
        · have : j = n := by omega
          subst this
          simp [ltF]
      · rename_i hn
        rcases Nat.lt_or_ge j n with h | h
        · exact ih h0 j h
        · have : j = n := by omega
          subst this
          simpa using hn
theorem best_first (hw : ∀ i, i < ws.length → 0 < ws.getD i 0) : ∀ n, 0 < n → n ≤ ws.length → ∀ k, k < bestGo f ws n → ltF f ws (bestGo f ws n) k = true
  | 0, h, _, _, _ => absurd h (Nat.lt_irrefl _)
  | n + 1, _, hl, k, hk => by
    rcases Nat.eq_zero_or_pos n with h0 | h0
    · subst h0
      unfold bestGo at hk
      unfold bestGo at hk
      simp at hk
    · have hb := bestGo_lt f ws n h0
      have ih := best_first hw n h0 (by omega)
      have mn := best_min (f := f) hw n h0 (by omega)
      unfold bestGo at hk ⊢
      split at hk
      · rename_i hn
        rw [if_pos hn]
        have q := mn k hk
        unfold ltF at q hn ⊢
        rw [decide_eq_false_iff_not] at q
        rw [decide_eq_true_eq] at hn ⊢
        exact cross (c := f.getD k 0 + 1) (hw n (by omega)) (hw (bestGo f ws n) (by omega)) (hw k (by omega)) hn (by omega)
      · rename_i hn
        rw [if_neg hn]
        exact ih k hk
end
theorem range_filter {q : Nat → Bool} {m b : Nat} (hb : b < m) (h1 : q b = true) (h2 : ∀ k, k < b → q k = false) : ∃ r, (List.range m).filter q = b :: r := by
  have e : (List.range m)[b]? = some b := by simp [hb]
  refine ⟨((List.range m).drop (b + 1)).filter q, ?_⟩
  have s := split_at e
  conv => lhs; rw [s]
  rw [List.filter_append, List.filter_cons, if_pos h1, List.filter_eq_nil_iff.mpr, List.nil_append]
  intro k hk
  rw [List.take_range] at hk
  rw [h2 k (by have := List.mem_range.mp hk; omega)]
  simp
theorem inTurn_bound {ws : List Int} : ∀ n i, 0 ≤ (inTurn ws n).getD i 0 ∧ (inTurn ws n).getD i 0 ≤ n
  | 0, i => by
    rw [inTurn, List.getD_eq_getElem?_getD]
    by_cases h : i < ws.length
    · simp [List.getElem?_replicate, h]
    · simp [List.getElem?_replicate, h]
  | n + 1, i => by
    have h1 := inTurn_bound (ws := ws) n i
    have h2 := inTurn_bound (ws := ws) n (bestGo (inTurn ws n) ws ws.length)
    rw [inTurn, stepF]
    generalize inTurn ws n = f at *
    generalize bestGo f ws ws.length = b at *
    rw [List.getD_eq_getElem?_getD, List.getElem?_set]
    rw [List.getD_eq_getElem?_getD] at h2
    split
    · split
      · simp; omega
      · simp; omega
    · rw [← List.getD_eq_getElem?_getD]; omega
theorem envRow_len (rs : List Rw) (a : Rw) : (envRow rs a).length ≤ rs.length := by
  unfold envRow
  rw [List.length_map]
  exact List.length_filter_le _ _
theorem flat_env (rs l : List Rw) : flatD (l.map fun a => .lst (envRow rs a)) = l.flatMap (envRow rs) := by
  induction l with
  | nil => rfl
  | cons a l ih => rw [List.map_cons, flatD, ih, List.flatMap_cons]
theorem env_len (rs l : List Rw) : (l.flatMap (envRow rs)).length ≤ l.length * rs.length := by
  induction l with
  | nil => simp
  | cons a l ih =>
    rw [List.flatMap_cons, List.length_append, List.length_cons, Nat.add_mul, Nat.one_mul]
    have := envRow_len rs a
    omega
end K16
namespace K16
open L2 PySem PySem.Spec WL
def N__law_in_turn : List Str := ["weights", "many", "hours", "weight", "hour", "rows", "k", "j"]
def P__law_in_turn : List Str := ["weights", "many"]
def t__law_in_turn (K : PySem.W.Frag) : SM :=
  (sSeq (sOwn (mLc (miL (mVar 0)) [3] (.nm 3) mYes (mK (.int 0))) 2)
  (sSeq (sFor (miR1 (mVar 1)) (.nm 4)
  (sSeq (sSet (mNew (mLc (miR1 (m1 lenM (mVar 0))) [6] (.nm 6) (m2t eqM (mNew (mLc (miR1 (m1 lenM (mVar 0))) [7] (.nm 7) (m2t ltM (m2 mulM (m2 addM (m2 ixM (mOwn 2) (mVar 7)) (mK (.int 1))) (m2 ixM (mVar 0) (mVar 6))) (m2 mulM (m2 addM (m2 ixM (mOwn 2) (mVar 6)) (mK (.int 1))) (m2 ixM (mVar 0) (mVar 7)))) (mVar 7))) (mNew (mLst mNil))) (mVar 6))) 5)
  (sSto 2 (m2 ixM (mVar 5) (mK (.int 0))) (m2 addM (m2 ixM (mOwn 2) (m2 ixM (mVar 5) (mK (.int 0)))) (mK (.int 1))))))
  (sRetO 2)))
def N__law_turns : List Str := ["row", "names", "weights", "name", "hours", "kind", "k"]
def P__law_turns : List Str := ["row"]
def t__law_turns (K : PySem.W.Frag) : SM :=
  (sSeq (sSet (mCall 2 (m__law_names K) (mCons (mVar 0) (mCons (m2 addM (mK (.int 1)) (mCall 2 (m__law_taken K) (mCons (mVar 0) (mCons (mK (.int 5)) mNil)))) mNil))) 1)
  (sSeq (sSet (mNew (mLc (miL (mVar 1)) [3] (.nm 3) mYes (m2 addM (mK (.int 1)) (mCall 2 (m__law_taken K) (mCons (mVar 0) (mCons (mCall 2 (m__law_pick K) (mCons (mVar 0) (mCons (mNew (mLst (mCons (mK (.int 3)) (mCons (mK (.int 20)) (mCons (mK (.int 99)) mNil))))) mNil))) mNil)))))) 2)
  (sSeq (sPar [4, 5] (mlO (mLc (miL (mVar 1)) [3] (.nm 3) mYes (mCall 2 (m__law_taken K) (mCons (mVar 0) (mCons (mK (.int 9)) mNil)))) (mlD (mCall 2 (m__law_taken K) (mCons (mVar 0) (mCons (mK (.int 3)) mNil))) mlN)))
  (sSeq (sIf (m2t gtM (mVar 5) (mK (.int 0)))
  (sOwn (mCallF 2 (m__law_in_turn K) (mCons (mVar 2) (mCons (mCall 2 (m__law_taken K) (mCons (mVar 0) (mCons (mK (.int 20)) mNil))) mNil))) 4)
  sNext)
  (sSeq (sIf (m2t eqM (mVar 5) (mK (.int 2)))
  (sSto 4 (mCall 2 (m__law_taken K) (mCons (mVar 0) (mCons (m1 lenM (mOwn 4)) mNil))) (mCall 2 (m__law_taken K) (mCons (mVar 0) (mCons (mK (.int 12)) mNil))))
  sNext)
  (sRet (mTup (mCons (m1 tupM (mNew (mLc (miR1 (m1 lenM (mVar 1))) [6] (.nm 6) mYes (mTup (mCons (m2 ixM (mVar 1) (mVar 6)) (mCons (m2 ixM (mVar 2) (mVar 6)) (mCons (m2 ixM (mOwn 4) (mVar 6)) mNil))))))) mNil))))))))
def N__law_envies : List Str := ["told", "rows", "other", "one"]
def P__law_envies : List Str := ["told"]
def t__law_envies (K : PySem.W.Frag) : SM :=
  (sSeq (sSet (m2 ixM (mVar 0) (mK (.int 0))) 1)
  (sRet (mCall 1 (m__law_flat K) (mCons (mNew (mLc (miT (mVar 1)) [3] (.nm 3) mYes (mNew (mLc (miT (mVar 1)) [2] (.nm 2) (m2t ltM (m2 mulM (m2 addM (m2 ixM (mVar 3) (mK (.int 2))) (mK (.int 1))) (m2 ixM (mVar 2) (mK (.int 1)))) (m2 mulM (m2 ixM (mVar 2) (mK (.int 2))) (m2 ixM (mVar 3) (mK (.int 1))))) (mTup (mCons (m2 ixM (mVar 3) (mK (.int 0))) (mCons (m2 ixM (mVar 2) (mK (.int 0))) mNil))))))) mNil))))
def N__law_priced : List Str := ["told", "value", "one"]
def P__law_priced : List Str := ["told", "value"]
def t__law_priced (K : PySem.W.Frag) : SM :=
  (sSeq (sIf (mOr (mNot (mTru (mB1 (isTyM K "tuple") (mVar 1)))) (mOr (m2t neM (m1 lenM (mVar 1)) (mK (.int 2))) (mOr (mNot (mTru (mCall 3 (m__law_whole K) (mCons (m2 ixM (mVar 1) (mK (.int 0))) (mCons (mK (.int 0)) (mCons (mK (.int 9999)) mNil)))))) (mNot (mTru (mCall 3 (m__law_whole K) (mCons (m2 ixM (mVar 1) (mK (.int 1))) (mCons (mK (.int 1)) (mCons (mK (.int 9999)) mNil)))))))))
  (sRet (mK (.bl false)))
  sNext)
  (sRet (m2v eqM (mNew (mLc (miT (m2 ixM (mVar 0) (mK (.int 0)))) [2] (.nm 2) (mNot (m3t leM leM (m2 mulM (m2 ixM (mVar 2) (mK (.int 2))) (m2 ixM (mVar 1) (mK (.int 1)))) (m2 mulM (m2 ixM (mVar 1) (mK (.int 0))) (m2 ixM (mVar 2) (mK (.int 1)))) (m2 mulM (m2 addM (m2 ixM (mVar 2) (mK (.int 2))) (mK (.int 1))) (m2 ixM (mVar 1) (mK (.int 1)))))) (mVar 2))) (mNew (mLst mNil)))))
theorem ws_pos {ws : List Int} (h : ∀ x ∈ ws, 1 ≤ x ∧ x ≤ 99) : ∀ i, i < ws.length → 1 ≤ ws.getD i 0 ∧ ws.getD i 0 ≤ 99 := fun i hi => by
  rw [List.getD_eq_getElem?_getD, List.getElem?_eq_getElem hi]
  exact h _ (List.getElem_mem hi)
theorem ok_ints {l : List D} (h : ∀ d ∈ l, ∃ i, d = .int i) : Ok (.lst l) := okDs_of (n := 59) fun d hd => by
  obtain ⟨i, rfl⟩ := h d hd
  rfl
theorem ok_lnil : Ok (.lst []) := rfl
theorem upto_int {n : Nat} {d : D} (h : d ∈ upto n) : ∃ i : Int, d = .int i := by
  obtain ⟨i, _, e⟩ := mem_upto h
  exact ⟨i, e⟩
theorem upto_filter (m : Nat) (p : D → Bool) : (upto m).filter p = ((List.range m).filter fun k => p (.int (k : Nat))).map fun k => D.int (k : Nat) := by
  unfold upto
  rw [List.filter_map]
  rfl
theorem eqD_nil (l : List D) : eqD (.lst l) (.lst []) = l.isEmpty := by
  cases l <;> rfl
theorem s__law_in_turn (K : PySem.W.Frag) : ∀ ds Q E, ds.length = 2 → m__law_in_turn K ds Q E → t__law_in_turn K (startD N__law_in_turn ds) (ktF Q E) := by
  rintro ds Q E hl ⟨ws, n, rfl, ⟨h1, h2, h3⟩, hw, q⟩
  have wp := ws_pos hw
  simp [t__law_in_turn, N__law_in_turn, -forD]
  refine ⟨by omega, lc_map (fun _ => .int 0) (fun d hd R hR => by simpa using hR) ⟨by omega, ?_⟩⟩
  refine forD_inv (fun i ρ => ∃ x3 x4 x5 x6 x7, ρ = [some (.dat (.lst (ws.map D.int))), some (.dat (.int n)), some (.own ((inTurn ws i).map D.int)), x3, x4, x5, x6, x7]) ⟨none, none, none, none, none, ?_⟩ ?_ ?_
  · rw [show inTurn ws 0 = List.replicate ws.length 0 from rfl, List.map_replicate, List.map_map, show (ws.map ((fun _ => D.int 0) ∘ D.int)) = List.replicate ws.length (D.int 0) from List.map_const' ..]
  · rintro i d ρ N hd ⟨x3, x4, x5, x6, x7, rfl⟩ hN
    obtain ⟨hi2, rfl⟩ := upto_at hd
    have lf : (inTurn ws i).length = ws.length := inTurn_length _ _
    obtain ⟨f, hf⟩ : ∃ f, f = inTurn ws i := ⟨_, rfl⟩
    rw [← hf] at lf ⊢
    have hb : bestGo f ws ws.length < ws.length := bestGo_lt _ _ _ h1
    have fa : ∀ j, j < ws.length → (f.map D.int)[j]? = some (.int (f.getD j 0)) := fun j hj => ints_at (by omega)
    have wa : ∀ j, j < ws.length → (ws.map D.int)[j]? = some (.int (ws.getD j 0)) := fun j hj => ints_at hj
    have lu := upto_length ws.length
    simp [lpB, -forD]
    refine ⟨by omega, by omega, lc_filter (fun d => match d with | .int k => (List.range ws.length).all fun j => !ltF f ws j k.toNat | _ => false) id (fun d hd Rt Rf ht hf' => ?_) ?_⟩
    · obtain ⟨k, hk, rfl⟩ := mem_upto hd
      simp
      refine ⟨by omega, by omega, lc_filter (fun d => match d with | .int j => ltF f ws j.toNat k | _ => false) id (fun d hd Rt' Rf' ht' hf'' => ?_) ?_⟩
      · obtain ⟨j, hj, rfl⟩ := mem_upto hd
        have hj2 := wp j hj
        have hk2 := wp k hk
        simp [atI_n, fa j hj, fa k hk, wa j hj, wa k hk]
        simp only [← List.getD_eq_getElem?_getD]
        refine ⟨.inr (big_w hk2), .inr (big_w hj2), ?_⟩
        have e : ltF f ws (j : Int).toNat k = decide ((f.getD j 0 + 1) * ws.getD k 0 < (f.getD k 0 + 1) * ws.getD j 0) := rfl
        split
        · rename_i h
          exact ht' (e.trans (decide_eq_true h))
        · rename_i h
          exact hf'' (e.trans (decide_eq_false h))
      · rw [List.map_id, eqD_nil, upto_filter]
        refine ⟨⟨ok_ints fun d hd => ?_, ok_lnil⟩, ?_⟩
        · obtain ⟨i, _, rfl⟩ := List.mem_map.mp hd
          exact ⟨_, rfl⟩
        · have e : ∀ l : List Nat, ((l.filter fun j : Nat => ltF f ws ((j : Nat) : Int).toNat k).map fun j : Nat => D.int (j : Nat)).isEmpty = l.all fun j => !ltF f ws j k := fun l => by
            induction l with
            | nil => rfl
            | cons j l ih =>
              rw [List.filter_cons, List.all_cons, ← ih, Int.toNat_natCast]
              cases ltF f ws j k <;> rfl
          split
          · rename_i h
            exact ht (by rw [e] at h; exact h)
          · rename_i h
            exact hf' (by rw [e] at h; exact Bool.eq_false_iff.mpr h)
    · have wpos : ∀ i, i < ws.length → 0 < ws.getD i 0 := fun i hi => by have := wp i hi; omega
      rw [List.map_id, upto_filter]
      obtain ⟨r, hr⟩ := range_filter (q := fun k => (List.range ws.length).all fun j => !ltF f ws j ((k : Nat) : Int).toNat) hb (List.all_eq_true.mpr fun j hj => by
        rw [Int.toNat_natCast, best_min wpos ws.length h1 (Nat.le_refl _) j (List.mem_range.mp hj)]; rfl) fun k hk => by
        rw [List.all_eq_false]
        exact ⟨bestGo f ws ws.length, List.mem_range.mpr hb, by rw [Int.toNat_natCast, best_first wpos ws.length h1 (Nat.le_refl _) k hk]; simp⟩
      rw [hr]
      simp [atI_n, fa _ hb, ixN_nat (show bestGo f ws ws.length < f.length by omega)]
      simp only [← List.getD_eq_getElem?_getD]
      rw [show (f.map D.int).set (bestGo f ws ws.length) (.int (f.getD (bestGo f ws ws.length) 0 + 1)) = (inTurn ws (i + 1)).map D.int by rw [inTurn, ← hf, stepF, List.map_set]]
      exact hN _ ⟨_, _, _, _, _, rfl⟩
  · rintro ρ ⟨x3, x4, x5, x6, x7, rfl⟩
    simpa [upto] using q

theorem rs_at {rs : List Rw} {i : Nat} {d : D} (h : (rs.map rD)[i]? = some d) : ∃ r, rs[i]? = some r ∧ d = rD r := by
  rw [List.getElem?_map] at h
  cases w : rs[i]? with
  | none => rw [w] at h; cases h
  | some r => rw [w] at h; cases h; exact ⟨r, rfl, rfl⟩
theorem s__law_envies (K : PySem.W.Frag) : ∀ ds Q E, ds.length = 1 → m__law_envies K ds Q E → t__law_envies K (startD N__law_envies ds) (kt Q E) := by
  rintro ds Q E hl ⟨rs, vr, rfl, q⟩
  have h8 := vr.hi
  simp [t__law_envies, N__law_envies]
  refine ⟨by omega, lc_map (fun d => match d with | .tup [.str a, .int w, .int h] => .lst (envRow rs (a, w, h)) | _ => .non) (fun d hd R hR => ?_) ?_⟩
  · obtain ⟨r, hr, rfl⟩ := List.mem_map.mp hd
    have w1 := (vr.row r hr).2.1
    simp [rD]
    refine ⟨by omega, lc_filter (fun d => match d with | .tup [.str a, .int w, .int h] => envR r (a, w, h) | _ => false) (fun d => match d with | .tup [.str a, .int w, .int h] => .tup [.str r.1, .str a] | _ => .non) (fun d hd Rt Rf ht hf => ?_) ?_⟩
    · obtain ⟨s, hs, rfl⟩ := List.mem_map.mp hd
      have w2 := (vr.row s hs).2.1
      simp [rD]
      refine ⟨.inr (big_w w2), .inr (big_w w1), ?_⟩
      split
      · rename_i h
        exact ht (decide_eq_true h)
      · rename_i h
        exact hf (decide_eq_false h)
    · rw [List.filter_map, List.map_map]
      exact hR
  · rw [List.map_map]
    have e : (rs.map ((fun d => match d with | .tup [.str a, .int w, .int h] => D.lst (envRow rs (a, w, h)) | _ => .non) ∘ rD)) = rs.map fun a => .lst (envRow rs a) := rfl
    rw [e]
    have f := flat_env rs rs
    have el := env_len rs rs
    have e64 : rs.length * rs.length ≤ 8 * 8 := Nat.mul_le_mul h8 h8
    refine ⟨⟨by rw [f]; omega, fun r hr => ?_⟩, by rw [f]; exact q⟩
    obtain ⟨a, _, rfl⟩ := List.mem_map.mp hr
    exact ⟨_, .inl rfl⟩
theorem ok_rows {rs : List Rw} (v : vR rs) : okDs 60 (rs.map rD) = true := okDs_of (n := 59) fun d hd => by
  obtain ⟨r, hr, rfl⟩ := List.mem_map.mp hd
  refine okDs_of (n := 58) fun e he => ?_
  simp at he
  rcases he with rfl | rfl | rfl
  · exact okD_mono 40 58 _ (by decide) (v.ok r hr)
  · rfl
  · rfl
theorem s__law_priced (K : PySem.W.Frag) : ∀ ds Q E, ds.length = 2 → m__law_priced K ds Q E → t__law_priced K (startD N__law_priced ds) (kt Q E) := by
  rintro ds Q E hl ⟨rs, v, vr, ok, rfl, q⟩
  have h8 := vr.hi
  simp [t__law_priced, N__law_priced]
  cases v with
  | tup xs =>
    by_cases hx : xs.length = 2
    · obtain ⟨x, y, rfl⟩ : ∃ x y, xs = [x, y] := by
        match xs, hx with
        | [x, y], _ => exact ⟨x, y, rfl⟩
      have ox : Ok x := ok.mem (by simp)
      have oy : Ok y := ok.mem (by simp)
      simp [Ok.i, eqD, m__law_whole, ox, oy]
      cases h1 : wiB x 0 9999 with
      | false =>
        have e := goodP_none (x := x) (y := y) fun z => by rw [h1] at z; cases z.1
        simpa [priceB, e] using q
      | true =>
        cases h2 : wiB y 1 9999 with
        | false =>
          have e := goodP_none (x := x) (y := y) fun z => by rw [h2] at z; cases z.2
          simpa [priceB, e] using q
        | true =>
          obtain ⟨a, rfl, ha⟩ := wiB_int h1
          obtain ⟨b, rfl, hb⟩ := wiB_int h2
          have e : goodP (.tup [.int a, .int b]) = some (a, b) := by
            unfold goodP
            simp [ha, hb]
          simp
          refine ⟨by omega, lc_filter (fun d => match d with | .tup [_, .int w, .int h] => !(decide (h * b ≤ a * w) && decide (a * w ≤ (h + 1) * b)) | _ => false) id (fun d hd Rt Rf ht hf => ?_) ?_⟩
          · obtain ⟨r, h3, rfl⟩ := List.mem_map.mp hd
            have wr := (vr.row r h3).2.1
            simp [rD] at ht hf ⊢
            refine ⟨.inr (big_p (by omega)), .inl (big_p ha), ?_⟩
            by_cases c1 : r.2.2 * b ≤ a * r.2.1
            · rw [if_pos c1]
              refine ⟨.inr (big_p (by omega)), ?_⟩
              by_cases c2 : a * r.2.1 ≤ (r.2.2 + 1) * b
              · rw [if_pos c2]
                exact hf c1 c2
              · rw [if_neg c2]
                exact ht (.inr (Int.not_le.mp c2))
            · rw [if_neg c1]
              exact ht (.inl (Int.not_le.mp c1))
          · rw [List.map_id]
            refine ⟨⟨okDs_sub (n := 60) (ok_rows vr) fun d hd => (List.mem_filter.mp hd).1, ok_lnil⟩, ?_⟩
            have e2 : eqDs ((rs.map rD).filter fun d => match d with | .tup [_, .int w, .int h] => !(decide (h * b ≤ a * w) && decide (a * w ≤ (h + 1) * b)) | _ => false) [] = priceB rs (.tup [.int a, .int b]) := by
              unfold priceB
              rw [e]
              show _ = holdsP rs a b
              unfold holdsP
              clear q vr h8 hl
              induction rs with
              | nil => rfl
              | cons r rs ih =>
                rw [List.map_cons, List.filter_cons, List.all_cons, ← ih]
                have e3 : (match rD r with | .tup [_, .int w, .int h] => !(decide (h * b ≤ a * w) && decide (a * w ≤ (h + 1) * b)) | _ => false) = !(decide (r.2.2 * b ≤ a * r.2.1) && decide (a * r.2.1 ≤ (r.2.2 + 1) * b)) := rfl
                rw [e3]
                cases (decide (r.2.2 * b ≤ a * r.2.1) && decide (a * r.2.1 ≤ (r.2.2 + 1) * b)) <;> rfl
            rw [e2]
            exact q
    · have e : goodP (.tup xs) = none := goodP_row fun a b z => hx (by rw [z]; rfl)
      have e2 : eqD (.int ((xs.length : Nat) : Int)) (.int 2) = false := by
        simp [eqD]
        omega
      simp [Ok.i, e2]
      simpa [priceB, e] using q
  | _ => first | exact (Bool.noConfusion ok) | (simp; exact q)
theorem s__law_turns (K : PySem.W.Frag) : ∀ ds Q E, ds.length = 1 → m__law_turns K ds Q E → t__law_turns K (startD N__law_turns ds) (kt Q E) := by
  rintro ds Q E hl ⟨rfl, q⟩
  simp [t__law_turns, N__law_turns, m__law_taken, m__law_names, -forD]
  intro l hl0 hl1
  refine ⟨by omega, fun xs hx hnd hnm => ?_⟩
  have hxl : 1 ≤ xs.length ∧ xs.length ≤ 5 := by omega
  refine ⟨by omega, lc_inv (fun i acc => ∃ ws : List Int, acc = ws.map D.int ∧ ws.length = i ∧ ∀ x ∈ ws, 1 ≤ x ∧ x ≤ 99) ⟨[], rfl, rfl, fun _ h => nomatch h⟩ ?_ ?_⟩
  · rintro i d acc Rt Rf hd ⟨ws, rfl, hwl, hw⟩ ht hf
    have fin : ∀ k : Int, 0 ≤ k → k < 99 → Rt (.int (1 + k)) := fun k h0 h1 => ht _ ⟨ws ++ [1 + k], by rw [List.map_append]; rfl, by rw [List.length_append, hwl]; rfl, fun x hx => by
      rcases List.mem_append.mp hx with z | z
      · exact hw x z
      · rw [List.mem_singleton.mp z]; omega⟩
    simp [m__law_pick, m__law_taken]
    exact ⟨fun k h0 h1 => fin k h0 (by omega), fun k h0 h1 => fin k h0 (by omega), fun k h0 h1 => fin k h0 h1⟩
  · rintro acc ⟨ws, rfl, hwl, hw⟩
    rw [List.length_map] at hwl
    have fin : ∀ hs : List Int, hs.length = xs.length → (∀ x ∈ hs, 0 ≤ x ∧ x ≤ 60) → ∀ x5 : Option Sl, ((xs.length : Nat) : Int) < 4611686018427387904 ∧ (upto xs.length).length ≤ 100000 ∧ lcGo (.nm 6) mYes (mTup (mCons (m2 ixM (mVar 1) (mVar 6)) (mCons (m2 ixM (mVar 2) (mVar 6)) (mCons (m2 ixM (mOwn 4) (mVar 6)) mNil)))) [some (.dat .row), some (.dat (.lst (xs.map D.str))), some (.dat (.lst (ws.map D.int))), none, some (.own (hs.map D.int)), x5, none] (upto xs.length) [] fun ds => Q (.tup [.tup ds]) := fun hs hhl hh x5 => by
      refine ⟨by omega, by rw [upto_length]; omega, lc_map (fun d => match d with | .int k => rD (xs.getD k.toNat "", ws.getD k.toNat 0, hs.getD k.toNat 0) | _ => .non) (fun d hd R hR => ?_) ?_⟩
      · obtain ⟨k, hk, rfl⟩ := mem_upto hd
        have e1 : (xs.map D.str)[k]? = some (.str (xs.getD k "")) := by
          rw [List.getElem?_map, List.getElem?_eq_getElem hk, List.getD_eq_getElem?_getD, List.getElem?_eq_getElem hk]
          rfl
        have e2 : (ws.map D.int)[k]? = some (.int (ws.getD k 0)) := ints_at (by omega)
        have e3 : (hs.map D.int)[k]? = some (.int (hs.getD k 0)) := ints_at (by omega)
        simp [atI_n, e1, e2, e3]
        simpa [rD] using hR
      · have e : (upto xs.length).map (fun d => match d with | .int k => rD (xs.getD k.toNat "", ws.getD k.toNat 0, hs.getD k.toNat 0) | _ => .non) = ((List.range xs.length).map fun k => ((xs.getD k "", ws.getD k 0, hs.getD k 0) : Rw)).map rD := by
          unfold upto
          rw [List.map_map, List.map_map]
          rfl
        rw [e]
        have en : ((List.range xs.length).map fun k => ((xs.getD k "", ws.getD k 0, hs.getD k 0) : Rw)).map (fun r => r.1) = xs := by
          rw [List.map_map]
          refine List.ext_getElem (by simp) fun i h1 h2 => ?_
          simp [List.getD_eq_getElem?_getD, h2]
        have gx : ∀ {α : Type} {l : List α} {z : α} {k : Nat}, k < l.length → l.getD k z ∈ l := fun {α l z k} h => by
          rw [List.getD_eq_getElem?_getD, List.getElem?_eq_getElem h]
          exact List.getElem_mem h
        refine q _ ⟨by simp; omega, by simp; omega, fun r hr => ?_, by rw [en]; exact hnd, fun r hr => ?_⟩ (by simp; omega)
        · obtain ⟨k, hk, rfl⟩ := List.mem_map.mp hr
          have hk := List.mem_range.mp hk
          exact ⟨hnm _ (gx hk), hw _ (gx (by omega)), hh _ (gx (by omega))⟩
        · obtain ⟨k, hk, rfl⟩ := List.mem_map.mp hr
          exact nmB_ok 40 (hnm _ (gx (List.mem_range.mp hk)))
    have fin2 : ∀ hs : List Int, hs.length = xs.length → (∀ x ∈ hs, 0 ≤ x ∧ x ≤ 60) → ∀ (k2 : Int) (k3 : Int) (x5 : Option Sl), 0 ≤ k2 → k2 < 12 → 0 ≤ k3 → k3 < ((hs.length : Nat) : Int) → optQ (ixN hs.length k3) fun j => ((xs.length : Nat) : Int) < 4611686018427387904 ∧ (upto xs.length).length ≤ 100000 ∧ lcGo (.nm 6) mYes (mTup (mCons (m2 ixM (mVar 1) (mVar 6)) (mCons (m2 ixM (mVar 2) (mVar 6)) (mCons (m2 ixM (mOwn 4) (mVar 6)) mNil)))) [some (.dat .row), some (.dat (.lst (xs.map D.str))), some (.dat (.lst (ws.map D.int))), none, some (.own ((hs.map D.int).set j (.int k2))), x5, none] (upto xs.length) [] fun ds => Q (.tup [.tup ds]) := fun hs hhl hh k2 k3 x5 a0 a1 b0 b1 => by
      have e : k3 = ((k3.toNat : Nat) : Int) := (Int.toNat_of_nonneg b0).symm
      rw [e, ixN_nat (by omega), optQ_s]
      have e4 : (hs.map D.int).set k3.toNat (.int k2) = (hs.set k3.toNat k2).map D.int := by rw [List.map_set]
      rw [e4]
      refine fin _ (by rw [List.length_set]; exact hhl) (fun x hx => ?_) x5
      rcases List.mem_or_eq_of_mem_set hx with z | z
      · exact hh x z
      · rw [z]; omega
    refine ⟨by omega, lc_inv (fun i acc => ∃ hs : List Int, acc = hs.map D.int ∧ hs.length = i ∧ ∀ x ∈ hs, 0 ≤ x ∧ x ≤ 8) ⟨[], rfl, rfl, fun _ h => nomatch h⟩ ?_ ?_⟩
    · rintro i d acc Rt Rf hd ⟨hs, rfl, hsl, hh⟩ ht hf
      simp [m__law_taken]
      refine fun k h0 h1 => ht _ ⟨hs ++ [k], by rw [List.map_append]; rfl, by rw [List.length_append, hsl]; rfl, fun x hx => ?_⟩
      rcases List.mem_append.mp hx with z | z
      · exact hh x z
      · rw [List.mem_singleton.mp z]; omega
    · rintro acc ⟨hs, rfl, hsl, hh⟩
      rw [List.length_map] at hsl
      have hh' : ∀ x ∈ hs, 0 ≤ x ∧ x ≤ 60 := fun x hx => by have := hh x hx; omega
      have ok2 : ∀ k : Int, Ok (.int k) ∧ Ok (.int 2) := fun k => ⟨rfl, rfl⟩
      simp
      intro k h0 h1
      split
      · intro k1 h10 h11
        refine ⟨ws, k1.toNat, by rw [Int.toNat_of_nonneg h10], ⟨by omega, by omega, by omega⟩, hw, ok2 k, ?_⟩
        have il := inTurn_length ws k1.toNat
        have ib : ∀ x ∈ inTurn ws k1.toNat, 0 ≤ x ∧ x ≤ 60 := fun x hx => by
          obtain ⟨i, hi, rfl⟩ := List.getElem_of_mem hx
          have := inTurn_bound (ws := ws) k1.toNat i
          rw [List.getD_eq_getElem?_getD, List.getElem?_eq_getElem hi, Option.getD_some] at this
          omega
        split
        · intro k2 h20 h21
          rw [List.length_map]
          exact ⟨by omega, fun k3 h30 h31 => fin2 _ (by omega) ib k2 k3 _ h20 h21 h30 h31⟩
        · exact fin _ (by omega) ib _
      · refine ⟨ok2 k, ?_⟩
        split
        · intro k2 h20 h21
          exact ⟨by omega, fun k3 h30 h31 => fin2 _ (by omega) hh' k2 k3 _ h20 h21 h30 h31⟩
        · exact fin _ (by omega) hh' _
end K16
/-! ### t[::-1] of a tuple -/
namespace WLT
open PySem PySem.Spec PySem.Calls PyProof.Rows
section
variable {prog : Program} {w : World} {A : Around} {E : Value → Shared → Prop} {s : Shared}
theorem sliceApplied_rev {sl : Addr} {vl vu vk : Value} {n : Nat} {Q : Int × Int × Nat → Shared → Prop} (hs : s.heap.IsSliceOf sl vl vu vk) (pl : IsPart vl none) (pu : IsPart vu none) (pk : IsPart vk (some (-1)))
    (h : Q ((n : Int) - 1, -1, n) s) : wpAny (model prog w) A (Builtin.Slice.sliceApplied (.ref sl) (pure (n : Int))) Q E s := by
  obtain ⟨os, hos, hcs, hds⟩ := id hs
  unfold Builtin.Slice.sliceApplied Builtin.Slice.sliceFields
  refine wpAny_bind (wpAny_bind (wpAny_field hos hds (x := vl) rfl (wpAny_bind (wpAny_field hos hds (x := vu) rfl (wpAny_bind (wpAny_field hos hds (x := vk) rfl (wpAny_pure ?_)))))))
  refine wpAny_bind (HT.slicePart_ pk ?_)
  show wpAny _ _ (if ((-1 : Int) == 0) = true then _ else _) _ _ s
  rw [if_neg (by decide)]
  refine wpAny_bind (HT.slicePart_ pl (wpAny_bind (HT.slicePart_ pu (wpAny_bind (wpAny_pure ?_)))))
  show wpAny _ _ (match Builtin.Slice.sliceAdjust none none (-1) (n : Int) with | (lo, hi) => pure (lo, (-1 : Int), Builtin.Slice.slicePlaces lo hi (-1))) _ _ s
  have e1 : Builtin.Slice.sliceAdjust none none (-1) (n : Int) = ((n : Int) - 1, -1) := by
    unfold Builtin.Slice.sliceAdjust
    simp
  rw [e1]
  show wpAny _ _ (pure ((n : Int) - 1, (-1 : Int), Builtin.Slice.slicePlaces ((n : Int) - 1) (-1) (-1))) _ _ s
  have e2 : Builtin.Slice.slicePlaces ((n : Int) - 1) (-1) (-1) = n := by
    unfold Builtin.Slice.slicePlaces
    simp
    omega
  rw [e2]
  exact wpAny_pure h
theorem pick_rev (xs : Array Value) : ((List.range xs.size).filterMap fun (m : Nat) => xs[(((xs.size : Nat) : Int) - 1 + (m : Int) * (-1)).toNat]?).toArray = xs.toList.reverse.toArray := by
  congr 1
  have e : ∀ (l : List Nat), (∀ m ∈ l, m < xs.size) → (l.filterMap fun (m : Nat) => xs[(((xs.size : Nat) : Int) - 1 + (m : Int) * (-1)).toNat]?) = l.filterMap fun m => xs.toList.reverse[m]? := fun l => by
    induction l with
    | nil => intro _; rfl
    | cons m l ih =>
      intro h
      have hm := h m (List.mem_cons_self ..)
      have e2 : (((xs.size : Nat) : Int) - 1 + (m : Int) * (-1)).toNat = xs.size - 1 - m := by omega
      rw [List.filterMap_cons, List.filterMap_cons, e2, ih fun k hk => h k (List.mem_cons_of_mem _ hk), List.getElem?_reverse (by simpa using hm)]
      simp
  rw [e _ fun m hm => List.mem_range.mp hm]
  have g : ∀ (l : List Value), (List.range l.length).filterMap (fun m => l[m]?) = l := fun l => by
    induction l with
    | nil => rfl
    | cons a l ih =>
      rw [List.length_cons, List.range_succ_eq_map, List.filterMap_cons]
      simp only [List.getElem?_cons_zero]
      rw [List.filterMap_map]
      have : ((fun m => (a :: l)[m]?) ∘ Nat.succ) = fun m => l[m]? := by
        funext m
        rfl
      rw [this, ih]
  have := g xs.toList.reverse
  rw [List.length_reverse, Array.length_toList] at this
  exact this
theorem getItem_tuple_rev {t sl : Addr} {items : Array Value} {vl vu vk : Value} {Q : Value → Shared → Prop} (ht : IsTup s.heap t items) (hs : s.heap.IsSliceOf sl vl vu vk) (pl : IsPart vl none) (pu : IsPart vu none) (pk : IsPart vk (some (-1)))
    (h : Q (.ref s.heap.objs.size) { s with heap := s.heap.push { cls := .type "tuple", data := .seq items.toList.reverse.toArray } })
    (hsz : items.size ≤ sizeLine) : wpAny (model prog w) A (getItem (.ref t) (.ref sl)) Q E s := by
  have htake : sizeOk (.seq items.toList.reverse.toArray) := by
    show items.toList.reverse.toArray.size ≤ sizeLine
    rw [List.size_toArray, List.length_reverse, Array.length_toList]
    omega
  obtain ⟨os, hos, hcs, hds⟩ := id hs
  have hTs : s.TypeIs (.ref sl) "slice" := ⟨os, hos, hcs⟩
  unfold getItem
  try with_reducible refine wpAny_holding ?_
  first | refine wpAny_bind (wpAny_pure ?_) | skip
  refine wpAny_bind (wpAny_sequenceKey ht.typeIs (by decide) ?_)
  refine wpAny_bind (wpAny_callSpecial?_slot (name := Str.ofString "__getitem__") ht.typeIs PyProof.Rows.slot_tuple_getitem
    (wpAny_call_entry PyProof.Rows.slot_tuple_getitem ht.typeIs entry_tuple_getitem ?_ (args_tuple_getitem _ _)))
  show wpAny _ _ (Builtin.Tuple.tupleItemsOf (.ref t) >>= _) _ _ s
  refine wpAny_bind (PyProof.Rows.tupleItemsOf_ ht ?_)
  refine wpAny_bind (wpAny_typeOf hTs ?_)
  rw [if_pos (by decide)]
  refine wpAny_bind (sliceApplied_rev hs pl pu pk ?_)
  have hno : ¬ ((((items.size : Nat) : Int) - 1 == 0 && (-1 : Int) == 1 && items.size == items.size) = true) := by
    intro q
    rw [Bool.and_eq_true, Bool.and_eq_true] at q
    exact absurd q.1.2 (by decide)
  show wpAny _ _ (if (((items.size : Nat) : Int) - 1 == 0 && (-1 : Int) == 1 && items.size == items.size) = true then _ else _) _ _ s
  rw [if_neg hno, pick_rev]
  first
    | exact wpAny_bind (m := Builtin.Tuple.tupleExact _) (wpAny_newObj_type (wpAny_pure ⟨_, rfl, wpAny_pure h⟩) htake)
    | exact wpAny_bind (m := Builtin.Tuple.tupleExact _) (wpAny_newObj_type (wpAny_bind (wpAny_pure (wpAny_pure ⟨_, rfl, wpAny_pure h⟩))) htake)
    | exact wpAny_bind (wpAny_bind (m := Builtin.Tuple.tupleExact _) (wpAny_newObj_type (wpAny_pure (wpAny_pure ⟨_, rfl, wpAny_pure h⟩)) htake))
    | exact wpAny_bind (wpAny_bind (m := Builtin.Tuple.tupleExact _) (wpAny_newObj_type (wpAny_pure ⟨_, rfl, wpAny_pure h⟩) htake))
end
end WLT
namespace WL
open L2 PySem PySem.Spec PyProof.Rows
open LamX (ExtN)
section
variable {X : Cx} {Y : Yx}
def tRevT (K : PySem.W.Frag) (te : TE) : TE := fun σ H Q => te σ H fun x H1 => ∃ a xs, x = .ref a ∧ SqT K H1 a xs ∧ ∀ p, H1 p = none → Q (.ref p) (upd H1 p (.tup xs.reverse))
theorem pe_revT {e : Expr} {te : TE} {k : Nat} {p1 p2 p3 pos : Pos} (he : PE X e te) : PE X (.Subscript e (.Slice none none (some (.UnaryOp .USub (.Constant (.int 1) k p1) p2)) p3) pos) (tRevT X.K te) := by
  refine ⟨fun pins s σ H Q I h => ?_⟩
  refine Subscript_ (thn (he.run pins s σ H _ I h) fun v s1 ⟨x, H1, I1, r1, q1⟩ => ?_)
  obtain ⟨a, xs, ex, hx, q⟩ := q1
  subst ex
  cases r1
  have hst : PO X (some (.UnaryOp .USub (.Constant (.int 1) k p1) p2)) (tPart (tUn (rU fun i => .int (-i)) (tC (.int 1)))) := po_some (pe_un un_neg pe_int)
  refine wpAny_Slice (thn (po_none.run pins s1 σ H1 (fun o H2 => o = none ∧ H2 = H1) I1 ⟨rfl, rfl⟩) fun vl s2 ⟨l, H2, I2, pl, el, e2⟩ => ?_)
  subst el e2
  refine thn (po_none.run pins s2 σ H2 (fun o H3 => o = none ∧ H3 = H2) I2 ⟨rfl, rfl⟩) fun vu s3 ⟨u, H3, I3, pu, eu, e3⟩ => ?_
  subst eu e3
  refine thn (hst.run pins s3 σ H3 (fun o H4 => o = some (-1) ∧ H4 = H3) I3 ⟨1, rfl, -1, rfl, rfl, rfl⟩) fun vs s4 ⟨o, H4, I4, ps, eo, e4⟩ => ?_
  subst eo e4
  have I5 : Inv X pins σ H4 { s4 with heap := s4.heap.push { cls := .type "slice", data := .fields #[vl, vu, vs] } } := I4.kept (t' := s4.toks) fun b ob q => Heap.get?_push_of_some _ q
  obtain ⟨its, r, ht, hz⟩ := I5.tuple hx
  have hlen := r.length
  show wpAny (model X.prog X.w) X.A (subscriptTail e (.Slice none none (some (.UnaryOp .USub (.Constant (.int 1) k p1) p2)) p3) (.ref a) (.ref s4.heap.objs.size)) (EP X pins σ Q) X.xe { s4 with heap := s4.heap.push { cls := .type "slice", data := .fields #[vl, vu, vs] } }
  refine tail_any (ops := [.ref a, .ref s4.heap.objs.size]) ht.typeIs (PyProof.Rows.slot_tuple_getitem.lookup) ?_ (by with_unfolding_all rfl)
  refine WLT.getItem_tuple_rev ht (Heap.IsSliceOf.new _ vl vu vs) pl pu ps ?_ (by rw [List.size_toArray]; omega)
  refine ⟨.ref _, _, I5.laid (t' := s4.toks) (o := .tup xs.reverse) (fun b ob q => Heap.get?_push_of_some _ q) (Nat.le_refl _) ?_, rfl, q _ (I5.hok.fresh (Nat.le_refl _))⟩
  exact ⟨by rw [List.length_reverse]; exact hz, _, r.reverse, IsTup.new _ _⟩
@[simp] def revM (d : D) (Q : D → Prop) : Prop := match d with
  | .tup ds => Q (.tup ds.reverse)
  | _ => False
@[simp ↓] def mRev (a : EM) (ρ : DEnv) (Q : D → Prop) (E : Xn → Prop) : Prop := a ρ (fun d => revM d Q) E
theorem RpAll.reverse {K : PySem.W.Frag} {A : Addr → Prop} {H : Hp} : ∀ {vs : List V} {ds : List D}, RpAll K A H vs ds → RpAll K A H vs.reverse ds.reverse
  | _, _, .nil => .nil
  | _, _, .cons r t => by
    rw [List.reverse_cons, List.reverse_cons]
    exact (RpAll.reverse t).append (.cons r .nil)
theorem pd_rev {e : Expr} {m : EM} {k : Nat} {p1 p2 p3 pos : Pos} (he : PD X Y e m) : PD X Y (.Subscript e (.Slice none none (some (.UnaryOp .USub (.Constant (.int 1) k p1) p2)) p3) pos) (mRev m) :=
  pe_imp (pe_revT he) fun σ H Q ⟨A, ρ, Qd, E, env, ex, hm, k⟩ => ⟨A, ρ, _, E, env, ex, hm, fun v H1 d g1 r1 h1 => by
    cases r1 with
    | @tup a xs ds h r =>
      refine ⟨a, xs, rfl, h, fun p hp => ?_⟩
      have s := upd_fresh_same (o := .tup xs.reverse) hp
      exact k _ _ _ (Y.G.trans g1 (Y.G.same s)) (.tup (SqT.of upd_same) ((r.ext (env.step g1).aok (extN_same s)).reverse)) h1
    | _ => exact h1.elim⟩
end
end WL
/-! ### the draws -/
namespace WL
open L2 PySem PySem.Spec PyProof.Rows
open LamX (ExtN)
/-! statements whose returns see what is owned -/
structure RK where
  nx : DEnv → Prop
  rt : DEnv → D → Prop
abbrev RM := DEnv → RK → Prop
def RA (σ : L2.St) (a : Addr) : Prop := σ[0]? = some (some (.ref a))
def liftR (X : Cx) (Y : Yx) (a : Addr) (t : RM) : TS := fun E σ H => ∃ (A : Addr → Prop) (ρ : DEnv) (K : RK), RA σ a ∧ EnvOk X.K Y A H σ ρ ∧ t ρ K ∧
  (∀ A' σ' H' ρ', RA σ' a → EnvOk X.K Y A' H' σ' ρ' → K.nx ρ' → E.nx σ' H') ∧ ∀ A' σ' H' ρ' v d, RA σ' a → EnvOk X.K Y A' H' σ' ρ' → Rp X.K A' H' v d → K.rt ρ' d → E.rt v H'
def PSr (X : Cx) (Y : Yx) (a : Addr) (st : Stmt) (t : RM) : Prop := PS X st (liftR X Y a t)
def PSrs (X : Cx) (Y : Yx) (a : Addr) (st : List Stmt) (t : RM) : Prop := PSs X st (liftR X Y a t)
@[simp ↓] def rNext (ρ : DEnv) (K : RK) : Prop := K.nx ρ
@[simp ↓] def rRet (m : EM) (ρ : DEnv) (K : RK) : Prop := m ρ (fun d => K.rt ρ d) no
@[simp ↓] def rSet (m : EM) (i : Nat) (ρ : DEnv) (K : RK) : Prop := m ρ (fun d => K.nx (put ρ (i + 1) (some (.dat d)))) no
@[simp ↓] def rSto (i : Nat) (mi me : EM) (ρ : DEnv) (K : RK) : Prop := match look ρ i with
  | some (.own ds) => me ρ (fun d => mi ρ (fun x => match x with | .int k => optQ (ixN ds.length k) fun j => K.nx (put ρ i (some (.own (ds.set j d)))) | _ => False) no) no
  | _ => False
@[simp ↓] def rSeq (t u : RM) (ρ : DEnv) (K : RK) : Prop := t ρ { K with nx := fun ρ' => u ρ' K }
@[simp ↓] def rIf (c : EMt) (t u : RM) (ρ : DEnv) (K : RK) : Prop := c ρ (fun b => if b = true then t ρ K else u ρ K) no
theorem no_ex {K : PySem.W.Frag} {Y : Yx} : ExOk K Y no := fun _ _ _ _ z => z.elim
section
variable {X : Cx} {Y : Yx} {a : Addr} {st : Stmt} {rest ss ss' : List Stmt} {c e : Expr} {mt : EMt} {m mi : EM} {s : SM} {t u : RM} {pos : Pos} {x : Str} {i : Nat}
theorem psr_set {pos' : Pos} (he : PD X Y e m) (hN : X.N.Nodup) (hi : X.N[i + 1]? = some x := by rfl) (hx : Loc X.env.scope x := by first | exact Or.inl rfl | exact Or.inr rfl) (hs : swapsWith e (some (.Name x pos')) pos.line X.env = pure false := by rfl)
    (hf : X.fn x = true ∨ X.env.scope.names.lookup x = some .local := by first | exact .inl rfl | exact .inr rfl) : PSr X Y a (.Assign [.Name x pos'] e pos) (rSet m i) :=
  ps_imp (ps_set hN hi hx he hs hf) fun E σ H ⟨A, ρ, K, ra, env, h, nx, rt⟩ => ⟨A, ρ, _, _, env, no_ex, h, fun v H1 d g1 r1 h1 => nx A _ H1 _ (by
    unfold RA at ra ⊢
    cases σ with
    | nil => cases ra
    | cons y l => exact ra) ((env.step g1).setDat r1) h1⟩
theorem psr_sto {ix : Expr} {p1 p2 : Pos} (he : PD X Y e m) (hx : PD X Y ix mi) (hN : X.N[i]? = some x := by rfl) (hv : Vis X.env.scope x := by first | exact Or.inl rfl | exact Or.inr (Or.inl rfl) | exact Or.inr (Or.inr rfl)) (hd : (x == ("__debug__" : Str)) = false := by decide)
    (hcd : (x == ("__classdict__" : Str)) = false := by decide)
    (ha : ∀ v, assign (.Subscript (.Name x p1) ix p2) X.env v = (do
      let ov ← holding [v] (eval (.Name x p1) X.env)
      let iv ← holding [v, ov] (eval ix X.env)
      standAt p2
      holding [v, ov, iv] (setItem ov iv v)
      release [v, ov, iv] []) := by intro _; rfl)
    (hs : swapsWithSole [.Subscript (.Name x p1) ix p2] e pos.line X.env = pure false := by rfl) (hw : swappedStores [.Subscript (.Name x p1) ix p2] e X.env = pure none := by rfl)
    (h1 : (assignEach [.Subscript (.Name x p1) ix p2] X.env).map (·.2) = [assign (.Subscript (.Name x p1) ix p2) X.env] := by rfl) : PSr X Y a (.Assign [.Subscript (.Name x p1) ix p2] e pos) (rSto i mi m) := by
  refine ps_imp (ps_asg he (pg_sub (pe_var hN hv hd hcd) hx set_list ha) hs hw h1) fun E σ H ⟨A, ρ, K, ra, env, h, nx, rt⟩ => ?_
  unfold rSto at h
  split at h
  · rename_i ds hl
    refine ⟨A, ρ, _, _, env, no_ex, h, fun v H1 d g1 r1 hq => ?_⟩
    have e1 := env.step g1
    obtain ⟨p, xs, h1, h2, ap, np, r⟩ := e1.sl i _ hl
    refine ⟨_, h1, A, ρ, _, _, e1, no_ex, hq, fun w H2 d2 g2 r2 hq2 => ?_⟩
    have e2 := e1.step g2
    obtain ⟨p', xs', h1', h2', ap', np', r'⟩ := e2.sl i _ hl
    rw [h1] at h1'
    cases h1'
    cases r2 with
    | int k =>
      simp only at hq2
      cases w : ixN ds.length k with
      | none => rw [w] at hq2; exact hq2.elim
      | some j =>
        rw [w] at hq2
        exact ⟨p, xs', k, j, rfl, rfl, h2', by rw [r'.length]; exact w, nx A _ _ _ ra (e2.updOwn hl h1 h2' ap' np' (r'.set (r1.ext e1.aok (Y.G.ext g2)) j)) hq2⟩
    | _ => exact hq2.elim
  · exact h.elim
theorem psr_ret (he : PD X Y e m) : PSr X Y a (.Return (some e) pos) (rRet m) :=
  ps_imp (ps_ret he) fun E σ H ⟨A, ρ, K, ra, env, h, nx, rt⟩ => ⟨A, ρ, _, _, env, no_ex, h, fun v H1 d g1 r1 h1 => rt A σ H1 ρ v d ra (env.step g1) r1 h1⟩
theorem psr_if (hc : PTd X Y c mt) (ha : PSrs X Y a ss t) (hb : PSrs X Y a ss' u) : PSr X Y a (.If c ss ss' pos) (rIf mt t u) :=
  ps_imp (ps_if hc ha hb) fun E σ H ⟨A, ρ, K, ra, env, h, nx, rt⟩ => ⟨A, ρ, _, _, env, no_ex, h, fun v H1 d g1 r1 h1 => by
    cases r1
    cases v with
    | true => exact ⟨A, ρ, K, ra, env.step g1, h1, nx, rt⟩
    | false => exact ⟨A, ρ, K, ra, env.step g1, h1, nx, rt⟩⟩
theorem psrs_nil : PSrs X Y a [] rNext := pss_imp pss_nil fun E σ H ⟨A, ρ, K, ra, env, h, nx, rt⟩ => nx A σ H ρ ra env h
theorem psrs_one (h : PSr X Y a st t) : PSrs X Y a [st] t := pss_one h
theorem psrs_cons (h1 : PSr X Y a st t) (h2 : PSrs X Y a rest u) : PSrs X Y a (st :: rest) (rSeq t u) :=
  pss_imp (pss_cons h1 h2) fun E σ H ⟨A, ρ, K, ra, env, h, nx, rt⟩ => ⟨A, ρ, { K with nx := fun ρ' => u ρ' K }, ra, env, h, fun A' σ' H' ρ' ra' env' q => ⟨A', ρ', K, ra', env', q, nx, rt⟩, rt⟩
end
/-! the script, told by its address -/
@[simp ↓] def mLenS (sa : Addr) (ns : List Int) (a : EM) (ρ : DEnv) (Q : D → Prop) (E : Xn → Prop) : Prop := a ρ (fun d => d = .adr sa ∧ Q (.int (ns.length : Nat))) E
@[simp ↓] def mIxS (sa : Addr) (ns : List Int) (a b : EM) (ρ : DEnv) (Q : D → Prop) (E : Xn → Prop) : Prop := a ρ (fun d => b ρ (fun e => d = .adr sa ∧ match e with
  | .int k => optQ (L2.atI ns k) fun n => Q (.int n)
  | _ => False) E) E
theorem atI_map {α β : Type} (f : α → β) (l : List α) (k : Int) : L2.atI (l.map f) k = (L2.atI l k).map f := by
  unfold L2.atI
  rw [List.length_map]
  cases L2.ixN l.length k with
  | none => rfl
  | some j => simp
section
variable {X : Cx} {Y : Yx} {a b : Expr} {ma mb : EM} {sa : Addr} {ns : List Int} {p pos : Pos}
theorem scr_at {A : Addr → Prop} {H : Hp} {σ : L2.St} {ρ : DEnv} (hs : ScrAt X.K Y.A0 Y.H0 sa ns) (env : EnvOk X.K Y A H σ ρ) : SqL X.K H sa (ns.map V.int) :=
  (hs.move (A' := Y.A0) (.ext (Y.G.ext env.go)) .refl).seq
theorem pd_lenS (hs : ScrAt X.K Y.A0 Y.H0 sa ns) (hm : X.mg "len" = none) (ha : PQ X Y a ma) (hg : Gl X "len" := by rfl)
    (he : starEach [a] X.env = (false, eval a X.env) :: starEach [] X.env := by rfl) (hpl : (backTo pos (starEach [] X.env)).any (·.1) = false := by rfl) : PD X Y (.Call (.Name "len" p) [a] [] pos) (mLenS sa ns ma) :=
  pe_imp (pe_callB call_len_seq hg hm bb_len (pa1q ha he) (by decide) (by decide) he hpl) fun σ H Q ⟨A, ρ, Qd, E, env, ex, hm, k⟩ => ⟨A, ρ, _, E, env, ex, hm, fun vs H1 d g ⟨v, e, r⟩ q => by
    obtain ⟨q1, q⟩ := q
    subst q1 e
    cases r with
    | adr _ => exact ⟨sa, ns.map V.int, rfl, .inl (scr_at hs (env.step g)), k _ _ _ g (by rw [List.length_map]; exact .int _) q⟩⟩
theorem pd_ixS (hs : ScrAt X.K Y.A0 Y.H0 sa ns) (ha : PQ X Y a ma) (hb : PD X Y b mb) (hx : PlainIx b := by exact fun _ _ => rfl) : PD X Y (.Subscript a b pos) (mIxS sa ns ma mb) :=
  pe_imp (pe_ix ix_seq ha hb hx) fun σ H Q ⟨A, ρ, Qd, E, env, ex, hm, k⟩ => ⟨A, ρ, _, E, env, ex, hm, fun v H1 d g1 r1 h1 => ⟨A, ρ, _, E, env.step g1, ex, h1, fun w H2 d2 g2 r2 h2 => by
    obtain ⟨e, h2⟩ := h2
    subst e
    cases r1 with
    | adr _ => cases r2 with
      | int i =>
        obtain ⟨n, e, q⟩ := optQ_some h2
        exact .inl ⟨sa, _, i, .int n, rfl, rfl, scr_at hs ((env.step g1).step g2), by rw [atI_map, e]; rfl, k _ _ _ (Y.G.trans g1 g2) (.int n) q⟩
      | _ => exact h2.elim⟩⟩
end
/-! the row, opened while the draw runs -/
structure RowOk (i x y : Int) : Prop where
  i0 : 0 ≤ i
  x0 : 0 ≤ x
  x1 : x < 2147483647
  y0 : 0 ≤ y
def rowL (sa : Addr) (i x y : Int) : HO := .lst [.ref sa, .int i, .int x, .int y]
section
variable {X : Cx} {pins : List (Addr × Obj)} {σ : L2.St} {H : Hp} {s : Shared} {a sa : Addr} {i x y : Int}
theorem row_open (I : Inv X pins σ H s) (h : H a = some (rowO a sa)) : ∃ i x y, RowOk i x y ∧ Inv X pins σ (upd H a (rowL sa i x y)) s := by
  obtain ⟨⟨i, x, y, t0, t1, t2, n, h0, h1, h2, h3, e⟩, _, _⟩ := I.hok a _ h
  refine ⟨i, x, y, ⟨h0, h1, h2, h3⟩, I.write (x := a) (e := a) (t' := s.toks) (h' := s.heap) (by rw [h]; exact True.intro) (.inl rfl) (fun b v _ q => q) ⟨_, e⟩ ?_⟩
  exact ⟨by show 4 ≤ sizeLine; decide, [.ref sa, .int i t0, .int x t1, .int y t2], n, .cons rfl (.cons ⟨_, rfl⟩ (.cons ⟨_, rfl⟩ (.cons ⟨_, rfl⟩ .nil))), e⟩
theorem row_close (I : Inv X pins σ H s) (h : H a = some (rowL sa i x y)) (ok : RowOk i x y) : Inv X pins σ (upd H a (rowO a sa)) s := by
  obtain ⟨_, its, n, r, e⟩ := I.hok a _ h
  have q : RowAt a sa s.heap := by
    cases r with
    | cons r0 r => cases r with
      | cons r1 r => cases r with
        | cons r2 r => cases r with
          | cons r3 r =>
            cases r
            obtain ⟨t1, rfl⟩ := r1
            obtain ⟨t2, rfl⟩ := r2
            obtain ⟨t3, rfl⟩ := r3
            obtain rfl := r0
            exact ⟨i, x, y, t1, t2, t3, n, ok.i0, ok.x0, ok.x1, ok.y0, e⟩
  refine I.write (x := a) (e := a) (t' := s.toks) (h' := s.heap) (by rw [h]; exact True.intro) (.inl rfl) (fun b v _ q => q) ⟨_, e⟩ ⟨q, ⟨_, e⟩, fun h1 h2 ⟨i, x, y, t0, t1, t2, n, a1, a2, a3, a4, e⟩ st => ⟨i, x, y, t0, t1, t2, n, a1, a2, a3, a4, st _ e⟩⟩
end
def tRowO (a sa : Addr) (t : TS) : TS := fun E σ H => H a = some (rowO a sa) ∧ ∀ i x y, RowOk i x y → t ⟨fun _ _ => False, fun v H' => ∃ i' x' y', RowOk i' x' y' ∧ H' a = some (rowL sa i' x' y') ∧ E.rt v (upd H' a (rowO a sa)), fun _ _ => False, fun _ _ => False⟩ σ (upd H a (rowL sa i x y))
theorem pss_row {X : Cx} {ss : List Stmt} {t : TS} {a sa : Addr} (h : PSs X ss t) : PSs X ss (tRowO a sa t) := by
  refine ⟨fun pins s σ H D I hw => ?_⟩
  obtain ⟨hd, hw⟩ := hw
  obtain ⟨i, x, y, ok, I1⟩ := row_open I hd
  refine thn (h.run pins s σ _ _ I1 (hw i x y ok)) fun f s1 q => ?_
  cases f with
  | next => obtain ⟨σ', H', I2, q⟩ := q; exact q.elim
  | brk => obtain ⟨σ', H', I2, q⟩ := q; exact q.elim
  | cont => obtain ⟨σ', H', I2, q⟩ := q; exact q.elim
  | ret v => obtain ⟨z, σ', H', I2, r, i', x', y', ok, e, q⟩ := q; exact ⟨z, σ', _, row_close I2 e ok, r, q⟩

def startR (sa : Addr) (i x y n : Int) (N : List Str) : DEnv := some (.own [.adr sa, .int i, .int x, .int y]) :: some (.dat (.int n)) :: List.replicate (N.length - 2) none
theorem FnAt.row {P : Program} {w : World} {K : PySem.W.Frag} {mg : Str → Option Value} {base : Heap} {x : Str} {params : Arguments} {body : List Stmt} {scope : Scope} {f : Addr} {fd : FuncData} {N ps : List Str} {k : Nat} {t : Addr → List Int → RM}
    (F : FunD K x x params body scope [] [] f fd) (hg : mg x = some (.ref f)) (S : FnScope N ps scope) (hn : ps.length = 2) (hN : 2 ≤ N.length) (b : Binds K fd ps [])
    (hb : ∀ (cdv : Value) (A : Around) (outer : List Env) (s : Shared) (H : Hp) (E : XK) (Y : Yx) (a sa : Addr) (ns : List Int), Cok k (cxOf (L2.CX P w) P w K mg base N x scope f cdv A outer s H E) Y → ScrAt K Y.A0 Y.H0 sa ns → PSrs (cxOf (L2.CX P w) P w K mg base N x scope f cdv A outer s H E) Y a body (t sa ns))
    (hm : ∀ (sa : Addr) (ns : List Int) (n i x y : Int) (Q : Int → Prop), RowOk i x y → 0 < n → n < 1073741824 → (∀ k, 0 ≤ k → k < n → Q k) → t sa ns (startR sa i x y n N) ⟨fun _ => False, fun ρ d => ∃ i' x' y' k, RowOk i' x' y' ∧ look ρ 0 = some (.own [.adr sa, .int i', .int x', .int y']) ∧ d = .int k ∧ Q k⟩) :
    FnAt P w K mg base (k + 1) x 2 (m__law_taken K) := by
  refine ⟨f, fd, ps, hg, F.kp, b, F.ok S (fun vs H Q E ⟨A, ds, _, _, _, r, l, _⟩ => by rw [r.length, l, hn]) fun cdv A outer s H vs Q E hr ⟨A0, ds, Qd, Ed, ok, r, l, hm', h1, h2⟩ => ?_⟩
  unfold m__law_taken at hm'
  split at hm'
  · rename_i n
    obtain ⟨⟨n0, n1⟩, hq⟩ := hm'
    cases r with
    | cons r0 r => cases r with
      | cons r1 r =>
        cases r
        cases r1
        cases r0 with
        | @row a sa ns ha hsc na =>
          have h0 : ∀ b, b ≠ a → (fun b => if b = a then none else H b : Hp) b = H b := fun b hb => if_neg hb
          have hsc0 : ScrAt K A0 (fun b => if b = a then none else H b : Hp) sa ns := by
            rcases hsc with ⟨z, nz⟩ | z
            · have ne : sa ≠ a := fun e => by
                subst e
                rcases z with z | ⟨o, z⟩
                · rw [ha] at z; cases z
                · rw [ha] at z; cases z
              refine .inl ⟨?_, nz⟩
              rcases z with z | ⟨o, z⟩
              · exact .inl ((h0 sa ne).trans z)
              · exact .inr ⟨o, (h0 sa ne).trans z⟩
            · exact .inr z
          refine ⟨tRowO a sa (liftR _ ⟨GrSame, fun b => if b = a then none else H b, A0, E, fun _ _ => False⟩ a (t sa ns)), pss_row (hb cdv A outer s H E ⟨GrSame, fun b => if b = a then none else H b, A0, E, fun _ _ => False⟩ a sa ns (let c : Cok k _ ⟨GrSame, H, A0, E, fun _ _ => False⟩ := cok_def hr S.nd; ⟨c.pass, c.calm, c.room, c.nd, c.tk⟩) hsc0), ha, fun i x y okr => ?_⟩
          have neA : ∀ b, A0 b → b ≠ a := fun b hb e => na (e ▸ hb)
          refine ⟨Ap A0 a, startR sa i x y n N, _, ?_, ⟨fun b o e => ?_, fun b hb => ⟨.inl hb, fun z => ?_⟩, fun b hb => hb.elim .inl fun z => .inr (z ▸ fun o e => by simp at e), fun b hb => ?_, ?_, fun j sl h => ?_, fun j k' p s' t' h1 h2 i1 i2 _ _ => ?_⟩, hm sa ns n i x y (fun k => Qd (.int k)) okr n0 n1 hq, fun _ _ _ _ _ _ q => q.elim, fun A' σ' H' ρ' v d ra env rv ⟨i', x', y', kk, ok', hl, ed, q⟩ => ?_⟩
          · rfl
          · have hb : b ≠ a := fun z => by subst z; simp at e
            rw [upd_ne hb]
            exact (h0 b hb).symm.trans e
          · have hne := neA b hb
            rcases ok b hb with ⟨xs, q⟩ | ⟨C, dx, fs, q⟩
            · obtain ⟨_, w⟩ := z _ ((h0 b hne).trans q); cases w
            · obtain ⟨_, w⟩ := z _ ((h0 b hne).trans q); cases w
          · rcases hb with hb | hb
            · rw [upd_ne (neA b hb)]; exact ok b hb
            · subst hb; exact .inl ⟨_, upd_same⟩
          · simp [L2.start, startR]
          · match j, h with
            | 0, h =>
              cases h
              exact ⟨a, _, rfl, upd_same, .inr rfl, fun o e => by simp at e, .cons (.adr sa) (.cons (.int i) (.cons (.int x) (.cons (.int y) .nil)))⟩
            | 1, h =>
              cases h
              exact ⟨.int n, rfl, .int n⟩
            | j + 2, h => exact (look_none (show look (List.replicate (N.length - 2) none) j = some sl from h)).elim
          · have z : ∀ (j : Nat) (s : Sl), look (startR sa i x y n N) j = some s → isDat s = false → j = 0 := fun j s h hi => by
              match j, h with
              | 0, _ => rfl
              | 1, h => cases h; cases hi
              | j + 2, h => exact (look_none (show look (List.replicate (N.length - 2) none) j = some s from h)).elim
            rw [z j _ h1 i1, z k' _ h2 i2]
          · subst ed
            cases rv
            obtain ⟨p, xs, e1, e2, _, _, r⟩ := env.sl 0 _ hl
            have ep : p = a := by
              unfold RA at ra
              rw [ra] at e1
              cases e1
              rfl
            subst ep
            cases r with
            | cons r0 r => cases r with
              | cons r1 r => cases r with
                | cons r2 r => cases r with
                  | cons r3 r =>
                    cases r
                    cases r0
                    cases r1
                    cases r2
                    cases r3
                    refine ⟨i', x', y', ok', e2, h1 _ _ _ q (fun b o e => ?_) (.int kk)⟩
                    by_cases hb : b = p
                    · subst hb
                      rw [ha] at e
                      cases e
                      exact upd_same
                    · rw [upd_ne hb]
                      exact env.go b o ((h0 b hb).trans e)
  · exact hm'.elim
end WL
/-! ### an own error whose __init__ says super().__init__(text) -/
namespace WLS
open PySem PySem.Spec PySem.Calls PyProof.Rows
section
variable {prog : Program} {w : World} {A : Around} {E : Value → Shared → Prop} {h : Heap} {g : Array GenState} {d : Drawn} {t : Nat} {os : OsState}
variable {nm q : Str} {C N : Addr} {bs bm : List Value} {hdct : Bool} {sn : List Str} {sub : List Value} {ab : Bool} {col : Option Bool} {dd : Option Addr} {k0 k1 k2 k3 k5 : Option Value}
theorem call_mw {u e t0 : Addr} {rest : List Value} {Q : Value → Shared → Prop}
    (hC : h.get? C = some (excClassObj nm q C N bs bm hdct sn sub ab col dd k0 k1 k2 k3 k5 "ValueError.__new__")) (he : h.get? e = some (HandSPX.excO C t0)) (hu : h.get? u = some (W.kxs_mw "ValueError.__init__" e)) (hrest : rest.length ≤ sizeLine)
    (hq : ∀ h' t1, (∀ b o, b ≠ e → h.get? b = some o → h'.get? b = some o) → h'.get? e = some (HandSPX.excO C t1) → Q .none ⟨h', g, d, t, os⟩) :
    wpAny (model prog w) A (call (.ref u) rest) Q E ⟨h, g, d, t, os⟩ := by
  refine wpAny_call (codeAny_of_tree ?_)
  show wpAny _ A.in1 (callAny (.ref u) ⟨rest, []⟩) _ _ _
  simp only [callAny]
  refine wpAny_bind (wpAny_load hu ?_)
  simp only [W.kxs_mw, show (Value.type "method-wrapper" == Value.type "method" || Value.type "method-wrapper" == Value.type "builtin_function_or_method" || Value.type "method-wrapper" == Value.type "method-wrapper") = true by decide, if_true]
  refine W.KFB.if_so (by decide) ?_
  refine wpAny_bind (ESX.check_bound F.excBase_ValueError hC he rfl ?_)
  refine wpAny_bind (wpAny_pure (wpAny_pure ?_))
  refine ⟨Code.quiet_builtin _ (by decide +kernel), codeAny_builtin F.excBase_ValueError.initEntry ?_⟩
  rw [Around.under_plainId F.excBase_ValueError.init.plain _]
  wp_walk
  refine hq _ h.objs.size (fun b o hb ho => ?_) ?_
  · rw [Heap.get?_update_other _ _ (Ne.symm hb)]
    exact Heap.get?_push_of_some _ ho
  · rw [Heap.get?_update_self _ (Heap.get?_push_of_some _ he) rfl]
    rfl
end
end WLS
namespace WL
open L2 PySem PySem.Spec PyProof.Rows
/-- what the written part says of such an __init__ -/
structure SupD (P : Program) (K : PySem.W.Frag) (mg : Str → Option Value) (C f : Addr) (qual : Str) (params : Arguments) (body : List Stmt) (scope : Scope) (fd : FuncData) : Prop where
  ex : ∃ (oc : Value) (od : Option Addr) (dV kV doc pm : Value) (an : Option Addr) (cda : Addr) (ct : Value) (osl : Array (Option Value)) (cc : Addr), fd = PySem.W.ksFn "__init__" qual params body scope dV kV doc pm an (.ref cda) ct cc ∧
    K.lookup f = some ⟨oc, od, .func fd, osl⟩ ∧ PySem.W.codeIn K (.ref cda) qual = true ∧
    (∃ ccl cdd vs ccs file tf, K.lookup cda = some ⟨ccl, cdd, .fields vs, ccs⟩ ∧ vs[2]? = some (.str file tf) ∧ ((P.main.file : Str) == file) = true) ∧ ∃ cl cld csl, K.lookup cc = some ⟨cl, cld, .cell (some (.ref C)), csl⟩
  cls : (PySem.W.clsIn K C).isSome = true
  mro : PySem.W.mroIn K C (.ref C) = some true
  sup : mg "super" = none
  any : PySem.W.nsIn K cStatics "thirdparty.any" = some none
  ini : PySem.W.ks_superIn K C C "__init__" = some (some (.builtin "ValueError.__init__"))
  sub : PySem.W.subIn K (.ref C) (.type "ValueError") = some true
  top : (P.main.scope.names.lookup ("super" : Str)).isSome = false
structure SupS (N ps : List Str) (sc : Scope) : Prop where
  kind : sc.kind = .function
  co : sc.isCoroutine = false
  gen : sc.isGenerator = false
  nd : N.Nodup
  pre : N.take ps.length = ps
  par : ∀ x ∈ ps, sc.names.lookup x = some .local
  nocell : ∀ y ∈ sc.names, y.2 ≠ .cell
  free : ∀ y ∈ sc.names, y.2 = .free → y.1 = ("__class__" : Str)
  sup : sc.names.lookup ("super" : Str) = some .globalImplicit
  cls : sc.names.lookup ("__class__" : Str) = some .free
/-- the context of its body -/
def cxS (P : Program) (w : World) (K : PySem.W.Frag) (mg : Str → Option Value) (base : Heap) (N : List Str) (qual : Str) (scope : Scope) (f : Addr) (cd : Value) (cc : Addr) (A : Around) (outer : List Env) (s : Shared) (H : Hp) : Cx where
  prog := P
  w := w
  K := K
  mg := mg
  base := base
  A := A.deeper (PySem.W.ksEnv qual scope s.heap.objs.size f cd cc)
  N := N
  s_0 := s
  H_0 := H
  env := PySem.W.ksEnv qual scope s.heap.objs.size f cd cc
  outer := outer
  stack := PySem.W.ksEnv qual scope s.heap.objs.size f cd cc :: outer
  ex := []
  fn := fun _ => false
  calm := true
  pn := []
  xe := fun _ _ => False
theorem lookup_nd {β : Type} : ∀ {l : List (Str × β)} {x : Str} {u : β}, (l.map (·.1)).Nodup → (x, u) ∈ l → l.lookup x = some u
  | [], _, _, _, h => nomatch h
  | (y, v) :: r, x, u, nd, h => by
    rw [List.map_cons, List.nodup_cons] at nd
    rw [List.lookup_cons]
    rcases List.mem_cons.mp h with e | e
    · cases e
      simp
    · have : (x == y) = false := beq_eq_false_iff_ne.mpr fun z => nd.1 (z ▸ List.mem_map.mpr ⟨_, e, rfl⟩)
      rw [this]
      exact lookup_nd nd.2 e
theorem inv_startS {P : Program} {w : World} {K : PySem.W.Frag} {mg : Str → Option Value} {base : Heap} {N ps : List Str} {qual : Str} {scope : Scope} {f cc : Addr} {cd : Value} {A : Around} {outer : List Env} {s : Shared} {h0 : Heap} {tk : Nat} {H : Hp} {us : List Value} {vs : List V} {cv : Option Value}
    (S : SupS N ps scope) (hd : A.handled = none) (e0 : Env0 P w K mg base A outer s H) (hl : vs.length = ps.length) (r : Vals vs us)
    (hns : h0.Ns s.heap.objs.size fun x => (ps.zip us).reverse.lookup x) (hk : ∀ b o, s.heap.get? b = some o → h0.get? b = some o) (hc : base.IsCell cc cv) :
    Inv (cxS P w K mg base N qual scope f cd cc A outer s H) [] (L2.start N vs) H { s with heap := h0, toks := tk } := by
  have hpl : ps.length ≤ N.length := by have := congrArg List.length S.pre; rw [List.length_take] at this; omega
  have noA : ∀ b : Addr, b ∉ (cxS P w K mg base N qual scope f cd cc A outer s H).ex := fun b z => absurd (show b ∈ ([] : List Addr) from z) (by simp)
  have one : ∀ {y : Str} {c : Addr}, ([("__class__", cc)] : List (Str × Addr)).lookup y = some c → y = "__class__" ∧ c = cc := fun {y c} h => by
    rw [List.lookup_cons] at h
    by_cases e : y = "__class__"
    · subst e
      simp at h
      exact ⟨rfl, h.symm⟩
    · have : (y == ("__class__" : Str)) = false := beq_eq_false_iff_ne.mpr e
      rw [this] at h
      cases h
  obtain ⟨oc, ho, hod⟩ := hc
  refine ⟨⟨e0.mod, S.kind, rfl, rfl, Nat.le_refl _, fun y z c h1 h2 => ?_, fun y hy => ?_, fun y c h _ => (Bool.false_ne_true h).elim, fun _ => hd, Around.frames_deeper e0.frames, .inr ⟨rfl, rfl⟩, fun b z => absurd z (noA b), e0.bs, e0.bsz, fun b _ _ => noA b, fun b z => absurd z (noA b), e0.funs, e0.frf⟩,
    rfl, e0.bare, Un.kept hk, ⟨_, hns, fun i y v h1 h2 h3 => ?_⟩, fun y c h => ?_, e0.hok.fresh (Nat.le_refl _), fun y c h => ?_, fun p hp => absurd (show p ∈ ([] : List (Addr × Obj)) from hp) (by simp), e0.hok.kept hk, ?_⟩
  · exact (one h1).1.trans (one h2).1.symm
  · have hy : scope.names.lookup y = some .cell ∨ scope.names.lookup y = some .free := hy
    rcases hy with hy | hy
    · exact absurd rfl (S.nocell _ (PySem.mem_of_lookup hy))
    · have := S.free _ (PySem.mem_of_lookup hy) rfl
      subst this
      exact ⟨cc, rfl⟩
  · have hi : i < vs.length := by
      unfold L2.start at h2
      by_cases hi : i < vs.length
      · exact hi
      · rw [List.getElem?_append_right (by simpa using hi)] at h2
        rw [List.getElem?_replicate] at h2
        split at h2 <;> cases h2
    have ha : vs[i]? = some v := by
      unfold L2.start at h2
      rw [List.getElem?_append_left (by simpa using hi), List.getElem?_map] at h2
      cases e : vs[i]? with
      | none => rw [e] at h2; cases h2
      | some a => rw [e] at h2; cases h2; rfl
    obtain ⟨u, hu, rv⟩ := r.get ha
    have hp : ps[i]? = some y := by
      rw [← S.pre, List.getElem?_take_of_lt (by omega)]; exact h1
    have ndP : ps.Nodup := by rw [← S.pre]; exact S.nd.sublist (List.take_sublist _ _)
    refine ⟨u, rv, .inl ⟨S.par y (List.mem_of_getElem? hp), lookup_nd ?_ ?_⟩⟩
    · rw [List.map_reverse, List.map_fst_zip (by rw [← hl, ← r.length]; exact Nat.le_refl _)]
      exact List.pairwise_reverse.mpr (ndP.imp fun h => Ne.symm h)
    · refine List.mem_reverse.mpr (List.mem_iff_getElem?.mpr ⟨i, ?_⟩)
      rw [List.getElem?_zip_eq_some]
      exact ⟨hp, hu⟩
  · rw [(one h).2]
    exact ⟨cv, oc, hk _ _ (e0.bs _ _ ho).1, hod⟩
  · rw [(one h).2]
    exact (e0.bs _ _ ho).2
  · unfold L2.start
    show _ = N.length
    rw [List.length_append, List.length_map, List.length_replicate]
    omega

theorem fnOk_sup {P : Program} {w : World} {K : PySem.W.Frag} {mg : Str → Option Value} {base : Heap} {C f : Addr} {qual : Str} {params : Arguments} {scope : Scope} {fd : FuncData} {N ps : List Str} {ks : List Str} {n : Nat} {rest : List Stmt} {z : Str} {zj : Nat} {zp p0 p1 p2 p3 p4 : Pos} {ar : Arg} {pl : Sem Bool}
    (D : SupD P K mg C f qual params (.Expr (.Call (.Attribute (.Call (.Name "super" p0) [] [] p1) "__init__" p2) [.Constant (.str z) zj zp] [] p3) p4 :: rest) scope fd) (T : OexC K C) (S : SupS N ps scope) (hn : ps.length = n + 1)
    (hev : ∀ (L : Addr) (cd : Value) (cc : Addr), eval (.Call (.Attribute (.Call (.Name "super" p0) [] [] p1) "__init__" p2) [.Constant (.str z) zj zp] [] p3) (PySem.W.ksEnv qual scope L f cd cc) = (do
      let ov ← attributeBase (.Call (.Name "super" p0) [] [] p1) "__init__" (PySem.W.ksEnv qual scope L f cd cc) (eval (.Call (.Name "super" p0) [] [] p1) (PySem.W.ksEnv qual scope L f cd cc))
      standAt p2.atName
      let (g, first) ← holding [ov] (getMethod ov "__init__" pl)
      callWith p3 g first (backTo p3 (starEach [.Constant (.str z) zj zp] (PySem.W.ksEnv qual scope L f cd cc))) []))
    (hsw : ∀ (L : Addr) (cd : Value) (cc : Addr), swapsWith (.Call (.Attribute (.Call (.Name "super" p0) [] [] p1) "__init__" p2) [.Constant (.str z) zj zp] [] p3) none p4.line (PySem.W.ksEnv qual scope L f cd cc) = pure false)
    (har : (params.posonlyargs ++ params.args).head? = some ar) (hself : ps[0]? = some ar.arg)
    (hrest : ∀ (cd : Value) (cc : Addr) (A : Around) (outer : List Env) (s : Shared) (H : Hp) (e : Addr) (as : List V) (Q : VK), as.length = n → H e = some (exo e C none) →
      (∀ d H2, H d = none → d ≠ e → H2 e = some (exo e C (some d)) → H2 d = some (exd d (ks.zip as.reverse)) → (∀ b, b ≠ e → b ≠ d → H2 b = H b) → Q .non H2) →
      ∃ t, PSs (cxS P w K mg base N qual scope f cd cc A outer s H) rest t ∧ t ⟨fun _ H' => Q .non H', fun _ _ => False, fun _ _ => False, fun _ _ => False⟩ (L2.start N (.ref e :: as)) H) : FnOk P w K mg base (L2.CX P w) 1 f fd ps (spX C ks n) := by
  obtain ⟨oc, od, dV, kV, doc, pm, an, cda, ct, osl, cc, efd, lk, hcd, ⟨ccl, cdd, vs0, ccs, file, tf, lcd, hvs, hfile⟩, cl, cld, csl, lcc⟩ := D.ex
  subst efd
  refine ⟨fun vs H Q E ⟨e, as, ev, el, _⟩ => by rw [ev, hn, List.length_cons, el], fun A outer s H args us vs Q E hr e0 hb r hsp => ?_⟩
  obtain ⟨e, as, ev, el, he, hq⟩ := hsp
  subst ev
  have KX : K.In s.heap := e0.mod.kin.keeps fun b o e => (e0.bs b o e).1
  have lim : s.heap.NoLimit := e0.mod.nolimit.keeps fun b o e => (e0.bs b o e).1
  have hl : (V.ref e :: as).length = ps.length := by rw [List.length_cons, el, hn]
  refine PySem.ks_codeAny_call_defAt (fd := PySem.W.ksFn "__init__" qual params _ scope dV kV doc pm an (.ref cda) ct cc) (binds := ps.zip us) hr.depth (KX _ _ lk) rfl lim (PySem.W.codeRec_of KX hcd) rfl hb S.nocell (fun x hx => S.par _ (List.of_mem_zip hx).1) (fun h0 hns hk => ?_) S.co S.gen S.kind
  have I0 : Inv (cxS P w K mg base N qual scope f (.ref cda) cc A outer s H) [] (L2.start N (.ref e :: as)) H { s with heap := h0, toks := s.toks + (ps.zip us).length } := inv_startS S hr.hd e0 hl r hns hk ⟨_, e0.mod.kin _ _ lcc, rfl⟩
  obtain ⟨cd, hcl⟩ := Option.isSome_iff_exists.mp D.cls
  have hit : us[0]? = some (.ref e) := by
    cases r with
    | cons r0 _ => obtain rfl := r0; rfl
  have hint : interactive (cxS P w K mg base N qual scope f (.ref cda) cc A outer s H).env = false := by
    unfold interactive
    show (scope.kind == _ && _) = false
    rw [S.kind]
    rfl
  refine PySem.ks_wpAt_execs_cons (PySem.ks_wpAt_Expr_any (env := (cxS P w K mg base N qual scope f (.ref cda) cc A outer s H).env) (PySem.ks_wpAt_MethodCall ?_ (hev _ _ _)) hint (hsw _ _ _))
  refine PySem.ks_wpAt_super_base (env := (cxS P w K mg base N qual scope f (.ref cda) cc A outer s H).env) S.sup S.cls rfl rfl (I0.kIn _ _ lk) rfl har rfl (I0.kIn _ _ lcd) rfl hvs hfile D.top ?_
  obtain ⟨mb, hb1, hb2⟩ := I0.mod.blt
  refine PySem.W.ks_loadName_global S.kind S.sup (Calls.loadGlobal_builtin (env := (cxS P w K mg base N qual scope f (.ref cda) cc A outer s H).env) (I0.mod.glob.keeps I0.bk) D.sup (hb1.keeps I0.bk) ((hb2 _ (by decide)).trans (show bootBuiltins "super" = some (.type "super") from by kernel_rfl)) ⟨rfl, ?_⟩)
  refine wpAny_loadName_free S.kind S.cls rfl ⟨_, I0.kIn _ _ lcc, rfl⟩ ?_
  have ndP : ps.Nodup := by rw [← S.pre]; exact S.nd.sublist (List.take_sublist _ _)
  have lself : (ps.zip us).reverse.lookup ar.arg = some (.ref e) := by
    refine lookup_nd ?_ (List.mem_reverse.mpr (List.mem_iff_getElem?.mpr ⟨0, ?_⟩))
    · rw [List.map_reverse, List.map_fst_zip (by rw [← hl, ← r.length]; exact Nat.le_refl _)]
      exact List.pairwise_reverse.mpr (ndP.imp fun h => Ne.symm h)
    · rw [List.getElem?_zip_eq_some]
      exact ⟨hself, hit⟩
  refine wpAny_loadName_local S.kind (S.par _ (List.mem_of_getElem? hself)) hns lself ?_
  obtain ⟨t1, hoe⟩ := exo_at I0.hok he
  obtain ⟨oD, hD1, hD2⟩ : ∃ oD, h0.get? C = some oD ∧ oD.data = .cls cd := by
    unfold PySem.W.clsIn at hcl
    split at hcl
    · rename_i c' d' cd' sl' ho
      cases hcl
      exact ⟨_, I0.kIn _ _ ho, rfl⟩
    · cases hcl
  refine PySem.ks_wpAny_isType_cls hD1 hD2 ⟨rfl, ?_⟩
  have IA : PySem.W.InstAt h0 e _ C none := ⟨hoe, rfl, rfl, trivial⟩
  refine PySem.ks_wpAny_call_super hD1 hD2 hoe rfl (fun c z => by cases z) (PySem.W.looks_mroIn I0.kIn D.mro) (fun h1 e1 k1 => ?_)
  have I1 : Inv (cxS P w K mg base N qual scope f (.ref cda) cc A outer s H) [] (L2.start N (.ref e :: as)) H { s with heap := h1, toks := s.toks + (ps.zip us).length } := I0.kept (t' := s.toks + (ps.zip us).length) k1
  have X1 : K.In h1 := I1.kIn
  have IA1 : PySem.W.InstAt h1 e _ C none := ⟨k1 _ _ hoe, rfl, rfl, trivial⟩
  have hini : PySem.W.alongIn K "__init__" ((cd.mro.dropWhile (· != .ref C)).drop 1) = some (some (.builtin "ValueError.__init__")) := by
    have q := D.ini
    unfold PySem.W.ks_superIn at q
    rw [hcl] at q
    exact q
  refine PySem.W.kxs_getMethod PySem.W.kxs_ValueError e1 (PySem.W.looks_opaque X1 D.any) (l₀ := cd.mro) (fun A Q E s k q => wpAny_bind ((PySem.W.looks_clsIn X1 hcl) A _ E s k (wpAny_pure q))) rfl X1 hini (IA1.type.andThen (PySem.W.looks_subIn X1 D.sub)) (PySem.W.ks_ne X1 IA1 hcl) rfl ?_
  have eX : (cxS P w K mg base N qual scope f (.ref cda) cc A outer s H).A = A.deeper (PySem.W.ksEnv qual scope s.heap.objs.size f (.ref cda) cc) := rfl
  have I2 : Inv (cxS P w K mg base N qual scope f (.ref cda) cc A outer s H) [] (L2.start N (.ref e :: as)) H { s with heap := h1.push (PySem.W.kxs_mw "ValueError.__init__" e), toks := s.toks + (ps.zip us).length + 1 } := I1.kept (t' := s.toks + (ps.zip us).length + 1) fun b o q => Heap.get?_push_of_some _ q
  have gu : (h1.push (PySem.W.kxs_mw "ValueError.__init__" e)).get? h1.objs.size = some (PySem.W.kxs_mw "ValueError.__init__" e) := Heap.get?_push_size _ rfl
  have I3 : Inv (cxS P w K mg base N qual scope f (.ref cda) cc A outer s H) [(h1.objs.size, PySem.W.kxs_mw "ValueError.__init__" e)] (L2.start N (.ref e :: as)) H { s with heap := h1.push (PySem.W.kxs_mw "ValueError.__init__" e), toks := s.toks + (ps.zip us).length + 1 } := I2.pins_of fun p hp => by
    rw [List.mem_singleton.mp hp]
    exact ⟨gu, I1.hok.fresh (Nat.le_refl _), Nat.ne_of_gt I1.lt, I1.nofs (Nat.le_refl _), fun v z => by cases z⟩
  show wpAny _ _ (callWith p3 (.ref h1.objs.size) [] (backTo p3 (starEach [.Constant (.str z) zj zp] _)) []) _ _ _
  refine PySem.W.kxs_callWith (i := "ValueError.__init__") (x := e) rfl (PySem.Calls.evalArgs_plain ?_)
  refine thn ((pa_cons (X := cxS P w K mg base N qual scope f (.ref cda) cc A outer s H) (pe_str (x := z) (j := zj) (pos := zp)) pa_nil).run p3 _ _ _ _ (fun vs H' => vs = [.str z] ∧ H' = H) I3 ?_) fun us2 s2 ⟨vs2, H2, I4, r2, ev2, eH⟩ => ?_
  · exact ⟨rfl, rfl⟩
  subst ev2
  rw [eH] at I4
  obtain ⟨pu, _⟩ := I4.pin _ (List.mem_append_right _ (List.mem_singleton.mpr rfl))
  obtain ⟨nm, q, NN, bs, bm, sn, sub, ab, col, dd, k0, k1', k2, k3, k5, hC, hbm⟩ := T.cls
  obtain ⟨t2, hoe2⟩ := exo_at I4.hok he
  obtain ⟨hp, g2, d2, tk2, os2⟩ := s2
  refine ⟨pu, WLS.call_mw (I4.kIn _ _ hC) hoe2 pu (by show us2.length ≤ sizeLine; rw [← Paired.length r2]; exact Nat.le_trans (show 1 ≤ 1000 by decide) (small (Nat.le_refl _))) fun h' t3 k4 hx => ?_⟩
  have I5 := I4.write (t' := tk2) (x := e) (e := e) (o := exo e C none) (by rw [he]; exact True.intro) (.inl rfl) k4 ⟨_, hx⟩ (exo_ok hx)
  have eu : upd H e (exo e C none) = H := by
    funext b
    by_cases hb : b = e
    · rw [hb, upd_same, he]
    · rw [upd_ne hb]
  rw [eu] at I5
  obtain ⟨t, ht, hw⟩ := hrest (.ref cda) cc A outer s H e as Q el he hq
  refine _root_.PySem.wpAt_of_wpAny ?_
  refine wpAny_mono (ht.run _ _ _ H _ I5 hw) (fun fl s' hs => ?_) fun _ _ z => z.elim
  cases fl with
  | ret u => obtain ⟨_, _, _, _, _, z⟩ := hs; exact z.elim
  | brk => obtain ⟨_, _, _, z⟩ := hs; exact z.elim
  | cont => obtain ⟨_, _, _, z⟩ := hs; exact z.elim
  | next =>
    obtain ⟨σ', H', J, q⟩ := hs
    exact ⟨.non, H', J.os, J.bare, J.base, J.hok, rfl, q⟩

section
variable {X : Cx} {C : Addr} {sf a1 a2 f1 f2 : Str} {q1 q2 q3 q4 r1 r2 r3 r4 : Pos}
theorem rest_1 (hN : X.N = [sf, a1]) (v0 : Vis X.env.scope sf) (v1 : Vis X.env.scope a1) (d0 : (sf == ("__debug__" : Str)) = false) (d1 : (a1 == ("__debug__" : Str)) = false) (e0 : (sf == ("__classdict__" : Str)) = false) (e1 : (a1 == ("__classdict__" : Str)) = false)
    (hs : swapsWith (.Name a1 q1) (some (.Attribute (.Name sf q2) f1 q3)) q4.line X.env = pure false) :
    PSs X [.Assign [.Attribute (.Name sf q2) f1 q3] (.Name a1 q1) q4] (tOst X.K f1 (tVar 0) (tVar 1)) :=
  pss_one (ps_ost (pe_var (by rw [hN]; rfl) v0 d0 e0) (pe_var (by rw [hN]; rfl) v1 d1 e1) hs)
theorem rest_2 (hN : X.N = [sf, a1, a2]) (v0 : Vis X.env.scope sf) (v1 : Vis X.env.scope a1) (v2 : Vis X.env.scope a2) (d0 : (sf == ("__debug__" : Str)) = false) (d1 : (a1 == ("__debug__" : Str)) = false) (d2 : (a2 == ("__debug__" : Str)) = false)
    (e0 : (sf == ("__classdict__" : Str)) = false) (e1 : (a1 == ("__classdict__" : Str)) = false) (e2 : (a2 == ("__classdict__" : Str)) = false)
    (hs : swapsWith (.Name a1 q1) (some (.Attribute (.Name sf q2) f1 q3)) q4.line X.env = pure false) (hs2 : swapsWith (.Name a2 r1) (some (.Attribute (.Name sf r2) f2 r3)) r4.line X.env = pure false) :
    PSs X [.Assign [.Attribute (.Name sf q2) f1 q3] (.Name a1 q1) q4, .Assign [.Attribute (.Name sf r2) f2 r3] (.Name a2 r1) r4] (tSeq (tOst X.K f1 (tVar 0) (tVar 1)) (tOst X.K f2 (tVar 0) (tVar 2))) :=
  pss_cons (ps_ost (pe_var (by rw [hN]; rfl) v0 d0 e0) (pe_var (by rw [hN]; rfl) v1 d1 e1) hs) (pss_one (ps_ost (pe_var (by rw [hN]; rfl) v0 d0 e0) (pe_var (by rw [hN]; rfl) v2 d2 e2) hs2))
end
theorem sem_1 {K : PySem.W.Frag} {C e : Addr} {f1 sf a1 : Str} {as : List V} {H : Hp} {Q : VK} (T : OexC K C) (n1 : PySem.W.findIn K (.ref C) f1 = some none) (hl : as.length = 1) (he : H e = some (exo e C none))
    (hq : ∀ d H2, H d = none → d ≠ e → H2 e = some (exo e C (some d)) → H2 d = some (exd d (([f1] : List Str).zip as.reverse)) → (∀ b, b ≠ e → b ≠ d → H2 b = H b) → Q .non H2) :
    tOst K f1 (tVar 0) (tVar 1) ⟨fun _ H' => Q .non H', fun _ _ => False, fun _ _ => False, fun _ _ => False⟩ (L2.start [sf, a1] (.ref e :: as)) H := by
  match as, hl with
  | [y], _ =>
    refine ⟨y, rfl, .ref e, rfl, e, C, rfl, T, n1, .inl ⟨he, fun dx hd hne => hq dx _ hd hne upd_same ?_ fun b h1 h2 => ?_⟩⟩
    · rw [upd_ne hne, upd_same]
      rfl
    · rw [upd_ne h1, upd_ne h2]
theorem sem_2 {K : PySem.W.Frag} {C e : Addr} {f1 f2 sf a1 a2 : Str} {as : List V} {H : Hp} {Q : VK} (T : OexC K C) (n1 : PySem.W.findIn K (.ref C) f1 = some none) (n2 : PySem.W.findIn K (.ref C) f2 = some none) (hl : as.length = 2) (he : H e = some (exo e C none))
    (hq : ∀ d H2, H d = none → d ≠ e → H2 e = some (exo e C (some d)) → H2 d = some (exd d (([f2, f1] : List Str).zip as.reverse)) → (∀ b, b ≠ e → b ≠ d → H2 b = H b) → Q .non H2) :
    tSeq (tOst K f1 (tVar 0) (tVar 1)) (tOst K f2 (tVar 0) (tVar 2)) ⟨fun _ H' => Q .non H', fun _ _ => False, fun _ _ => False, fun _ _ => False⟩ (L2.start [sf, a1, a2] (.ref e :: as)) H := by
  match as, hl with
  | [y, z], _ =>
    refine ⟨y, rfl, .ref e, rfl, e, C, rfl, T, n1, .inl ⟨he, fun dx hd hne => ⟨z, rfl, .ref e, rfl, e, C, rfl, T, n2, .inr ⟨dx, [(f1, y)], upd_same, ?_, show 1 ≤ 900 by decide, hq dx _ hd hne ?_ upd_same fun b h1 h2 => ?_⟩⟩⟩⟩
    · rw [upd_ne hne, upd_same]
    · rw [upd_ne (Ne.symm hne), upd_same]
    · rw [upd_ne h2, upd_ne h1, upd_ne h2]
end WL
/-! ### defs called within an except suite, the error in hand -/
namespace WL
open L2 PySem PySem.Spec PyProof.Rows
open LamX (ExtN)
open L2H (RoomH PinOk cxH inv_startH roomH_of)
/-- p: the error's place and object; what it is -/
structure ErrO (K : PySem.W.Frag) (A : Addr → Prop) (H : Hp) (p : Addr × Obj) (x : Xn) : Prop where
  flds : ∃ vs, p.2.data = .fields vs
  ex : ∃ (dd : Addr) (vs : List V), Zc (.ref x.C) (some dd) p.2 ∧ H dd = some (.xd (x.ks.zip vs)) ∧ x.ks.length = vs.length ∧ RpAll K A H vs x.ds
abbrev MZ := Xn → (D → Prop) → Prop
def spZ (K : PySem.W.Frag) (m : MZ) : Addr × Obj → Sp := fun p vs H Q _ => ∃ (A : Addr → Prop) (x : Xn) (Qd : D → Prop), vs = [.ref p.1] ∧ AOk A H ∧ ErrO K A H p x ∧ m x Qd ∧ ∀ d v H', Qd d → Same H H' → Rp K A H' v d → Q v H'
structure FnZ (P : Program) (w : World) (K : PySem.W.Frag) (mg : Str → Option Value) (base : Heap) (k : Nat) (f : Addr) (fd : FuncData) (ps : List Str) (sp : Addr × Obj → Sp) : Prop where
  len : ∀ p vs H Q E, sp p vs H Q E → vs.length = ps.length
  run : ∀ (A : Around) (outer : List Env) (s : Shared) (H : Hp) (args : Args) (us : List Value) (vs : List V) (Q : VK) (E : XK) (p : Addr × Obj), RoomH k A → PinOk outer H s p → Env0 P w K mg base A outer s H → BindsTo s fd args (ps.zip us) → Vals vs us → sp p vs H Q E →
    codeAny (model P w) A (.call (.ref f) args) (CR (L2.CX P w) outer P w H s Q E) s
structure FnZAt (P : Program) (w : World) (K : PySem.W.Frag) (mg : Str → Option Value) (base : Heap) (k : Nat) (x : Str) (m : MZ) : Prop where
  ex : ∃ (f : Addr) (fd : FuncData) (ps : List Str), mg x = some (.ref f) ∧ PySem.W.keepIn K (.ref f) = true ∧ Binds K fd ps [] ∧ FnZ P w K mg base k f fd ps (spZ K m)
/-- what a body there leans on -/
structure CokZ (k : Nat) (X : Cx) : Prop where
  ru : RoomU k X.A
  nd : X.N.Nodup
section
variable {P : Program} {w : World} {K : PySem.W.Frag} {mg : Str → Option Value} {base : Heap} {k : Nat} {f : Addr} {x qual : Str} {params : Arguments} {body : List Stmt} {scope : Scope} {fd : FuncData} {N ps : List Str}
theorem fn_ofZ {sp : Addr × Obj → Sp} (F : FunD K x qual params body scope [] [] f fd) (S : FnScope N ps scope)
    (len : ∀ p vs H Q E, sp p vs H Q E → vs.length = ps.length)
    (hbody : ∀ (cdv : Value) (A : Around) (outer : List Env) (s : Shared) (H : Hp) (vs : List V) (Q : VK) (E : XK) (p : Addr × Obj), RoomH k (A.deeper (envOfC qual scope s.heap.objs.size f cdv)) → sp p vs H Q E →
      ∃ t, PSs (cxH (L2.CX P w) P w K mg base N qual scope f cdv A outer s H E p) body t ∧ t { nx := fun _ H' => Q .non H', rt := Q } (L2.start N vs) H) :
    FnZ P w K mg base (k + 1) f fd ps sp := by
  obtain ⟨oc, od, dV, kV, doc, pm, an, cdv, ct, osl, rfl, lk, hcd, _, _⟩ := F.ex
  refine ⟨len, fun A outer s H args us vs Q E p hr hpin e0 hb r hsp => ?_⟩
  have hl := len _ _ _ _ _ hsp
  have KX : K.In s.heap := e0.mod.kin.keeps fun b o e => (e0.bs b o e).1
  have lim : s.heap.NoLimit := e0.mod.nolimit.keeps fun b o e => (e0.bs b o e).1
  have hkind : ∀ y ∈ ps.zip us, scope.names.lookup y.1 = some .local ∨ (scope.names.lookup y.1 = some .cell ∧ ((cellsFrom (s.heap.objs.size + 1) scope.names []).lookup y.1).isSome = true) := fun ⟨n, v⟩ hy => by
    rcases S.par n (List.of_mem_zip hy).1 with q | q
    · exact .inl q
    · exact .inr ⟨q, PySem.W.cellsFrom_some _ _ _ (.inl q)⟩
  refine codeAny_call_function hr.depth (KX _ _ lk) rfl S.co S.gen rfl (PySem.W.codeRec_of KX hcd) (hb _ _ _ _ ?_)
  refine wpAny_newFunctionEnv_cells S.kind hkind fun env he s1 x => ?_
  subst he
  refine ⟨lim.keeps x.toInCall.keep, codeAny_func ?_⟩
  obtain ⟨t, ht, hq⟩ := hbody cdv A outer s H vs Q E p (hr.deeper _) hsp
  have I : Inv (cxH (L2.CX P w) P w K mg base N qual scope f cdv A outer s H E p) [] (L2.start N vs) H s1 := inv_startH S hpin e0 hl r x
  refine wpAny_mono (ht.run [] s1 (L2.start N vs) H _ I hq) (fun fl s' hs => ?_) fun e s' hs => hs
  have fin : ∀ {σ' : L2.St} {H' : Hp} {v : V} {u : Value}, Inv (cxH (L2.CX P w) P w K mg base N qual scope f cdv A outer s H E p) [] σ' H' s' → L2.RelV v u → Q v H' → CE outer P w H s Q u s' :=
    fun {σ' H' v u} J rv q => ⟨v, H', J.os, J.bare, J.base, J.hok, rv, q⟩
  cases fl with
  | ret u =>
    obtain ⟨v, σ', H', J, rv, q⟩ := hs
    exact fin J rv q
  | next =>
    obtain ⟨σ', H', J, q⟩ := hs
    exact fin (v := V.non) (u := Value.none) J rfl q
  | brk =>
    obtain ⟨_, _, _, q⟩ := hs
    exact False.elim q
  | cont =>
    obtain ⟨_, _, _, q⟩ := hs
    exact False.elim q
/-- by data -/
theorem FnZAt.of {m : MZ} (F : FunD K x x params body scope [] [] f fd) (hg : mg x = some (.ref f)) (S : FnScope N ps scope) (hn : ps.length = 1) (b : Binds K fd ps [])
    (hb : ∀ (cdv : Value) (A : Around) (outer : List Env) (s : Shared) (H : Hp) (E : XK) (Y : Yx) (p : Addr × Obj) (xn : Xn) (Qd : D → Prop), CokZ k (cxH (L2.CX P w) P w K mg base N x scope f cdv A outer s H E p) → AOk Y.A0 Y.H0 → ErrO K Y.A0 Y.H0 p xn → m xn Qd →
      ∃ t : SM, PSsd (cxH (L2.CX P w) P w K mg base N x scope f cdv A outer s H E p) Y body t ∧ ∀ E, t (startD N [.adr p.1]) (kt Qd E)) : FnZAt P w K mg base (k + 1) x m := by
  refine ⟨f, fd, ps, hg, F.kp, b, fn_ofZ F S (fun p vs H Q E ⟨A, xn, Qd, e, _⟩ => by rw [e, hn]; rfl) fun cdv A outer s H vs Q E p hr ⟨A0, xn, Qd, e, ok, er, hm, h1⟩ => ?_⟩
  subst e
  obtain ⟨t, ht, h⟩ := hb cdv A outer s H E ⟨GrSame, H, A0, fun _ _ _ => False, fun _ _ => False⟩ p xn Qd ⟨⟨hr.un⟩, S.nd⟩ ok er hm
  refine ⟨_, ht, A0, startD N [.adr p.1], kt Qd (fun _ => False), envOk_start ok (.cons (.adr _) .nil), no_ex, h _, ?_⟩
  exact ⟨fun A' σ' H' ρ' _ e q => h1 _ _ _ q e.go .non, fun _ _ _ _ _ _ q => q.elim, fun _ _ _ _ _ _ q => q.elim, fun v H' d g r q => h1 d v H' q g r,
      fun p H' xs ds g n hl r q => h1 _ _ _ q g (rF.rp ok (extN_same g) ⟨p, xs, rfl, n, hl, r⟩)⟩
end
/-! ### isinstance(e, C), e.f of the error in hand -/
section
variable {X : Cx} {Y : Yx} {p : Addr × Obj} {C dd : Addr} {e x f : Str} {i : Nat} {xn : Xn} {cv : Value} {c : V} {b : Bool} {pos q q1 q2 : Pos}
theorem call_isE2 (hp : p ∈ X.pn) (T : L2.ExcC X.K C) (hz : Zc (.ref C) (some dd) p.2) (hf : ∃ vs, p.2.data = .fields vs) : CallR X (.builtin "isinstance") (fun xs H Q => ∃ c cv b fs, xs = [.ref p.1, c] ∧ (∀ u, L2.RelV c u → u = cv) ∧ PySem.W.kitOne X.K (.ref C) cv = some b ∧ H dd = some (.xd fs) ∧ Q (.bl b) H) := by
  intro pins s σ H xs us Q I r h
  obtain ⟨c, cv, b, fs, rfl, hcv, e, hd, q⟩ := h
  cases r with
  | cons rx rr =>
    cases rr with
    | cons rt rr =>
      cases rr
      cases rx
      have ec := hcv _ rt
      subst ec
      obtain ⟨hget, _⟩ := I.pin p (List.mem_append.mpr (.inl hp))
      obtain ⟨vs, hv⟩ := hf
      obtain ⟨mA, ⟨od, es, ep, hod, _⟩, _⟩ := I.hok dd _ hd
      have J : PySem.W.InstAt s.heap p.1 p.2 C (some od) := by
        obtain ⟨a, oe⟩ := p
        obtain ⟨oc, od', oda, osl⟩ := oe
        obtain ⟨h1, h2⟩ := hz
        dsimp only at h1 h2 hv
        subst h1 h2 hv
        exact ⟨hget, rfl, rfl, hod⟩
      obtain ⟨cd, hc, _⟩ := PySem.W.any_some T.hd
      exact PySem.W.kia_one (PySem.W.kitx_exc (by rw [hc]; rfl) T.hg T.hk T.hs T.ha T.hn T.ht T.hm) I.kIn J e (fun z => nomatch z) fun tk => ⟨.bl b, H, I.kept (t' := tk) fun _ _ z => z, rfl, q⟩
@[simp ↓] def mIsE (i : Nat) (a : Addr) (b : Bool) (ρ : DEnv) (Q : D → Prop) (_ : Xn → Prop) : Prop := look ρ i = some (.dat (.adr a)) ∧ Q (.bl b)
theorem mIsE_var {a : Addr} {b : Bool} {ρ : DEnv} {Q : D → Prop} {E : Xn → Prop} (h : mIsE i a b ρ Q E) : mVar i ρ (fun d => d = .adr a ∧ Q (.bl b)) E := by
  obtain ⟨h1, h2⟩ := h
  unfold mVar
  rw [h1]
  exact ⟨rfl, h2⟩
theorem pd_isEc (hp : p ∈ X.pn) (hx : ErrO X.K Y.A0 Y.H0 p xn) (T : L2.ExcC X.K xn.C) (hm : X.mg "isinstance" = none) (hT : PE X (.Name x q2) (tC c)) (hcv : ∀ u, L2.RelV c u → u = cv) (hk : PySem.W.kitOne X.K (.ref xn.C) cv = some b)
    (hN : X.N[i]? = some e) (hv : Vis X.env.scope e) (hd : (e == ("__debug__" : Str)) = false) (hcd : (e == ("__classdict__" : Str)) = false) (hg : Gl X "isinstance")
    (he : starEach [.Name e q1, .Name x q2] X.env = (false, eval (.Name e q1) X.env) :: starEach [.Name x q2] X.env) (he2 : starEach [.Name x q2] X.env = (false, eval (.Name x q2) X.env) :: starEach [] X.env)
    (hpl : (backTo pos (starEach [.Name x q2] X.env)).any (·.1) = false) : PD X Y (.Call (.Name "isinstance" q) [.Name e q1, .Name x q2] [] pos) (mIsE i p.1 b) := by
  obtain ⟨dd, vs, hz, hdd, hl, r0⟩ := hx.ex
  refine pe_imp (pe_callB (call_isE2 hp T hz hx.flds) hg hm PyProof.Rows.boot_isinstance (pa_cons (pd_var (Y := Y) hN hv hd hcd) (pa_cons hT pa_nil he2) he) (by decide) (by decide) he hpl) fun σ H Q ⟨A, ρ, Qd, E, env, ex, hm, k⟩ => ⟨A, ρ, _, E, env, ex, mIsE_var hm, fun v H1 d g r f => ?_⟩
  obtain ⟨ed, f⟩ := f
  subst ed
  cases r
  exact ⟨c, cv, b, _, rfl, hcv, hk, Y.G.ext (Y.G.trans env.go g) _ _ hdd (fun _ z => nomatch z), k _ _ _ g (.bl _) f⟩
theorem pd_isE (hp : p ∈ X.pn) (hx : ErrO X.K Y.A0 Y.H0 p xn) (T : L2.ExcC X.K xn.C) (hm : X.mg "isinstance" = none) (hC : X.mg x = some (.ref C)) (hk : PySem.W.kitOne X.K (.ref xn.C) (.ref C) = some b)
    (hN : X.N[i]? = some e := by rfl) (hv : Vis X.env.scope e := by first | exact Or.inl rfl | exact Or.inr (Or.inl rfl) | exact Or.inr (Or.inr rfl)) (hd : (e == ("__debug__" : Str)) = false := by decide) (hcd : (e == ("__classdict__" : Str)) = false := by decide) (hg : Gl X "isinstance" := by rfl) (hgC : Gl X x := by rfl) (hdC : (x == ("__debug__" : Str)) = false := by decide)
    (he : starEach [.Name e q1, .Name x q2] X.env = (false, eval (.Name e q1) X.env) :: starEach [.Name x q2] X.env := by rfl) (he2 : starEach [.Name x q2] X.env = (false, eval (.Name x q2) X.env) :: starEach [] X.env := by rfl)
    (hpl : (backTo pos (starEach [.Name x q2] X.env)).any (·.1) = false := by rfl) : PD X Y (.Call (.Name "isinstance" q) [.Name e q1, .Name x q2] [] pos) (mIsE i p.1 b) :=
  pd_isEc hp hx T hm (pe_glob (v := .ref C) hgC hC rfl hdC) (fun _ h => h) hk hN hv hd hcd hg he he2 hpl
theorem pd_isEB {t : String} (hp : p ∈ X.pn) (hx : ErrO X.K Y.A0 Y.H0 p xn) (T : L2.ExcC X.K xn.C) (hm : X.mg "isinstance" = none) (hC : X.mg x = none) (hk : PySem.W.kitOne X.K (.ref xn.C) (.type t) = some b) (hbt : bootBuiltins x = some (.type t) := by decide +kernel)
    (hN : X.N[i]? = some e := by rfl) (hv : Vis X.env.scope e := by first | exact Or.inl rfl | exact Or.inr (Or.inl rfl) | exact Or.inr (Or.inr rfl)) (hd : (e == ("__debug__" : Str)) = false := by decide) (hcd : (e == ("__classdict__" : Str)) = false := by decide) (hg : Gl X "isinstance" := by rfl) (hgC : Gl X x := by rfl) (hnC : x ≠ "__name__" := by decide) (hdC : (x == ("__debug__" : Str)) = false := by decide)
    (he : starEach [.Name e q1, .Name x q2] X.env = (false, eval (.Name e q1) X.env) :: starEach [.Name x q2] X.env := by rfl) (he2 : starEach [.Name x q2] X.env = (false, eval (.Name x q2) X.env) :: starEach [] X.env := by rfl)
    (hpl : (backTo pos (starEach [.Name x q2] X.env)).any (·.1) = false := by rfl) : PD X Y (.Call (.Name "isinstance" q) [.Name e q1, .Name x q2] [] pos) (mIsE i p.1 b) :=
  pd_isEc hp hx T hm (pe_bltn (v := .ty t) hgC hC hbt rfl hnC hdC) (fun _ h => h) hk hN hv hd hcd hg he he2 hpl
theorem pe_xf2 {e : Expr} {te : TE} {n : Str} (hp : p ∈ X.pn) (T : XfC X.K C) (hno : PySem.W.findIn X.K (.ref C) n = some none) (hz : Zc (.ref C) (some dd) p.2) (hf : ∃ vs, p.2.data = .fields vs) (he : PE X e te)
    (hb : attributeBase e n X.env (eval e X.env) = eval e X.env) : PE X (.Attribute e n pos) (fun σ H Q => te σ H fun y H1 => y = .ref p.1 ∧ ∃ fs v, H1 dd = some (.xd fs) ∧ fs.lookup n = some v ∧ Q v H1) := by
  refine ⟨fun pins s σ H Q I h => ?_⟩
  refine attr_of hb (thn (he.run pins s σ H _ I h) fun u s1 hh => ?_)
  obtain ⟨y, H1, I1, rx, ex, fs, v, ea, l, q⟩ := hh
  subst ex
  obtain rfl : u = Value.ref p.1 := rx
  obtain ⟨ha, _⟩ := I1.pin p (List.mem_append_left _ hp)
  obtain ⟨vs, hd⟩ := hf
  have hx : ObjOk X.prog X.w H1 s1.heap dd (.xd fs) := I1.hok dd _ ea
  obtain ⟨mA, hns, hr⟩ := hx
  obtain ⟨od, ho, hl⟩ := lookIn_ns hns
  obtain ⟨u, hu, ru⟩ := RelO.some_of (v := v) (o := mA n) (by rw [← l]; exact hr n)
  have J : PySem.W.InstAt s1.heap p.1 p.2 C (some od) := ⟨ha, hz.1, by unfold PySem.W.notCls; rw [hd] <;> rfl, by rw [hz.2]; exact ho⟩
  exact HandSPX.exc_get I1.kIn J T.ga T.gg T.exC (PySem.W.findObj_own T.hdC hno rfl (by rw [hl, hu])) (handed_of ru) ⟨v, H1, I1.tok _, ru, q⟩
/-- e.f -/
@[simp ↓] def mXf (i : Nat) (a : Addr) (j : Nat) (ds : List D) (ρ : DEnv) (Q : D → Prop) (_ : Xn → Prop) : Prop := look ρ i = some (.dat (.adr a)) ∧ optQ ds[j]? Q
theorem pd_xf {j : Nat} (hp : p ∈ X.pn) (hok : AOk Y.A0 Y.H0) (hx : ErrO X.K Y.A0 Y.H0 p xn) (T : XfC X.K xn.C) (hno : PySem.W.findIn X.K (.ref xn.C) f = some none) (hj : ixF f xn.ks = some j)
    (hN : X.N[i]? = some e := by rfl) (hv : Vis X.env.scope e := by first | exact Or.inl rfl | exact Or.inr (Or.inl rfl) | exact Or.inr (Or.inr rfl)) (hd : (e == ("__debug__" : Str)) = false := by decide) (hcd : (e == ("__classdict__" : Str)) = false := by decide)
    (hb : attributeBase (.Name e q1) f X.env (eval (.Name e q1) X.env) = eval (.Name e q1) X.env := by rfl) : PD X Y (.Attribute (.Name e q1) f pos) (mXf i p.1 j xn.ds) := by
  obtain ⟨dd, vs, hz, hdd, hl, r0⟩ := hx.ex
  refine pe_imp (pe_xf2 hp T hno hz hx.flds (pd_var (Y := Y) hN hv hd hcd) hb) fun σ H Q ⟨A, ρ, Qd, E, env, ex, hm, k⟩ => ⟨A, ρ, fun d => d = .adr p.1 ∧ optQ xn.ds[j]? Qd, E, env, ex, ?_, fun v H1 d g r q => ?_⟩
  · unfold mVar
    rw [hm.1]
    exact ⟨rfl, hm.2⟩
  · obtain ⟨e1, q⟩ := q
    subst e1
    cases r
    obtain ⟨z, hz2, q⟩ := optQ_some q
    obtain ⟨v', hv', rv⟩ := r0.get hz2
    have go := Y.G.trans env.go g
    exact ⟨rfl, _, v', Y.G.ext go _ _ hdd (fun _ z => nomatch z), (ixF_some hj hl).trans hv', k _ _ _ g (rv.move hok (.ext (Y.G.ext go)) env.fr) q⟩
end
/-- what the written part says of the error's class -/
structure ErrF (K : PySem.W.Frag) (mg : Str → Option Value) (own : List Str) (x : Xn) (bf : Str → Bool) : Prop where
  exc : L2.ExcC K x.C
  xf : XfC K x.C
  no : ∀ f ∈ x.ks, PySem.W.findIn K (.ref x.C) f = some none
  own : ∀ T ∈ own, ∃ CT, mg T = some (.ref CT) ∧ PySem.W.kitOne K (.ref x.C) (.ref CT) = some (bf T)
  val0 : mg "ValueError" = none
  val : PySem.W.kitOne K (.ref x.C) (.type "ValueError") = some (bf "ValueError")
/-- e.f, if there is one -/
@[simp ↓] def mXfO (i : Nat) (a : Addr) (ks : List Str) (ds : List D) (f : Str) (ρ : DEnv) (Q : D → Prop) (E : Xn → Prop) : Prop := look ρ i = some (.dat (.adr a)) ∧ optQ (ixF f ks) fun j => optQ ds[j]? Q
theorem ixF_mem {f : Str} : ∀ {ks : List Str} {j : Nat}, ixF f ks = some j → f ∈ ks
  | [], _, h => by cases h
  | k :: r, j, h => by
    unfold ixF at h
    by_cases e : f = k
    · rw [e]; exact List.mem_cons_self ..
    · rw [if_neg e] at h
      cases q : ixF f r with
      | none => rw [q] at h; cases h
      | some i => exact List.mem_cons_of_mem _ (ixF_mem q)
section
variable {X : Cx} {Y : Yx} {p : Addr × Obj} {C dd : Addr} {e x f : Str} {i : Nat} {xn : Xn} {pos q q1 q2 : Pos} {own : List Str} {bf : Str → Bool}
theorem pd_isEx (hp : p ∈ X.pn) (hx : ErrO X.K Y.A0 Y.H0 p xn) (B : ErrF X.K X.mg own xn bf) (hm : X.mg "isinstance" = none) (ho : x ∈ own := by decide)
    (hN : X.N[i]? = some e := by rfl) (hv : Vis X.env.scope e := by first | exact Or.inl rfl | exact Or.inr (Or.inl rfl) | exact Or.inr (Or.inr rfl)) (hd : (e == ("__debug__" : Str)) = false := by decide) (hcd : (e == ("__classdict__" : Str)) = false := by decide) (hg : Gl X "isinstance" := by rfl) (hgC : Gl X x := by rfl) (hdC : (x == ("__debug__" : Str)) = false := by decide)
    (he : starEach [.Name e q1, .Name x q2] X.env = (false, eval (.Name e q1) X.env) :: starEach [.Name x q2] X.env := by rfl) (he2 : starEach [.Name x q2] X.env = (false, eval (.Name x q2) X.env) :: starEach [] X.env := by rfl)
    (hpl : (backTo pos (starEach [.Name x q2] X.env)).any (·.1) = false := by rfl) : PD X Y (.Call (.Name "isinstance" q) [.Name e q1, .Name x q2] [] pos) (mIsE i p.1 (bf x)) := by
  obtain ⟨CT, h1, h2⟩ := B.own x ho
  exact pd_isE hp hx B.exc hm h1 h2 hN hv hd hcd hg hgC hdC he he2 hpl
theorem pd_isEV (hp : p ∈ X.pn) (hx : ErrO X.K Y.A0 Y.H0 p xn) (B : ErrF X.K X.mg own xn bf) (hm : X.mg "isinstance" = none)
    (hN : X.N[i]? = some e := by rfl) (hv : Vis X.env.scope e := by first | exact Or.inl rfl | exact Or.inr (Or.inl rfl) | exact Or.inr (Or.inr rfl)) (hd : (e == ("__debug__" : Str)) = false := by decide) (hcd : (e == ("__classdict__" : Str)) = false := by decide) (hg : Gl X "isinstance" := by rfl) (hgC : Gl X "ValueError" := by rfl)
    (he : starEach [.Name e q1, .Name "ValueError" q2] X.env = (false, eval (.Name e q1) X.env) :: starEach [.Name "ValueError" q2] X.env := by rfl) (he2 : starEach [.Name "ValueError" q2] X.env = (false, eval (.Name "ValueError" q2) X.env) :: starEach [] X.env := by rfl)
    (hpl : (backTo pos (starEach [.Name "ValueError" q2] X.env)).any (·.1) = false := by rfl) : PD X Y (.Call (.Name "isinstance" q) [.Name e q1, .Name "ValueError" q2] [] pos) (mIsE i p.1 (bf "ValueError")) :=
  pd_isEB (t := "ValueError") hp hx B.exc hm B.val0 B.val (by decide +kernel) hN hv hd hcd hg hgC (by decide) (by decide) he he2 hpl
theorem pd_xfO (hp : p ∈ X.pn) (hok : AOk Y.A0 Y.H0) (hx : ErrO X.K Y.A0 Y.H0 p xn) (B : ErrF X.K X.mg own xn bf)
    (hN : X.N[i]? = some e := by rfl) (hv : Vis X.env.scope e := by first | exact Or.inl rfl | exact Or.inr (Or.inl rfl) | exact Or.inr (Or.inr rfl)) (hd : (e == ("__debug__" : Str)) = false := by decide) (hcd : (e == ("__classdict__" : Str)) = false := by decide)
    (hb : attributeBase (.Name e q1) f X.env (eval (.Name e q1) X.env) = eval (.Name e q1) X.env := by rfl) : PD X Y (.Attribute (.Name e q1) f pos) (mXfO i p.1 xn.ks xn.ds f) := by
  cases w : ixF f xn.ks with
  | none => exact ⟨fun pins s σ H Q I ⟨A, ρ, Qd, E, env, ex, hm, k⟩ => by
      unfold mXfO at hm
      rw [w] at hm
      exact hm.2.elim⟩
  | some j =>
    refine pe_imp (pd_xf hp hok hx B.xf (B.no f (ixF_mem w)) w hN hv hd hcd hb) fun σ H Q ⟨A, ρ, Qd, E, env, ex, hm, k⟩ => ⟨A, ρ, Qd, E, env, ex, ?_, k⟩
    unfold mXfO at hm
    rw [w] at hm
    exact hm
end
end WL
/-! ### a lambda, with a default or none, handed to a def that tries it -/
namespace WL
open L2 PySem PySem.Spec PyProof.Rows
open LamX (ExtN TabS Tabs CodeO TabB lamEnv lamCx inv_table among_app codeO_ne)
/-- the lambda's function object, and what its binding leans on -/
abbrev lamFn (X : Cx) (params : Arguments) (body : Expr) (scope : Scope) (dV doc pm : Value) (c' : Addr) (ctv : Value) : FuncData :=
  PySem.W.kdv_fn "<lambda>" (X.env.qual ++ "<lambda>") params (.expr body) scope (cloFrom X.env.cells scope.names []) dV doc pm (.ref c') ctv
abbrev lamOb (X : Cx) (params : Arguments) (body : Expr) (scope : Scope) (dV doc pm : Value) (c' : Addr) (ctv : Value) : Obj :=
  PySem.W.kdv_obj "<lambda>" (X.env.qual ++ "<lambda>") params (.expr body) scope (cloFrom X.env.cells scope.names []) dV doc pm c' ctv
section
variable {X : Cx} {pins : List (Addr × Obj)} {σ : L2.St} {H : Hp} {s : Shared}
/-- the making's end: the code object new or found -/
theorem lam_tail {T : List (Addr × Str)} {c P : Addr} {params : Arguments} {body : Expr} {scope : Scope} {pos : Pos} {fl : Nat} {dV : Value} {E Q : Value → Shared → Prop} (I : Inv X pins σ H s) (TB : TabB X.base X.mg c P) (hcode : X.env.code = .ref c)
    (hm : (P, X.env.qual ++ "<lambda>") ∈ T) (hu : ∀ p ∈ T, p.1 = P → p.2 = X.env.qual ++ "<lambda>") (hT : Tabs T H) (hfree : ∀ y ∈ scope.names, y.2 = .free → ∃ c, X.env.cells.lookup y.1 = some c)
    (k : ∀ (f c' : Addr) (doc pm ctv : Value) (H1 : Hp) (s' : Shared), Inv X pins σ H1 s' → ExtN H H1 → Tabs T H1 → s'.heap.get? f = some (lamOb X params body scope dV doc pm c' ctv) → H1 f = none → f ∉ frs X.stack → H1 c' = some (CodeO c' (X.env.qual ++ "<lambda>")) →
      (∀ b o, s.heap.get? b = some o → H b = none → s'.heap.get? b = some o ∧ H1 b = none) → Q (.ref f) s') :
    wpAny (model X.prog X.w) X.A (makeTail "<lambda>" (X.env.qual ++ "<lambda>") params (.expr body) scope X.env dV .none none pos fl) Q E s := by
  obtain ⟨ps, hP, ht, ha⟩ := hT _ hm
  have bP : s.heap.BuiltinsAt X.mg P := TB.bm.keeps I.bk
  have gP : s.heap.get? P = some { cls := .none, data := .fields ps } := I.hok P _ hP
  have nfr : ∀ f, s.heap.objs.size ≤ f → f ∉ frs X.stack := fun f hf z => by
    rcases List.mem_cons.mp (I.stkSub _ z) with e | e
    · have h1 := I.lt
      rw [← e] at h1
      exact absurd h1 (Nat.not_lt.mpr hf)
    · exact I.nofs hf e
  cases hc : codeAmong pos ps.toList with
  | some cv =>
    obtain ⟨c', e, hco⟩ := ha pos cv hc
    subst e
    refine PySem.W.kdv_makeTailHit (mg := X.mg) (c := c) (P := P) (ps := ps) (closure_ok hfree) I.ok.glob (I.mod.glob.keeps I.bk) hcode (TB.code.keeps I.bk) gP ht hc bP fun ctv doc h' tk hx hsz => ?_
    have up : ∀ b o, s.heap.get? b = some o → (h'.push (lamOb X params body scope dV doc ((X.mg "__name__").getD .none) c' ctv)).get? b = some o := fun b o e => Heap.get?_push_of_some _ (hx b o e)
    exact k h'.objs.size c' doc ((X.mg "__name__").getD .none) ctv H _ (I.kept (t' := tk) up) (ExtN.refl H) hT (Heap.get?_push_size _ rfl) (I.hok.fresh hsz) (nfr _ hsz) hco fun b o e n => ⟨up b o e, n⟩
  | none =>
    refine PySem.W.kdv_makeTail (mg := X.mg) (c := c) (P := P) (ps := ps) (closure_ok hfree) I.ok.glob (I.mod.glob.keeps I.bk) hcode (TB.code.keeps I.bk) gP ht hc TB.gP bP fun c' ctv doc h' tk hx hge hlt hrec htb => ?_
    obtain ⟨c2, oc, vs, t, e2, hoc, hd, hv⟩ := hrec
    cases e2
    have hsz : s.heap.objs.size ≤ h'.objs.size := by omega
    have nC : H c' = none := I.hok.fresh hge
    have up : ∀ b o, b ≠ P → s.heap.get? b = some o → (h'.push (lamOb X params body scope dV doc ((X.mg "__name__").getD .none) c' ctv)).get? b = some o := fun b o hb e => Heap.get?_push_of_some _ (hx b o hb e)
    have J := inv_table (t' := tk) (more := #[rawInt pos.line, rawInt pos.col, .ref c']) I hP up (Heap.get?_push_of_some _ htb) hge ⟨oc, vs, t, Heap.get?_push_of_some _ hoc, hd, hv⟩
    have at_ : ∀ b, b ≠ P → b ≠ c' → upd (upd H P (.tbl (ps ++ #[rawInt pos.line, rawInt pos.col, .ref c']))) c' (CodeO c' (X.env.qual ++ "<lambda>")) b = H b := fun b h1 h2 => by rw [upd_ne h2, upd_ne h1]
    have X1 : ExtN H (upd (upd H P (.tbl (ps ++ #[rawInt pos.line, rawInt pos.col, .ref c']))) c' (CodeO c' (X.env.qual ++ "<lambda>"))) := fun b o e n => (at_ b (fun z => n ps (by rw [z, hP] at e; exact (Option.some.inj e).symm)) (ne_of_none e nC)).trans e
    have eL : (ps ++ #[rawInt pos.line, rawInt pos.col, .ref c']).toList = ps.toList ++ [rawInt pos.line, rawInt pos.col, .ref c'] := by simp
    have nF : h'.objs.size ≠ c' := by omega
    have nP : h'.objs.size ≠ P := Nat.ne_of_gt (Nat.lt_of_lt_of_le (Heap.lt_size gP) hsz)
    refine k h'.objs.size c' doc ((X.mg "__name__").getD .none) ctv _ _ J X1 (fun p hp => ?_) (Heap.get?_push_size _ rfl) ((at_ _ nP nF).trans (I.hok.fresh hsz)) (nfr _ hsz) upd_same fun b o e n => ⟨up b o (fun z => by rw [z, hP] at n; cases n) e, ?_⟩
    · by_cases hb : p.1 = P
      · rw [hu p hp hb, hb]
        refine ⟨_, (upd_ne (ne_of_none hP nC)).trans upd_same, by rw [eL]; exact PySem.TriplesOk_snoc _ _ _ _ ht, fun p' cv hcv => ?_⟩
        rw [eL] at hcv
        rcases among_app _ ht hcv with z | z
        · obtain ⟨c0, e1, e2⟩ := ha p' cv z
          exact ⟨c0, e1, X1 _ _ e2 codeO_ne⟩
        · exact ⟨c', z, upd_same⟩
      · obtain ⟨ps', a1, a2, a3⟩ := hT p hp
        refine ⟨ps', (at_ _ hb (ne_of_none a1 nC)).trans a1, a2, fun p' cv hcv => ?_⟩
        obtain ⟨c0, e1, e2⟩ := a3 p' cv hcv
        exact ⟨c0, e1, X1 _ _ e2 codeO_ne⟩
    · exact (at_ b (fun z => by rw [z, hP] at n; cases n) (Nat.ne_of_lt (Nat.lt_of_lt_of_le (Heap.lt_size e) hge))).trans n
end
/-- its parameters: none, or one that has an int for a default -/
inductive LamDef (params : Arguments) (body : Expr) (scope : Scope) : Prop
  | zero : params.defaults = [] → params.kw_defaults = [] → (∀ (q : Str) (cl : List (Str × Addr)) (doc pm cv ctv : Value), bindArgs (PySem.W.kdv_fn "<lambda>" q params (.expr body) scope cl .none doc pm cv ctv) ⟨[], []⟩ = pure []) → LamDef params body scope
  | one (a : Str) (z : Int) (j : Nat) (p : Pos) : params.defaults = [.Constant (.int z) j p] → params.kw_defaults = [] → scope.names.lookup a = some .local →
      (∀ (q : Str) (cl : List (Str × Addr)) (t : Addr) (doc pm cv ctv : Value), ∃ k : Option (Array Value) → Sem (List (Str × Value)), bindArgs (PySem.W.kdv_fn "<lambda>" q params (.expr body) scope cl (.ref t) doc pm cv ctv) ⟨[], []⟩ = seqItems? (.ref t) >>= k ∧ ∀ v, k (some #[v]) = pure [(a, v)]) → LamDef params body scope
/-- what stands for the lambda: fd at f, the objects of ob; they bind as they should -/
structure LamO (X : Cx) (params : Arguments) (body : Expr) (scope : Scope) (f c' : Addr) (fd : FuncData) (ob : List (Addr × Obj)) : Prop where
  eq : ∃ dV doc pm ctv, fd = lamFn X params body scope dV doc pm c' ctv
  at_ : ∃ o, (f, o) ∈ ob ∧ o.cls = .type "function" ∧ o.data = .func fd
  bd : ∀ s : Shared, (∀ p ∈ ob, s.heap.get? p.1 = some p.2) → ∃ bs, BindsTo s fd ⟨[], []⟩ bs ∧ ∀ y ∈ bs, scope.names.lookup y.1 = some .local
section
variable {X : Cx} {pins : List (Addr × Obj)} {σ : L2.St} {H : Hp} {s : Shared}
theorem lam_makeV {T : List (Addr × Str)} {c P : Addr} {params : Arguments} {body : Expr} {scope : Scope} {pos : Pos} {E Q : Value → Shared → Prop} (D : LamDef params body scope) (I : Inv X pins σ H s) (TB : TabB X.base X.mg c P) (hcode : X.env.code = .ref c)
    (hm : (P, X.env.qual ++ "<lambda>") ∈ T) (hu : ∀ p ∈ T, p.1 = P → p.2 = X.env.qual ++ "<lambda>") (hT : Tabs T H) (hfree : ∀ y ∈ scope.names, y.2 = .free → ∃ c, X.env.cells.lookup y.1 = some c)
    (k : ∀ (f c' : Addr) (fd : FuncData) (ob : List (Addr × Obj)) (H1 : Hp) (s' : Shared), Inv X pins σ H1 s' → ExtN H H1 → Tabs T H1 → LamO X params body scope f c' fd ob → (∀ p ∈ ob, s'.heap.get? p.1 = some p.2 ∧ H1 p.1 = none ∧ p.1 ∉ frs X.stack) → H1 c' = some (CodeO c' (X.env.qual ++ "<lambda>")) → Q (.ref f) s') :
    wpAny (model X.prog X.w) X.A (eval (.Lambda params body scope pos) X.env) Q E s := by
  cases D with
  | zero h1 h2 hb =>
    refine PySem.W.kla_eval (by rw [defaultsOf_eq, h1, h2]; rfl) ?_
    rw [makeFunction_eq]
    simp only [List.zip_nil_right, List.filterMap_nil, List.isEmpty_nil, if_true, pure_bind]
    refine lam_tail I TB hcode hm hu hT hfree fun f c' doc pm ctv H1 s' J e1 T1 hf nf nfr hco kp => k f c' _ [(f, lamOb X params body scope .none doc pm c' ctv)] H1 s' J e1 T1 ⟨⟨_, _, _, _, rfl⟩, ⟨_, List.mem_singleton.mpr rfl, rfl, rfl⟩, fun s2 hs => ⟨[], BindsTo.of_eq (hb _ _ _ _ _ _), fun y hy => (List.not_mem_nil hy).elim⟩⟩ (fun p hp => ?_) hco
    rw [List.mem_singleton.mp hp]
    exact ⟨hf, nf, nfr⟩
  | one a z j p h1 h2 hl hb =>
    refine PySem.W.kdv_lam (by rw [h1]; rfl) h2 ?_
    rw [h1]
    refine PySem.W.kdv_all1 (wpAny_Constant_int (PySem.W.kdv_all0 ?_))
    rw [makeFunction_eq]
    simp only [List.zip_nil_right, List.filterMap_nil, List.isEmpty_nil, List.isEmpty_cons, Bool.false_eq_true, if_true, if_false, pure_bind]
    refine wpAny_bind (wpAny_newTextTuple ?_)
    have I1 : Inv X pins σ H { s with heap := s.heap.push (PySem.W.kdv_tup [.int z s.toks]), toks := s.toks + 1 } := I.kept (t' := s.toks + 1) fun b o e => Heap.get?_push_of_some _ e
    have gt : (s.heap.push (PySem.W.kdv_tup [.int z s.toks])).get? s.heap.objs.size = some (PySem.W.kdv_tup [.int z s.toks]) := Heap.get?_push_size _ rfl
    have nt : H s.heap.objs.size = none := I.hok.fresh (Nat.le_refl _)
    have ntf : s.heap.objs.size ∉ frs X.stack := fun z => by
      rcases List.mem_cons.mp (I.stkSub _ z) with e | e
      · have h1 := I.lt
        rw [← e] at h1
        exact absurd h1 (Nat.lt_irrefl _)
      · exact I.nofs (Nat.le_refl _) e
    refine lam_tail I1 TB hcode hm hu hT hfree fun f c' doc pm ctv H1 s' J e1 T1 hf nf nfr hco kp => k f c' _ [(f, lamOb X params body scope (.ref s.heap.objs.size) doc pm c' ctv), (s.heap.objs.size, PySem.W.kdv_tup [.int z s.toks])] H1 s' J e1 T1 ⟨⟨_, _, _, _, rfl⟩, ⟨_, List.mem_cons_self .., rfl, rfl⟩, fun s2 hs => ?_⟩ (fun p hp => ?_) hco
    · obtain ⟨kk, b1, b2⟩ := hb (X.env.qual ++ "<lambda>") (cloFrom X.env.cells scope.names []) s.heap.objs.size doc pm (.ref c') ctv
      refine ⟨[(a, .int z s.toks)], BindsTo.of_defaults rfl (hs (s.heap.objs.size, PySem.W.kdv_tup [.int z s.toks]) (by simp)) rfl b1 (b2 _), fun y hy => ?_⟩
      rw [List.mem_singleton.mp hy]
      exact hl
    · rcases List.mem_cons.mp hp with e | hp
      · rw [e]
        exact ⟨hf, nf, nfr⟩
      · rw [List.mem_singleton.mp hp]
        exact ⟨(kp _ _ gt nt).1, (kp _ _ gt nt).2, ntf⟩
end
/-! ### the lambda's frame -/
structure LamS2 (X : Cx) (scope : Scope) : Prop where
  kind : scope.kind = .function
  co : scope.isCoroutine = false
  gen : scope.isGenerator = false
  nocell : ∀ y ∈ scope.names, y.2 ≠ .cell
  loc : ∀ y ∈ scope.names, y.2 = .local → y.1 ∉ X.N
  free : ∀ y ∈ scope.names, y.2 = .free → X.env.scope.names.lookup y.1 = some .cell ∨ X.env.scope.names.lookup y.1 = some .free
def lamS2B (N : List Str) (sc scope : Scope) : Bool :=
  (decide (scope.kind = .function) && (!scope.isCoroutine && !scope.isGenerator)) && scope.names.all fun y => !decide (y.2 = .cell) && ((!decide (y.2 = .local) || !decide (y.1 ∈ N)) && (!decide (y.2 = .free) || (decide (sc.names.lookup y.1 = some .cell) || decide (sc.names.lookup y.1 = some .free))))
theorem lamS2_by {X : Cx} {scope : Scope} (h : lamS2B X.N X.env.scope scope = true) : LamS2 X scope := by
  unfold lamS2B at h
  simp only [Bool.and_eq_true, Bool.or_eq_true, Bool.not_eq_true', decide_eq_true_eq, decide_eq_false_iff_not, List.all_eq_true] at h
  obtain ⟨⟨k1, k2, k3⟩, k4⟩ := h
  refine ⟨k1, k2, k3, fun y hy => (k4 y hy).1, fun y hy e => ?_, fun y hy e => ?_⟩
  · rcases (k4 y hy).2.1 with z | z
    · exact absurd e z
    · exact z
  · rcases (k4 y hy).2.2 with z | z
    · exact absurd e z
    · exact z
theorem LamS2.has {X : Cx} {scope : Scope} (L : LamS2 X scope) (ok : X.Ok) : ∀ y ∈ scope.names, y.2 = .free → ∃ c, X.env.cells.lookup y.1 = some c := fun y hy e => ok.has _ (L.free y hy e)
section
variable {X : Cx} {pins : List (Addr × Obj)} {σ : L2.St} {H HZ : Hp} {s s1 : Shared}
theorem lam_startV {A : Around} {outer : List Env} {E : XK} {scope : Scope} {f c' : Addr} {h1 : Heap} {tk : Nat} {m : Str → Option Value} (I : Inv X pins σ H s) (L : LamS2 X scope) (e0 : Env0 X.prog X.w X.K X.mg X.base A outer s1 HZ) (hd : A.handled = none)
    (un : Un (frs X.stack) [] H HZ s.heap s1.heap) (hns : h1.Ns s1.heap.objs.size m) (kp : ∀ b o, s1.heap.get? b = some o → h1.get? b = some o) :
    Inv (lamCx X A outer s1 HZ E scope f c') [] σ HZ { s1 with heap := h1, toks := tk } := by
  have back : ∀ {y c}, (cloFrom X.env.cells scope.names []).lookup y = some c → X.env.cells.lookup y = some c := fun {y c} e => by
    rcases cloFrom_mem (PySem.mem_of_lookup e) with hm | ⟨h1, h2⟩
    · cases hm
    · obtain ⟨c1, hc⟩ := L.has I.ok _ h1 rfl
      have hc2 : X.env.cells.lookup y = some c1 := hc
      rw [hc2] at h2
      rw [hc2, h2]
      rfl
  have there : ∀ {y}, scope.names.lookup y = some .free → ∃ c, (cloFrom X.env.cells scope.names []).lookup y = some c := fun {y} hl => by
    have hy : (y, NameKind.free) ∈ scope.names := PySem.mem_of_lookup hl
    exact mem_lookup (cloFrom_has (cells := X.env.cells) (acc := []) hy)
  have cellK : ∀ {c : Addr} {v : Option Value}, H c = none → s.heap.IsCell c v → h1.IsCell c v := fun {c v} n ⟨o, ho, hd⟩ => by
    obtain ⟨sl, q⟩ := un.any ho n (by simp)
    exact ⟨_, kp _ _ q, hd⟩
  have noA : ∀ b : Addr, b ∉ (lamCx X A outer s1 HZ E scope f c').ex := fun b z => (List.not_mem_nil z).elim
  refine ⟨⟨e0.mod, L.kind, rfl, rfl, Nat.le_refl _, fun y z c e1 e2 => I.ok.inj y z c (back e1) (back e2), fun y hy => ?_, fun y c z _ => (Bool.false_ne_true z).elim, fun _ => hd, Around.frames_deeper e0.frames, .inr ⟨rfl, rfl⟩, fun b z => absurd z (noA b), e0.bs, e0.bsz, fun b _ _ => noA b,
      fun b z => absurd z (noA b), e0.funs, e0.frf⟩,
    rfl, e0.bare, Un.kept kp, ⟨_, hns, fun i y v e1 e2 e3 => ?_⟩, fun y c e => ?_, e0.hok.fresh (Nat.le_refl _), fun y c e => ?_, fun q hq => absurd (show q ∈ ([] : List (Addr × Obj)) ++ [] from hq) (by simp), e0.hok.kept kp, I.len⟩
  · have hy : scope.names.lookup y = some .cell ∨ scope.names.lookup y = some .free := hy
    rcases hy with hy | hy
    · exact absurd rfl (L.nocell _ (PySem.mem_of_lookup hy))
    · exact there hy
  · have e3 : Vis scope y := e3
    rcases e3 with k | k | k
    · exact absurd (List.mem_of_getElem? e1) (L.loc _ (PySem.mem_of_lookup k) rfl)
    · exact absurd rfl (L.nocell _ (PySem.mem_of_lookup k))
    · obtain ⟨m, hn, hl⟩ := I.loc
      have hvis : Vis X.env.scope y := (L.free _ (PySem.mem_of_lookup k) rfl).elim (fun k => .inr (.inl k)) (fun k => .inr (.inr k))
      obtain ⟨w', r, q⟩ := hl i y v e1 e2 hvis
      obtain ⟨c2, h2⟩ := there k
      refine ⟨w', r, .inr ⟨.inr k, c2, h2, ?_⟩⟩
      have c1 := back h2
      rcases q with ⟨k', _⟩ | ⟨_, c3, e', z⟩
      · have k' : X.env.scope.names.lookup y = some .local := k'
        rcases L.free _ (PySem.mem_of_lookup k) rfl with k2 | k2 <;> rw [show X.env.scope.names.lookup y = _ from k2] at k' <;> cases k'
      · rw [c1] at e'
        cases e'
        exact cellK (I.freeC y _ c1) z
  · obtain ⟨w', z⟩ := I.cell y c (back e)
    exact ⟨w', cellK (I.freeC y c (back e)) z⟩
  · obtain ⟨v, o, ho, hd⟩ := I.cell y c (back e)
    exact un.free c o ho (I.freeC y c (back e)) (by simp)
/-- a(), in the def that got the lambda -/
theorem pe_actV {CXg : CXT} {Eg : XK} {Ng : List Str} {qg : Str} {sg : Scope} {g f c' : Addr} {cdg : Value} {params : Arguments} {body : Expr} {scope : Scope} {fd : FuncData} {ob : List (Addr × Obj)} {k i : Nat} {a : Str} {pn : List (Addr × Obj)} {xe : Value → Shared → Prop} {W : WX} {E : XK} {tb : TE} {p1 p2 : Pos}
    (I : Inv X pins σ H s) (L : LamS2 X scope) (O : LamO X params body scope f c' fd ob) (hob : ∀ p ∈ ob, s.heap.get? p.1 = some p.2 ∧ H p.1 = none ∧ p.1 ∉ frs X.stack)
    (tk : Takes ((cxOf CXg X.prog X.w X.K X.mg X.base Ng qg sg g cdg X.A X.stack s H Eg).tr pn xe) W) (hW : ∀ cls d σ' H', σ'.length = Ng.length → E cls d H' → W cls d σ' H') (hr : Room (k + 1) (X.A.deeper (envOfC qg sg s.heap.objs.size g cdg)))
    (hbody : ∀ (A : Around) (outer : List Env) (s : Shared) (H : Hp), Room k (A.deeper (lamEnv X scope s.heap.objs.size f c')) → PE (lamCx X A outer s H E scope f c') body tb)
    (hN : Ng[i]? = some a) (hv : Vis sg a) (hd : (a == ("__debug__" : Str)) = false) (hcd : (a == ("__classdict__" : Str)) = false) :
    PE ((cxOf CXg X.prog X.w X.K X.mg X.base Ng qg sg g cdg X.A X.stack s H Eg).tr pn xe) (.Call (.Name a p1) [] [] p2)
      (fun σZ HZ Q => σZ[i]? = some (some (.ref f)) ∧ HZ c' = some (CodeO c' (X.env.qual ++ "<lambda>")) ∧ tb σ HZ Q) := by
  obtain ⟨dV, doc, pm, ctv, efd⟩ := O.eq
  obtain ⟨⟨oc0, od0, da0, sl0⟩, hfo, hcls, hdat⟩ := O.at_
  subst efd
  obtain rfl : da0 = .func (lamFn X params body scope dV doc pm c' ctv) := hdat
  refine ⟨fun pinsZ sZ σZ HZ Q IZ ⟨hs, hc, ht⟩ => ?_⟩
  refine wpAny_Call_Name_kw (thn ((pe_var (pos := p1) (i := i) hN hv hd hcd).run pinsZ sZ σZ HZ (fun v H1 => v = .ref f ∧ H1 = HZ) IZ ⟨.ref f, hs, rfl, rfl⟩) fun u s1 ⟨v, H1, I1, r1, ev, eH⟩ => ?_)
  subst ev
  rw [eH] at I1
  obtain rfl : u = Value.ref f := r1
  have un : Un (frs X.stack) [] H HZ s.heap s1.heap := I1.base
  have obs : ∀ p ∈ ob, s1.heap.get? p.1 = some p.2 := fun p hp => un.keep p.1 _ (hob p hp).1 (hob p hp).2.1 (hob p hp).2.2 (fun z => (List.not_mem_nil z).elim)
  have of1 := obs _ hfo
  refine PySem.W.callWith_F0 ⟨_, _, _, _, of1⟩ ?_
  obtain ⟨⟨oc, vs, t, hoc, hdc, hvc⟩, _, _⟩ := I1.hok c' _ hc
  obtain ⟨bs, hbs, hloc⟩ := O.bd s1 obs
  have rc : codeAny (model X.prog X.w) (X.A.deeper (envOfC qg sg s.heap.objs.size g cdg)) (.call (.ref f) ⟨[], []⟩) (CR (L2.CX X.prog X.w) (envOfC qg sg s.heap.objs.size g cdg :: X.stack) X.prog X.w HZ s1 Q E) s1 := by
    refine PySem.W.kla_callFunE hr.depth of1 rfl L.co L.gen rfl ⟨c', oc, vs, t, rfl, hoc, hdc, hvc⟩ (hbs _ _ _ _ ?_)
    refine wpAny_newFunctionEnv L.nocell hloc (fun h1 hns hsb => ⟨I1.nolimit.fresh _ hsb, ?_⟩) L.kind
    show codeAny _ _ (.expr body (lamEnv X scope s1.heap.objs.size f c')) _ _
    have kp : ∀ b o, s1.heap.get? b = some o → h1.get? b = some o := fun b o e => hsb.extBut b o (Nat.ne_of_lt (Heap.lt_size e)) (Heap.get?_push_of_some _ e)
    have J : Inv (lamCx X (X.A.deeper (envOfC qg sg s.heap.objs.size g cdg)) (envOfC qg sg s.heap.objs.size g cdg :: X.stack) s1 HZ E scope f c') [] σ HZ { s1 with heap := h1, toks := s1.toks + bs.length } :=
      lam_startV I L I1.env0 hr.hd un hns kp
    refine PySem.W.kla_codeExpr (wpAny_mono ((hbody _ _ s1 HZ (hr.deeper _)).run [] _ _ HZ Q J ht) (fun v s' ⟨w', H', J', rv, q⟩ => ⟨w', H', J'.os, J'.bare, J'.base, J'.hok, rv, q⟩) fun e s' hq => hq)
  refine wpAny_call (codeAny_mono rc fun r s' hq => ?_)
  cases r with
  | error e => exact tk e s' (XE.of_call I1 (fun cls d H' h => hW cls d σZ H' I1.len h) hq)
  | ok fl =>
    cases fl with
    | ret u => exact I1.after hq
    | next => exact False.elim hq
    | brk => exact False.elim hq
    | cont => exact False.elim hq
end
/-! ### told -/
open L2H (RoomH PinOk roomH_of)
@[simp] def allDat : DEnv → Bool
  | [] => true
  | some (.dat _) :: r => allDat r
  | none :: r => allDat r
  | _ => false
theorem allDat_look : ∀ {ρ : DEnv} {i : Nat} {s : Sl}, allDat ρ = true → look ρ i = some s → isDat s = true
  | [], i, s, _, h => by cases h
  | some (.dat d) :: r, 0, s, h, e => by cases e; rfl
  | some (.dat d) :: r, i + 1, s, h, e => allDat_look (show allDat r = true from h) e
  | none :: r, 0, s, h, e => by cases e
  | none :: r, i + 1, s, h, e => allDat_look (show allDat r = true from h) e
  | some (.own _) :: r, _, _, h, _ => nomatch h
  | some (.obj _ _ _) :: r, _, _, h, _ => nomatch h
@[simp ↓] def mTold (mr : MZ) (m : EM) (ρ : DEnv) (Q : D → Prop) (_ : Xn → Prop) : Prop := allDat ρ = true ∧ m ρ (fun d => Q (.tup [.str "told", d])) (fun x => mr x Q)
section
variable {X : Cx} {Y : Yx} {k : Nat}
/-- a def called in a suite, the error in hand -/
theorem pe_callZ {f : Addr} {fd : FuncData} {ps : List Str} {sp : Addr × Obj → Sp} {p : Addr × Obj} {x : Str} {e : Expr} {es : List Expr} {t : TA} {q pos : Pos} (F : FnZ X.prog X.w X.K X.mg X.base k f fd ps sp) (hp : p ∈ X.pn) (hr : RoomH k X.A) (hg : Gl X x) (hm : X.mg x = some (.ref f)) (hk : PySem.W.keepIn X.K (.ref f) = true) (hb : Binds X.K fd ps [])
    (ha : PA X (e :: es) t) (hdb : (x == ("__debug__" : Str)) = false) (he : starEach (e :: es) X.env = (false, eval e X.env) :: starEach es X.env) (hpl : (backTo pos (starEach es X.env)).any (·.1) = false) :
    PE X (.Call (.Name x q) (e :: es) [] pos) (fun σ H Q => t σ H fun vs H1 => sp p vs H1 Q (fun _ _ _ => False)) := by
  refine ⟨fun pins s σ H Q I h => ?_⟩
  refine wpAny_Call_Name_kw (ld_glob I hg hm ?_ hdb)
  refine PySem.W.callWith_K (h₀ := X.base) I.ok.mod.kin hk (thn (ha.run pos pins s σ H _ I h) fun us s1 ⟨vs, H1, I1, r, q⟩ => ⟨I1.kIn, ?_⟩) he hpl
  have hl : us.length = ps.length := by rw [← r.length]; exact F.len _ _ _ _ _ q
  have b := hb s1 us I1.kIn (by rw [List.append_nil]; exact hl)
  rw [List.append_nil] at b
  have P1 := I1.pin p (List.mem_append_left _ hp)
  have hpin : PinOk X.stack H1 s1 p := ⟨P1.1, P1.2.1, fun hm => (List.mem_cons.mp (I1.stkSub p.1 hm)).elim P1.2.2.1 P1.2.2.2.1, P1.2.2.2.2⟩
  refine wpAny_call (codeAny_mono (F.run X.A X.stack s1 H1 ⟨us, []⟩ us vs Q _ p hr hpin I1.env0 b r q) fun r s' hq => ?_)
  cases r with
  | error e =>
    obtain ⟨_, _, _, _, _, _, _, _, _, _, _, _, z⟩ := hq
    exact z.elim
  | ok fl =>
    cases fl with
    | ret u => exact I1.after hq
    | next => exact False.elim hq
    | brk => exact False.elim hq
    | cont => exact False.elim hq
/-- the lambda's body, by data, at any heap -/
def tBody (K : PySem.W.Frag) (m : EM) (E : XK) : TE := fun σ H Q => ∃ (A : Addr → Prop) (ρ : DEnv) (Qd : D → Prop) (Ed : Xn → Prop), EnvOk K ⟨GrSame, H, A, E, fun _ _ => False⟩ A H σ ρ ∧ ExOk K ⟨GrSame, H, A, E, fun _ _ => False⟩ Ed ∧ m ρ Qd Ed ∧ ∀ v H' d, Same H H' → Rp K A H' v d → Qd d → Q v H'
theorem tBody.mono {K : PySem.W.Frag} {m : EM} {E : XK} {σ : L2.St} {H : Hp} {Q Q' : VK} (h : tBody K m E σ H Q) (k : ∀ v H, Q v H → Q' v H) : tBody K m E σ H Q' := by
  obtain ⟨A, ρ, Qd, Ed, env, ex, hm, kk⟩ := h
  exact ⟨A, ρ, Qd, Ed, env, ex, hm, fun v H' d s r q => k _ _ (kk v H' d s r q)⟩
theorem pe_body {A0 : Around} {outer : List Env} {s : Shared} {H : Hp} {E : XK} {scope : Scope} {f c' : Addr} {body : Expr} {m : EM} (hr : Room k (A0.deeper (lamEnv X scope s.heap.objs.size f c'))) (hN : X.N.Nodup)
    (hb : ∀ Y' : Yx, Cok k (lamCx X A0 outer s H E scope f c') Y' → PD (lamCx X A0 outer s H E scope f c') Y' body m) : PE (lamCx X A0 outer s H E scope f c') body (tBody X.K m E) := by
  refine ⟨fun pins s1 σ H1 Q I ⟨A, ρ, Qd, Ed, env, ex, hm, kk⟩ => ?_⟩
  have tk : Takes (lamCx X A0 outer s H E scope f c') (fun cls d _ H => E cls d H) := takes_of rfl rfl rfl rfl
  exact (hb ⟨GrSame, H1, A, E, fun _ _ => False⟩ ⟨passes_call tk fun _ _ _ _ h => h, rfl, hr, hN, tk⟩).run pins s1 σ H1 Q I ⟨A, ρ, Qd, Ed, env, ex, hm, fun v H' d g r q => kk v H' d g r q⟩
end

section
variable {X : Cx} {Y : Yx} {k : Nat}
/-- _law_told(lambda [a=0]: body) -/
theorem pd_told {T : List (Addr × Str)} {c P CE g : Addr} {mr : MZ} {m : EM} {params pg : Arguments} {body : Expr} {scope sg : Scope} {fdg : FuncData} {p lpos pos q1 q2 q3 q4 q5 q6 q7 q8 q9 q10 q11 : Pos} {j1 j2 : Nat}
    (ck : Cok (k + 4) X Y) (FT : FunD X.K "_law_told" "_law_told" pg [.Try [.Return (some (.Tuple [.Constant (.str "told") j1 q1, .Call (.Name "call" q2) [] [] q3] j2 q4)) q5] [.ExceptHandler (some (.Name "ClockError" q6)) (some "e") [.Return (some (.Call (.Name "_law_refusal" q7) [.Name "e" q8] [] q9)) q10] q11] [] [] pos] sg [] [] g fdg)
    (hgm : X.mg "_law_told" = some (.ref g)) (Sg : FnScope ["call", "e"] ["call"] sg) (bG : Binds X.K fdg ["call"] []) (hvc : Vis sg "call") (hle : sg.names.lookup ("e" : Str) = some .local) (hge : sg.names.lookup ("ClockError" : Str) = some .globalImplicit) (hgr : sg.names.lookup ("_law_refusal" : Str) = some .globalImplicit)
    (hme : X.mg "ClockError" = some (.ref CE)) (FR : FnZAt X.prog X.w X.K X.mg X.base k "_law_refusal" mr) (hex : ∀ x Q, mr x Q → PySem.W.exmOne X.K (.ref x.C) (.ref CE) = some true)
    (TB : TabB X.base X.mg c P) (hcode : X.env.code = .ref c) (hmT : (P, X.env.qual ++ "<lambda>") ∈ T) (hu : ∀ p ∈ T, p.1 = P → p.2 = X.env.qual ++ "<lambda>") (L : LamS2 X scope) (LD : LamDef params body scope)
    (hT0 : Tabs T Y.H0) (hG1 : ∀ {H H'}, Y.G.r H H' → Tabs T H → Tabs T H') (hG2 : ∀ {H H'}, ExtN H H' → Tabs T H' → Y.G.r H H')
    (hbody : ∀ (A : Around) (outer : List Env) (s : Shared) (H : Hp) (E : XK) (f c' : Addr) (Y' : Yx), Cok k (lamCx X A outer s H E scope f c') Y' → PD (lamCx X A outer s H E scope f c') Y' body m)
    {p0 : Pos} (hg : Gl X "_law_told" := by rfl) : PD X Y (.Call (.Name "_law_told" p) [.Lambda params body scope lpos] [] p0) (mTold mr m) := by
  obtain ⟨oc, od, dV, kV, doc, pm, an, cdg, ct, osl, efd, lk, hcg, _, _⟩ := FT.ex
  obtain ⟨fr, fdr, psr, hmr, hkr, bR, FRr⟩ := FR.ex
  subst efd
  refine ⟨fun pins s σ H Q I ⟨A, ρ, Qd, Ed, env, ex, ⟨hall, hm⟩, kk⟩ => ?_⟩
  refine wpAny_Call_Name_kw (ld_glob I hg hgm ?_ (by decide))
  refine PySem.W.callWith_K (h₀ := X.base) I.ok.mod.kin FT.kp ?_ (by rfl) (by rfl)
  show wpAny _ _ (spliced ((false, eval (.Lambda params body scope lpos) X.env) :: backTo p0 (starEach [] X.env))) _ _ s
  have TH : Tabs T H := hG1 env.go hT0
  refine Calls.spliced_cons (lam_makeV LD I TB hcode hmT hu TH (L.has I.ok) fun f c' fd ob H1 s' I1 eN T1 O hob hco => ?_)
  refine Calls.spliced_nil ⟨I1.kIn, ?_⟩
  have aok1 := env.aok.ext eN
  have nA : ∀ a, A a → ¬ Nt H1 a := fun a ha n => by
    rcases aok1 a ha with ⟨ys, w⟩ | ⟨C, dx, fs, w⟩ <;> (obtain ⟨_, q⟩ := n _ w; cases q)
  have fin : ∀ {v : V} {H' : Hp} {d : D}, Same H1 H' → Rp X.K A H' v d → Qd d → Q v H' := fun {v H' d} sm r q => kk v H' d (hG2 (eN.trans (extN_same sm)) (T1.ext sm)) r q
  -- the errors that the body lets out
  let Ech : XK := fun cls dd H' => ∃ x, mr x Qd ∧ Same H1 H' ∧ RpX X.K A H' cls dd x
  have rc : codeAny (model X.prog X.w) X.A (.call (.ref g) ⟨[.ref f], []⟩) (CR C8.CX0 X.stack X.prog X.w H1 s' Q C8.E0) s' := by
    refine LamX.run_ofS (k := k + 1) (N := ["call", "e"]) (ps := ["call"]) (us := [.ref f]) (vs := [.ref f]) lk hcg Sg (ck.room.mono (by omega)) I1.env0 (bG s' [.ref f] I1.kIn rfl) (.cons rfl .nil) rfl fun hr' => ?_
    have act : ∀ (W : WX) (pn : List (Addr × Obj)) (xe : Value → Shared → Prop), Takes ((cxOf C8.CX0 X.prog X.w X.K X.mg X.base ["call", "e"] "_law_told" sg g cdg X.A X.stack s' H1 C8.E0).tr pn xe) W → (∀ cls d σ' H', σ'.length = 2 → Ech cls d H' → W cls d σ' H') →
        PE ((cxOf C8.CX0 X.prog X.w X.K X.mg X.base ["call", "e"] "_law_told" sg g cdg X.A X.stack s' H1 C8.E0).tr pn xe) (.Call (.Name "call" q2) [] [] q3) (fun σZ HZ Q => σZ[0]? = some (some (.ref f)) ∧ HZ c' = some (CodeO c' (X.env.qual ++ "<lambda>")) ∧ tBody X.K m Ech σ HZ Q) :=
      fun W pn xe tk hW => pe_actV (i := 0) (k := k) I1 L O hob tk hW hr' (fun A' outer s2 H2 hr2 => pe_body hr2 ck.nd fun Y' cY => hbody A' outer s2 H2 Ech f c' Y' cY) rfl hvc (by decide) (by decide)
    let Z : Cx := (cxOf C8.CX0 X.prog X.w X.K X.mg X.base ["call", "e"] "_law_told" sg g cdg X.A X.stack s' H1 C8.E0).nox
    have hgl : Gl Z "ClockError" := hge
    have hgl2 : Gl Z "_law_refusal" := hgr
    refine ⟨_, PSs.nox (pss_one (ps_try_as (X := Z) (i := 1) (n := "e") (c := .ref CE) (Wout := fun _ _ _ _ => False)
      (tb := fun (W : L2.WX) (E' : Ends) (σZ : L2.St) (HZ : Hp) => (∀ (cls : Value) (d : Option Addr) (σ' : L2.St) (H' : Hp), σ'.length = 2 → Ech cls d H' → W cls d σ' H') ∧ σZ[0]? = some (some (V.ref f)) ∧ HZ c' = some (CodeO c' (X.env.qual ++ "<lambda>")) ∧ tBody X.K m Ech σ HZ fun v H2 => ∀ p, H2 p = none → E'.rt (V.ref p) (upd H2 p (HO.tup [V.str "told", v])))
      (ts := fun (a : Addr) (cls : Value) (d : Option Addr) (E' : Ends) (σZ : L2.St) (HZ : Hp) => σZ[1]? = some (some (V.ref a)) ∧ ∃ x, mr x Qd ∧ Same H1 HZ ∧ RpX X.K A HZ cls d x ∧ ∀ v H2 d, Same HZ H2 → Rp X.K A H2 v d → Qd d → E'.rt v H2)
      rfl rfl (show (["call", "e"] : List Str).Nodup by decide) rfl hle ⟨hgl, by decide, .inl hme⟩ takes0 (fun W pn xe tk _ => ?_) (fun a oe cls d pn hz hf => ?_))), ?_⟩
    · refine ⟨fun pinsZ sZ σZ HZ E' IZ ⟨hW, h0, h1, h2⟩ => ?_⟩
      refine (pss_one (ps_ret (pos := q5) (pe_tup (x1 := j2) (pos := q4) (pa_cons (pe_str (x := "told") (j := j1) (pos := q1)) (pa_cons (act W pn xe tk hW) pa_nil))))).run pinsZ sZ σZ HZ E' IZ ?_
      exact ⟨h0, h1, h2.mono fun v H2 q => ⟨Nat.le_trans (show 2 ≤ 1000 by decide) (small (Nat.le_refl _)), q⟩⟩
    · refine ⟨fun pinsZ sZ σZ HZ E' IZ ⟨h1, x, hmx, sm, rpx, kx⟩ => ?_⟩
      have hrZ : RoomH k (Z.suite a ((a, oe) :: pn)).A := ⟨(hr'.mono (Nat.le_succ k)).dp, (hr'.mono (Nat.le_succ k)).un⟩
      refine (pss_one (ps_ret (pos := q10) (pe_callZ (X := Z.suite a ((a, oe) :: pn)) (p := (a, oe)) FRr (List.mem_cons_self ..) hrZ hgl2 hmr hkr bR (pa_cons (pe_var (i := 1) (x := "e") (pos := q8) rfl (.inl hle)) pa_nil) (by decide) rfl rfl))).run pinsZ sZ σZ HZ E' IZ ?_
      obtain ⟨ec, dd, vs, ed, hd, hl, r⟩ := rpx
      subst ec ed
      exact ⟨.ref a, h1, A, x, Qd, rfl, aok1.ext (extN_same sm), ⟨hf, dd, vs, hz, hd, hl, r⟩, hmx, fun d v H' q s r => kx v H' d s r q⟩
    · refine ⟨fun cls d σ' H' hl ⟨x, hmx, sm, rpx⟩ => ⟨true, by rw [rpx.1]; exact hex x Qd hmx, fun _ a na => ⟨?_, x, hmx, sm, rpx, fun v H2 d s r q => fin (sm.trans s) r q⟩, fun z => by cases z⟩, rfl, hco, ?_⟩
      · match σ', hl with
        | [_, _], _ => rfl
      · refine ⟨A, ρ, fun d => Qd (.tup [.str "told", d]), fun x => mr x Qd, ⟨Same.refl H1, fun a ha => ⟨ha, nA a ha⟩, fun a ha => .inl ha, aok1, env.len, fun i sl hl => ?_, fun i j p s t h1 h2 i1 i2 _ _ => ?_⟩, fun x cls dd H2 hx g r => ⟨x, hx, g, r⟩, hm, fun v H' d sm r q p hp => ?_⟩
        · have hd := allDat_look hall hl
          cases sl with
          | dat d =>
            obtain ⟨v, a, b⟩ := env.sl i _ hl
            exact ⟨v, a, b.ext env.aok eN⟩
          | own _ => cases hd
          | obj _ _ _ => cases hd
        · rw [allDat_look hall h1] at i1
          cases i1
        · have s2 := upd_fresh_same (o := .tup [.str "told", v]) hp
          exact fin (sm.trans s2) (.tup (SqT.of upd_same) (.cons (.str _) (.cons (r.ext (aok1.ext (extN_same sm)) (extN_same s2)) .nil))) q
  refine wpAny_call (codeAny_mono rc fun r s2 hq => ?_)
  cases r with
  | error e => exact (show False from hq).elim
  | ok fl =>
    cases fl with
    | ret u => exact I1.after hq
    | next => exact False.elim hq
    | brk => exact False.elim hq
    | cont => exact False.elim hq
end
end WL
/-! ### repr(a) == repr(b), where no repr is under way -/
namespace WL
open L2 PySem PySem.Spec PyProof.Rows
open LamX (ExtN)
mutual
/-- its ints are small -/
def inD : D → Bool
  | .int i => decide (i.natAbs < 10 ^ 12)
  | .tup xs => inDs xs
  | .lst xs => inDs xs
  | _ => true
def inDs : List D → Bool
  | [] => true
  | d :: r => inD d && inDs r
end
mutual
def wtD : D → Nat
  | .str x => x.length
  | .int i => if i == 0 then 0 else i.natAbs.log2 + 1
  | .tup xs => wtDs xs
  | .lst xs => wtDs xs
  | _ => 0
def wtDs : List D → Nat
  | [] => 0
  | d :: r => wtD d + 1 + wtDs r
end
mutual
theorem pd_show : ∀ (d : D) (n : Nat), okD n d = true → inD d = true → (pd d).showable = true ∧ (pd d).intsShort 13 = true ∧ (pd d).weight = wtD d
  | .non, _, _, _ => ⟨rfl, rfl, rfl⟩
  | .bl b, _, _, _ => ⟨rfl, rfl, rfl⟩
  | .int i, _, _, h => by
    have h' : i.natAbs < 10 ^ 12 := of_decide_eq_true h
    refine ⟨?_, ?_, rfl⟩
    · show decide (i.natAbs.log2 < 1920) = true
      refine decide_eq_true ?_
      by_cases z : i.natAbs = 0
      · rw [z]; decide
      · exact Nat.lt_of_lt_of_le ((Nat.log2_lt z).mpr (Nat.lt_of_lt_of_le h' (show 10 ^ 12 ≤ 2 ^ 40 by decide))) (by decide)
    · show decide ((PyData.shown (.int i)).length ≤ 13) = true
      exact decide_eq_true (PyData.shown_int_le h')
  | .str x, _, _, _ => ⟨rfl, rfl, rfl⟩
  | .tup xs, n, o, h => pds_show xs n o h
  | .lst xs, n, o, h => pds_show xs n o h
theorem pds_show : ∀ (ds : List D) (n : Nat), okDs n ds = true → inDs ds = true → PyData.showableAll (pds ds) = true ∧ PyData.intsShortAll 13 (pds ds) = true ∧ PyData.weightAll (pds ds) = wtDs ds
  | [], _, _, _ => ⟨rfl, rfl, rfl⟩
  | d :: r, 0, o, _ => nomatch o
  | d :: r, n + 1, o, h => by
    rw [okDs, Bool.and_eq_true] at o
    rw [inDs, Bool.and_eq_true] at h
    obtain ⟨a1, a2, a3⟩ := pd_show d n o.1 h.1
    obtain ⟨b1, b2, b3⟩ := pds_show r (n + 1) o.2 h.2
    refine ⟨?_, ?_, ?_⟩
    · rw [pds, PyData.showableAll, a1, b1]; rfl
    · rw [pds, PyData.intsShortAll, a2, b2]; rfl
    · rw [pds, PyData.weightAll, a3, b3, wtDs]
end
structure ReprOk (d : D) : Prop where
  ok : Ok d
  sml : inD d = true
  wt : wtD d ≤ 1000000
theorem ReprOk.fits {d : D} (h : ReprOk d) : (pd d).showable = true ∧ (pd d).hasDict = false ∧ (pd d).shown.length ≤ sizeLine ∧ (pd d).depth ≤ 64 := by
  obtain ⟨h1, h2, h3⟩ := pd_show d 60 h.ok h.sml
  have sh := h.ok.shaped
  unfold SeqAt.shaped at sh
  rw [Bool.and_eq_true, decide_eq_true_eq] at sh
  have lay : (pd d).layable0 = true := by
    unfold PyData.layable0
    rw [sh.1, decide_eq_true sh.2, Bool.true_and, Bool.true_and]
    exact decide_eq_true (by rw [h3]; exact Nat.le_trans h.wt (by decide))
  exact ⟨h1, PyData.hasDict_of_layable lay, PyData.shown_fits_of_layable0 (B := 13) (by decide) (by decide) lay h2, sh.2⟩
@[simp] def isL : D → Bool
  | .lst _ => true
  | _ => false
@[simp ↓] def mSame (a b : EM) (ρ : DEnv) (Q : D → Prop) (E : Xn → Prop) : Prop := a ρ (fun d => (isL d = true ∧ ReprOk d) ∧ b ρ (fun e => e = d ∧ Q (.bl true)) E) E
section
variable {X : Cx} {Y : Yx} {a b : Expr} {ma mb : EM} {k : Nat} {p1 p2 q1 q2 pos : Pos}
theorem call_reprD (hg : X.A.guards = some []) (hu : RoomU k X.A) : CallR X (.builtin "repr") (fun xs H Q => ∃ p d, xs = [.ref p] ∧ Dp X.K H (.ref p) (pd d) ∧ ReprOk d ∧ Q (.str (pd d).shown) H) := by
  intro pins s σ H xs us Q I r h
  obtain ⟨p, d, rfl, hd, hr, q⟩ := h
  obtain ⟨u, rfl, ru⟩ := vals1 r
  obtain ⟨f1, f2, f3, f4⟩ := hr.fits
  obtain ⟨as, rd⟩ := Dp.reads I _ _ u hd ru
  obtain rfl : u = Value.ref p := ru
  exact repr_of_reads' rd f1 (PyData.noDict_hsm f2) hg (by have := hu.un; omega) (fun _ _ e => e) (fun h' u tk hk => ⟨.str _, H, I.kept (t' := tk) hk, ⟨u, rfl⟩, q⟩) f3
theorem pd_same (hg : X.A.guards = some []) (hu : RoomU k X.A) (hm : X.mg "repr" = none) (ha : PD X Y a ma) (hb : PD X Y b mb) (hgl : Gl X "repr" := by rfl) (hbt : bootBuiltins "repr" = some (.builtin "repr") := by decide +kernel)
    (he : starEach [a] X.env = (false, eval a X.env) :: starEach [] X.env := by rfl) (he2 : starEach [b] X.env = (false, eval b X.env) :: starEach [] X.env := by rfl) (hmk : behindInMarks .Eq (.Call (.Name "repr" p2) [b] [] q2) = false := by rfl) :
    PD X Y (.Compare (.Call (.Name "repr" p1) [a] [] q1) [.Eq] [.Call (.Name "repr" p2) [b] [] q2] pos) (mSame ma mb) :=
  pe_imp (pe_cmpR op_eq (pe_callB (call_reprD hg hu) hgl hm hbt (pa1 ha he) (by decide) (by decide) he rfl) (pe_callB (call_reprD hg hu) hgl hm hbt (pa1 hb he2) (by decide) (by decide) he2 rfl) hmk) fun σ H Q ⟨A, ρ, Qd, E, env, ex, hm, kk⟩ => ⟨A, ρ, _, E, env, ex, hm, fun vs H1 d g ⟨v, e, r⟩ h1 => by
    subst e
    obtain ⟨⟨hl, ho⟩, h1⟩ := h1
    cases r with
    | @lst p xs ds hp n r =>
      refine ⟨p, .lst ds, rfl, (Rp.lst hp n r).q.dp ho.ok, ho, A, ρ, _, E, env.step g, ex, h1, fun vs2 H2 d2 g2 ⟨w, e2, r2⟩ h2 => ?_⟩
      subst e2
      obtain ⟨ed, h2⟩ := h2
      subst ed
      cases r2 with
      | @lst p2 xs2 ds2 hp2 n2 r2 =>
        exact ⟨p2, .lst ds, rfl, (Rp.lst hp2 n2 r2).q.dp ho.ok, ho, rfl, by rw [decide_eq_true rfl]; exact kk _ _ _ (Y.G.trans g g2) (.bl true) h2⟩
    | _ => cases hl⟩
end

/-! ### a def called where no repr is under way -/
structure FnG (P : Program) (w : World) (K : PySem.W.Frag) (mg : Str → Option Value) (base : Heap) (k : Nat) (f : Addr) (fd : FuncData) (ps : List Str) (sp : Sp) : Prop where
  len : ∀ vs H Q E, sp vs H Q E → vs.length = ps.length
  run : ∀ (A : Around) (outer : List Env) (s : Shared) (H : Hp) (args : Args) (us : List Value) (vs : List V) (Q : VK) (E : XK), A.guards = some [] → Room k A → Env0 P w K mg base A outer s H → BindsTo s fd args (ps.zip us) → Vals vs us → sp vs H Q E →
    codeAny (model P w) A (.call (.ref f) args) (CR (L2.CX P w) outer P w H s Q E) s
structure FnGAt (P : Program) (w : World) (K : PySem.W.Frag) (mg : Str → Option Value) (base : Heap) (k : Nat) (x : Str) (n : Nat) (m : List D → M) : Prop where
  ex : ∃ (f : Addr) (fd : FuncData) (ps : List Str), mg x = some (.ref f) ∧ PySem.W.keepIn K (.ref f) = true ∧ Binds K fd ps [] ∧ FnG P w K mg base k f fd ps (spD K n m)
theorem FnGAt.of {P : Program} {w : World} {K : PySem.W.Frag} {mg : Str → Option Value} {base : Heap} {x : Str} {params : Arguments} {body : List Stmt} {scope : Scope} {f : Addr} {fd : FuncData} {N ps : List Str} {k n : Nat} {m : List D → M} {t : SM}
    (F : FunD K x x params body scope [] [] f fd) (hg : mg x = some (.ref f)) (S : FnScope N ps scope) (hn : ps.length = n) (b : Binds K fd ps [])
    (hb : ∀ (cdv : Value) (A : Around) (outer : List Env) (s : Shared) (H : Hp) (E : XK) (Y : Yx), (cxOf (L2.CX P w) P w K mg base N x scope f cdv A outer s H E).A.guards = some [] → Cok k (cxOf (L2.CX P w) P w K mg base N x scope f cdv A outer s H E) Y → PSsd (cxOf (L2.CX P w) P w K mg base N x scope f cdv A outer s H E) Y body t)
    (hm : ∀ ds Q E, ds.length = n → m ds Q E → t (startD N ds) (kt Q E)) : FnGAt P w K mg base (k + 1) x n m := by
  refine ⟨f, fd, ps, hg, F.kp, b, fun vs H Q E ⟨A, ds, _, _, _, r, l, _⟩ => by rw [r.length, l, hn], fun A outer s H args us vs Q E hgd hr e0 hbd rv ⟨A0, ds, Qd, Ed, ok, r, l, hm', h1, h2⟩ => ?_⟩
  obtain ⟨oc, od, dV, kV, doc, pm, an, cdv, ct, osl, efd, lk, hcd, _, _⟩ := F.ex
  subst efd
  refine LamX.run_ofS lk hcd S hr e0 hbd rv (by rw [r.length, l, hn]) fun hr' => ?_
  refine ⟨_, hb cdv A outer s H E ⟨GrSame, H, A0, E, fun _ _ => False⟩ hgd (cok_def hr' S.nd), A0, startD N ds, kt Qd Ed, envOk_start ok r, ?_, hm ds Qd Ed l hm', ?_⟩
  · exact fun x cls dd H' z g r => h2 x cls dd H' z g r
  · exact ⟨fun A' σ' H' ρ' _ e q => h1 _ _ _ q e.go .non, fun _ _ _ _ _ _ q => q.elim, fun _ _ _ _ _ _ q => q.elim, fun v H' d g r q => h1 d v H' q g r,
      fun p H' xs ds g n hl r q => h1 _ _ _ q g (rF.rp ok (extN_same g) ⟨p, xs, rfl, n, hl, r⟩)⟩
section
variable {X : Cx} {Y : Yx} {e : Expr} {es : List Expr} {ms : EMs} {p pos : Pos} {x : Str} {n k j : Nat} {m : List D → M}
theorem pd_callG (hgd : X.A.guards = some []) (c : Cok k X Y) (F : FnGAt X.prog X.w X.K X.mg X.base j x n m) (ha : PAd X Y (e :: es) ms) (hj : j ≤ k := by decide) (hg : Gl X x := by rfl) (hdb : (x == ("__debug__" : Str)) = false := by decide)
    (he : starEach (e :: es) X.env = (false, eval e X.env) :: starEach es X.env := by rfl) (hpl : (backTo pos (starEach es X.env)).any (·.1) = false := by rfl) : PD X Y (.Call (.Name x p) (e :: es) [] pos) (mCall n m ms) := by
  obtain ⟨f, fd, ps, h1, h2, h3, h4⟩ := F.ex
  refine ⟨fun pins s σ H Q I ⟨A, ρ, Qd, E, env, ex, hm, k⟩ => ?_⟩
  refine wpAny_Call_Name_kw (ld_glob I hg h1 ?_ hdb)
  refine PySem.W.callWith_K (h₀ := X.base) I.ok.mod.kin h2 (thn (ha.run pos pins s σ H (fun vs H1 => spD X.K n m vs H1 Q (Y.ex)) I ⟨A, ρ, _, E, env, ex, hm, fun vs H1 ds g1 r1 hq => ?_⟩) fun us s1 ⟨vs, H1, I1, r, q⟩ => ⟨I1.kIn, ?_⟩) he hpl
  · have env1 := env.step g1
    exact ⟨A, ds, Qd, E, env1.aok, r1, hq.1, hq.2, fun d v H' q s r => k v H' d (Y.G.trans g1 (Y.G.same s)) r q, fun x cls dd H' q s r => ex x cls dd H' q (Y.G.trans env1.go (Y.G.same s)) (r.weak (env1.aok.ext (extN_same s)) fun a z => (env.a0 a z).1)⟩
  · have hl : us.length = ps.length := by rw [← r.length]; exact h4.len _ _ _ _ q
    have b := h3 s1 us I1.kIn (by rw [List.append_nil]; exact hl)
    rw [List.append_nil] at b
    refine wpAny_call (codeAny_mono (h4.run X.A X.stack s1 H1 ⟨us, []⟩ us vs Q _ hgd (c.room.mono hj) I1.env0 b r q) fun r s' hq => ?_)
    cases r with
    | error e => exact c.pass pins σ H1 s1 e s' I1 hq
    | ok fl =>
      cases fl with
      | ret u => exact I1.after hq
      | next => exact False.elim hq
      | brk => exact False.elim hq
      | cont => exact False.elim hq
end
def m__law_same (_ : PySem.W.Frag) : List D → M := fun ds Q _ => match ds with
  | [d, e] => (isL d = true ∧ ReprOk d ∧ e = d) ∧ Q (.bl true)
  | _ => False
end WL
namespace WL
open L2 PySem PySem.Spec
def N__law_taken : List Str := ["row", "many", "found", "cell"]
def P__law_taken : List Str := ["row", "many"]
def t__law_taken (K : PySem.W.Frag) (sa : Addr) (ns : List Int) : RM :=
  (rSeq (rIf (m2t gtM (m2 ixM (mOwn 0) (mK (.int 3))) (mK (.int 0)))
  (rSeq (rSet (m2 modM (m1 intM (m2 ixM (mOwn 0) (mK (.int 3)))) (mVar 1)) 1)
  (rSeq (rSto 0 (mK (.int 3)) (m2 fdvM (m2 ixM (mOwn 0) (mK (.int 3))) (mVar 1)))
  (rRet (mVar 2))))
  rNext)
  (rSeq (rSto 0 (mK (.int 1)) (m2 addM (m2 ixM (mOwn 0) (mK (.int 1))) (mK (.int 1))))
  (rSeq (rIf (m2t gtM (m2 ixM (mOwn 0) (mK (.int 1))) (mLenS sa ns (m2 ixM (mOwn 0) (mK (.int 0)))))
  (rSeq (rSto 0 (mK (.int 2)) (m2 modM (m1 intM (m2 addM (m2 mulM (m2 ixM (mOwn 0) (mK (.int 2))) (mK (.int 48271))) (mK (.int 11)))) (mK (.int 2147483647))))
  (rRet (m2 modM (m1 intM (m2 fdvM (m2 ixM (mOwn 0) (mK (.int 2))) (mK (.int 7)))) (mVar 1))))
  rNext)
  (rSeq (rSet (mIxS sa ns (m2 ixM (mOwn 0) (mK (.int 0))) (m2 subM (m2 ixM (mOwn 0) (mK (.int 1))) (mK (.int 1)))) 2)
  (rSeq (rSto 0 (mK (.int 2)) (m2 modM (m1 intM (m2 addM (m2 addM (m2 mulM (m2 ixM (mOwn 0) (mK (.int 2))) (mK (.int 48271))) (mVar 3)) (mK (.int 11)))) (mK (.int 2147483647))))
  (rSeq (rIf (m2t geM (mVar 3) (m2 powM (mK (.int 10)) (mK (.int 18))))
  (rSeq (rSto 0 (mK (.int 3)) (m2 fdvM (mVar 3) (mVar 1)))
  (rRet (m2 modM (m1 intM (mVar 3)) (mVar 1))))
  rNext)
  (rRet (m2 modM (m1 intM (m2 addM (m2 mulM (m2 modM (m1 intM (mVar 3)) (mK (.int 1000003))) (mK (.int 31))) (m2 fdvM (m2 ixM (mOwn 0) (mK (.int 2))) (mK (.int 11))))) (mVar 1)))))))))
theorem atI_mem {α : Type} {l : List α} {k : Int} (h0 : 0 ≤ k) (h1 : k < (l.length : Nat)) : ∃ x, L2.atI l k = some x := by
  have e : k = ((k.toNat : Nat) : Int) := (Int.toNat_of_nonneg h0).symm
  rw [e, atI_n, List.getElem?_eq_getElem (by omega)]
  exact ⟨_, rfl⟩
theorem s__law_taken (K : PySem.W.Frag) (sa : Addr) (ns : List Int) (n i x y : Int) (Q : Int → Prop) (ok : RowOk i x y) (n0 : 0 < n) (n1 : n < 1073741824) (hq : ∀ k, 0 ≤ k → k < n → Q k) : t__law_taken K sa ns (startR sa i x y n N__law_taken) ⟨fun _ => False, fun ρ d => ∃ i' x' y' k, RowOk i' x' y' ∧ look ρ 0 = some (.own [.adr sa, .int i', .int x', .int y']) ∧ d = .int k ∧ Q k⟩ := by
  obtain ⟨i0, x0, x1, y0⟩ := ok
  have f1 : L2.ixN 4 1 = some 1 := rfl
  have f2 : L2.ixN 4 2 = some 2 := rfl
  have f3 : L2.ixN 4 3 = some 3 := rfl
  have hm : ∀ z : Int, Q (z % n) := fun z => hq _ (Int.emod_nonneg _ (by omega)) (Int.emod_lt_of_pos _ n0)
  have md : ∀ z : Int, 0 ≤ z % 2147483647 ∧ z % 2147483647 < 2147483647 := fun z => ⟨Int.emod_nonneg _ (by decide), Int.emod_lt_of_pos _ (by decide)⟩
  have b1 : big 48271 := by unfold big; omega
  have b2 : big 31 := by unfold big; omega
  simp [t__law_taken, N__law_taken, startR, f1, f2, f3, n0, n1, hm, b1, b2]
  split
  · exact ⟨i, x, y / n, ⟨i0, x0, x1, Int.ediv_nonneg y0 (by omega)⟩, rfl, rfl, rfl⟩
  · split
    · exact ⟨i + 1, _, y, ⟨by omega, (md _).1, (md _).2, y0⟩, rfl, rfl, rfl⟩
    · rename_i h1 h2
      obtain ⟨z, hz⟩ := atI_mem (l := ns) (k := i) i0 (by omega)
      rw [hz, optQ_s]
      split
      · rename_i h3
        exact ⟨i + 1, _, z / n, ⟨by omega, (md _).1, (md _).2, Int.ediv_nonneg (by omega) (by omega)⟩, rfl, rfl, rfl⟩
      · exact ⟨i + 1, _, y, ⟨by omega, (md _).1, (md _).2, y0⟩, rfl, rfl, rfl⟩
end WL
namespace WL
open L2 PySem PySem.Spec
def N__law_spoiled : List Str := ["row", "value", "at"]
def P__law_spoiled : List Str := ["row", "value"]
def t__law_spoiled (K : PySem.W.Frag) (m__law_spoiled : List D → M) : SM :=
  (sSeq (sIf (mNot (mTru (mB1 (isTyM K "tuple") (mVar 1))))
  (sRet (mIf (mTru (mB1 (isTyM K "int") (mVar 1))) (mCall 2 (m__law_pick K) (mCons (mVar 0) (mCons (mNew (mLst (mCons (m2 addM (mVar 1) (mK (.int 1))) (mCons (m2 subM (mVar 1) (mK (.int 1))) (mCons (mK (.int 0)) (mCons (mK .non) (mCons (mK (.bl true)) (mCons (mNew (mLst (mCons (mVar 1) mNil))) (mCons (m1 negM (mK (.int 1))) mNil))))))))) mNil))) (mCall 2 (m__law_pick K) (mCons (mVar 0) (mCons (mNew (mLst (mCons (mK .non) (mCons (mK (.str "a")) (mCons (mK (.str "zz")) (mCons (mK (.int 1)) (mCons (mVar 1) mNil))))))) mNil)))))
  sNext)
  (sSeq (sIf (mOr (m2t eqM (m1 lenM (mVar 1)) (mK (.int 0))) (m2t eqM (mCall 2 (m__law_taken K) (mCons (mVar 0) (mCons (mK (.int 6)) mNil))) (mK (.int 0))))
  (sRet (mCall 2 (m__law_pick K) (mCons (mVar 0) (mCons (mNew (mLst (mCons (m2 addM (mVar 1) (mTup (mCons (mK (.int 0)) mNil))) (mCons (mSl (mVar 1) (moS (mK (.int 1))) moN) (mCons (mSl (mVar 1) moN (moS (m1 negM (mK (.int 1))))) (mCons (mNew (m1F lstM (mVar 1))) (mCons (m2 addM (mVar 1) (mSl (mVar 1) moN (moS (mK (.int 1))))) (mCons (mRev (mVar 1)) (mCons (mTup mNil) mNil))))))))) mNil))))
  sNext)
  (sSeq (sSet (mCall 2 (m__law_taken K) (mCons (mVar 0) (mCons (m1 lenM (mVar 1)) mNil))) 2)
  (sRet (m2 addM (m2 addM (mSl (mVar 1) moN (moS (mVar 2))) (mTup (mCons (mCall 2 m__law_spoiled (mCons (mVar 0) (mCons (m2 ixM (mVar 1) (mVar 2)) mNil))) mNil))) (mSl (mVar 1) (moS (m2 addM (mVar 2) (mK (.int 1)))) moN))))))
theorem okDs_app {n : Nat} : ∀ {a b : List D}, okDs n a = true → okDs n b = true → okDs n (a ++ b) = true
  | [], _, _, h => h
  | d :: r, b, h, g => by
    cases n with
    | zero => cases h
    | succ n =>
      rw [okDs, Bool.and_eq_true] at h
      rw [List.cons_append, okDs, h.1, okDs_app h.2 g]
      rfl
theorem okDs_one {n : Nat} {d : D} (h : okD n d = true) : okDs (n + 1) [d] = true := by
  rw [okDs, h, okDs]
  rfl
theorem okDs_up {n : Nat} {ds : List D} (h : okDs n ds = true) : okDs (n + 1) ds = true := okD_mono n (n + 1) (.tup ds) (Nat.le_succ _) h
theorem cutL_sub {xs : List D} {a b : Option Int} : ∀ d ∈ cutL xs a b, d ∈ xs := fun d hd => List.mem_of_mem_drop (List.mem_of_mem_take hd)
theorem cutL_len {xs : List D} {a b : Option Int} : (cutL xs a b).length ≤ xs.length := by
  unfold cutL
  rw [List.length_take, List.length_drop]
  omega
def m__law_spoiled (n : Nat) : List D → M := fun ds Q _ => match ds with
  | [.row, d] => (okD n d = true ∧ smD d = true ∧ n ≤ 45) ∧ ∀ e, okD (n + 1) e = true → Q e
  | _ => False
theorem s__law_spoiled (K : PySem.W.Frag) (n : Nat) (mr : List D → M) (hr : ∀ xs d, okDs n xs = true → d ∈ xs → smD d = true → n ≤ 45 → ∀ (Q : D → Prop) E, (∀ e, okD n e = true → Q e) → mr [.row, d] Q E) :
    ∀ ds Q E, ds.length = 2 → m__law_spoiled n ds Q E → t__law_spoiled K mr (startD N__law_spoiled ds) (kt Q E) := by
  intro ds Q E hl h
  unfold m__law_spoiled at h
  split at h
  · rename_i d
    obtain ⟨⟨o, sm, hn⟩, q⟩ := h
    have ok : Ok d := okD_mono _ 60 _ (by omega) o
    cases d with
    | tup xs =>
      have o' : okDs n xs = true := o
      rw [smD, Bool.and_eq_true, decide_eq_true_eq] at sm
      simp [t__law_spoiled, N__law_spoiled, m__law_taken, m__law_pick]
      have up := okDs_up o'
      have cut : ∀ a b, okDs n (cutL xs a b) = true := fun a b => okDs_sub o' cutL_sub
      have l1 : (cutL xs none (some 1)).length ≤ 1 := by
        unfold cutL
        rw [List.length_take, List.length_drop]
        have : HT.sIx xs.length xs.length (some 1) ≤ 1 := by
          unfold HT.sIx
          simp
          omega
        omega
      have all7 : xs.length ≤ 999 ∧ xs.length + (cutL xs none (some 1)).length ≤ 1000 ∧ Q (.tup (xs ++ [.int 0])) ∧ Q (.tup (cutL xs (some 1) none)) ∧ Q (.tup (cutL xs none (some (-1)))) ∧ Q (.lst xs) ∧ Q (.tup (xs ++ cutL xs none (some 1))) ∧ Q (.tup xs.reverse) ∧ Q (.tup []) :=
        ⟨by omega, by omega, q _ (okDs_app up (okDs_one rfl)), q _ (okDs_up (cut _ _)), q _ (okDs_up (cut _ _)), q _ up, q _ (okDs_app up (okDs_up (cut _ _))), q _ (okDs_sub up fun d hd => List.mem_reverse.mp hd), q _ rfl⟩
      refine ⟨⟨rfl, rfl⟩, ?_⟩
      split
      · exact all7
      · rename_i hne
        intro k h0 h6
        refine ⟨⟨rfl, rfl⟩, ?_⟩
        split
        · exact all7
        · have hx : 0 < xs.length := by
            rcases Nat.eq_zero_or_pos xs.length with z | z
            · rw [z] at hne; exact absurd rfl hne
            · exact z
          refine ⟨⟨hx, by omega⟩, fun j j0 j1 => ?_⟩
          obtain ⟨d, hd⟩ := atI_mem j0 j1
          rw [hd, optQ_s]
          have hm : d ∈ xs := by
            have e : j = ((j.toNat : Nat) : Int) := (Int.toNat_of_nonneg j0).symm
            rw [e, atI_n] at hd
            exact List.mem_of_getElem? hd
          have sd : smD d = true := by
            obtain ⟨i, hi⟩ := List.mem_iff_getElem?.mp hm
            exact smDs_at sm.2 hi
          refine hr xs d o' hm sd hn _ _ fun e he => ?_
          have c1 := cutL_len (xs := xs) (a := none) (b := some j)
          have c2 := cutL_len (xs := xs) (a := some (j + 1)) (b := none)
          have c3 : (cutL xs none (some j)).length + (cutL xs (some (j + 1)) none).length ≤ xs.length := by
            rw [cutL_pre' xs j0, cutL_suf' xs (by omega), List.length_take, List.length_drop]
            omega
          refine ⟨by omega, by omega, q _ ?_⟩
          exact okDs_app (okDs_up (cut _ _)) (okDs_app (okDs_one he) (okDs_up (cut _ _)))
    | _ => first | exact (Bool.noConfusion ok) | (simp [t__law_spoiled, N__law_spoiled, m__law_pick]; first | exact ⟨q _ rfl, q _ rfl, q _ rfl, q _ rfl, q _ rfl, q _ (okDs_one o), q _ rfl⟩ | exact ⟨q _ rfl, q _ (okD_mono 0 _ _ (Nat.zero_le _) (by decide +kernel)), q _ (okD_mono 0 _ _ (Nat.zero_le _) (by decide +kernel)), q _ rfl, q _ (okD_mono _ _ _ (Nat.le_succ _) o)⟩)
  · exact h.elim
end WL
namespace WL
open L2 PySem PySem.Spec
def N__law_refusal : List Str := ["e", "kinds", "marks", "name"]
def P__law_refusal : List Str := ["e"]
def t__law_refusal (K : PySem.W.Frag) (a : Addr) (xn : Xn) (bf : Str → Bool) : SM :=
  (sSeq (sSet (mNew (mLst (mCons (mK (.str "BadPart")) (mCons (mK (.str "BadNumber")) (mCons (mK (.str "Unknown")) (mCons (mK (.str "BadCourse")) (mCons (mK (.str "BadChange")) (mCons (mK (.str "BadText")) (mCons (mK (.str "BadLine")) (mCons (mK (.str "BadClaim")) (mCons (mK (.str "NothingDone")) mNil))))))))))) 1)
  (sSeq (sSet (mNew (mLst (mCons (mIsE 0 a (bf "BadPart")) (mCons (mIsE 0 a (bf "BadNumber")) (mCons (mIsE 0 a (bf "Unknown")) (mCons (mIsE 0 a (bf "BadCourse")) (mCons (mIsE 0 a (bf "BadChange")) (mCons (mIsE 0 a (bf "BadText")) (mCons (mIsE 0 a (bf "BadLine")) (mCons (mIsE 0 a (bf "BadClaim")) (mCons (mIsE 0 a (bf "NothingDone")) mNil))))))))))) 2)
  (sSeq (sIf (mOr (m2t neM (mMtL cntM (mVar 2) (mK (.bl true))) (mK (.int 1))) (mNot (mTru (mIsE 0 a (bf "ValueError")))))
  (sRet (mTup (mCons (mK (.str "other")) mNil)))
  sNext)
  (sSeq (sSet (m2 ixM (mVar 1) (mMtL idxLM (mVar 2) (mK (.bl true)))) 3)
  (sSeq (sIf (m2t eqM (mVar 3) (mK (.str "BadPart")))
  (sRet (mTup (mCons (mVar 3) (mCons (mXfO 0 a xn.ks xn.ds "part") (mCons (mXfO 0 a xn.ks xn.ds "place") mNil)))))
  sNext)
  (sSeq (sIf (m2t eqM (mVar 3) (mK (.str "BadNumber")))
  (sRet (mTup (mCons (mVar 3) (mCons (mXfO 0 a xn.ks xn.ds "value") mNil))))
  sNext)
  (sSeq (sIf (m2t eqM (mVar 3) (mK (.str "Unknown")))
  (sRet (mTup (mCons (mVar 3) (mCons (mXfO 0 a xn.ks xn.ds "name") mNil))))
  sNext)
  (sSeq (sIf (m2t inM (mVar 3) (mTup (mCons (mK (.str "BadText")) (mCons (mK (.str "BadLine")) mNil))))
  (sRet (mTup (mCons (mVar 3) (mCons (mXfO 0 a xn.ks xn.ds "line") mNil))))
  sNext)
  (sSeq (sIf (m2t inM (mVar 3) (mTup (mCons (mK (.str "BadClaim")) (mCons (mK (.str "NothingDone")) mNil))))
  (sRet (mTup (mCons (mVar 3) mNil)))
  sNext)
  (sRet (mTup (mCons (mVar 3) (mCons (mXfO 0 a xn.ks xn.ds "place") mNil)))))))))))))
def errNames : List Str := ["BadPart", "BadNumber", "Unknown", "BadCourse", "BadChange", "BadText", "BadLine", "BadClaim", "NothingDone"]
def bfOf (n : Str) : Str → Bool := fun T => decide (T = n) || decide (T = ("ValueError" : Str))
theorem okS {x : Str} (h : okD 60 (.str x) = true) : Ok (.str x) := h
theorem s__law_refusal_BadPart (K : PySem.W.Frag) (a C : Addr) (pl pt : D) (Q : D → Prop) (E : Xn → Prop) (q : Q (.tup [.str "BadPart", pt, pl])) : t__law_refusal K a ⟨C, ["place", "part"], [pl, pt]⟩ (bfOf "BadPart") (startD N__law_refusal [.adr a]) (kt Q E) := by
  have h0 : bfOf "BadPart" "BadPart" = true := by decide +kernel
  have h1 : bfOf "BadPart" "BadNumber" = false := by decide +kernel
  have h2 : bfOf "BadPart" "Unknown" = false := by decide +kernel
  have h3 : bfOf "BadPart" "BadCourse" = false := by decide +kernel
  have h4 : bfOf "BadPart" "BadChange" = false := by decide +kernel
  have h5 : bfOf "BadPart" "BadText" = false := by decide +kernel
  have h6 : bfOf "BadPart" "BadLine" = false := by decide +kernel
  have h7 : bfOf "BadPart" "BadClaim" = false := by decide +kernel
  have h8 : bfOf "BadPart" "NothingDone" = false := by decide +kernel
  have h9 : bfOf "BadPart" "ValueError" = true := by decide +kernel
  have i0 : ixF "place" (["place", "part"] : List Str) = some 0 := by decide +kernel
  have i1 : ixF "part" (["place", "part"] : List Str) = some 1 := by decide +kernel
  have c1 : cntB (.bl true) [.bl true, .bl false, .bl false, .bl false, .bl false, .bl false, .bl false, .bl false, .bl false] = 1 := by decide +kernel
  have c2 : idxB (.bl true) [.bl true, .bl false, .bl false, .bl false, .bl false, .bl false, .bl false, .bl false, .bl false] = some 0 := by decide +kernel
  have ob : Ok (.lst [.bl true, .bl false, .bl false, .bl false, .bl false, .bl false, .bl false, .bl false, .bl false]) := rfl
  have e0 : eqD (.str "BadPart") (.str "BadPart") = true := by decide +kernel
  have e1 : eqD (.str "BadPart") (.str "BadNumber") = false := by decide +kernel
  have e2 : eqD (.str "BadPart") (.str "Unknown") = false := by decide +kernel
  have o0 : Ok (.str "BadPart") := okS (by decide +kernel)
  have o1 : Ok (.str "BadNumber") := okS (by decide +kernel)
  have o2 : Ok (.str "Unknown") := okS (by decide +kernel)
  have o3 : Ok (.str "BadCourse") := okS (by decide +kernel)
  have z1 : inB (.str "BadPart") [.str "BadText", .str "BadLine"] = false := by decide +kernel
  have z2 : inB (.str "BadPart") [.str "BadClaim", .str "NothingDone"] = false := by decide +kernel
  have y1 : Ok (.tup [.str "BadText", .str "BadLine"]) := show okD 60 _ = true by decide +kernel
  have y2 : Ok (.tup [.str "BadClaim", .str "NothingDone"]) := show okD 60 _ = true by decide +kernel
  have nat1 : eqD (.int ((1 : Nat) : Int)) (.int 1) = true := rfl
  have at1 : L2.atI [D.str "BadPart", .str "BadNumber", .str "Unknown", .str "BadCourse", .str "BadChange", .str "BadText", .str "BadLine", .str "BadClaim", .str "NothingDone"] 0 = some (.str "BadPart") := rfl
  simp [t__law_refusal, N__law_refusal, Ok.b, Ok.i, nat1, at1, eqD, h0, h1, h2, h3, h4, h5, h6, h7, h8, h9, i0, i1, c1, c2, ob, e0, e1, e2, o0, o1, o2, o3, z1, z2, y1, y2]
  exact q
theorem s__law_refusal_BadNumber (K : PySem.W.Frag) (a C : Addr) (v : D) (Q : D → Prop) (E : Xn → Prop) (q : Q (.tup [.str "BadNumber", v])) : t__law_refusal K a ⟨C, ["value"], [v]⟩ (bfOf "BadNumber") (startD N__law_refusal [.adr a]) (kt Q E) := by
  have h0 : bfOf "BadNumber" "BadPart" = false := by decide +kernel
  have h1 : bfOf "BadNumber" "BadNumber" = true := by decide +kernel
  have h2 : bfOf "BadNumber" "Unknown" = false := by decide +kernel
  have h3 : bfOf "BadNumber" "BadCourse" = false := by decide +kernel
  have h4 : bfOf "BadNumber" "BadChange" = false := by decide +kernel
  have h5 : bfOf "BadNumber" "BadText" = false := by decide +kernel
  have h6 : bfOf "BadNumber" "BadLine" = false := by decide +kernel
  have h7 : bfOf "BadNumber" "BadClaim" = false := by decide +kernel
  have h8 : bfOf "BadNumber" "NothingDone" = false := by decide +kernel
  have h9 : bfOf "BadNumber" "ValueError" = true := by decide +kernel
  have i0 : ixF "value" (["value"] : List Str) = some 0 := by decide +kernel
  have c1 : cntB (.bl true) [.bl false, .bl true, .bl false, .bl false, .bl false, .bl false, .bl false, .bl false, .bl false] = 1 := by decide +kernel
  have c2 : idxB (.bl true) [.bl false, .bl true, .bl false, .bl false, .bl false, .bl false, .bl false, .bl false, .bl false] = some 1 := by decide +kernel
  have ob : Ok (.lst [.bl false, .bl true, .bl false, .bl false, .bl false, .bl false, .bl false, .bl false, .bl false]) := rfl
  have e0 : eqD (.str "BadNumber") (.str "BadPart") = false := by decide +kernel
  have e1 : eqD (.str "BadNumber") (.str "BadNumber") = true := by decide +kernel
  have e2 : eqD (.str "BadNumber") (.str "Unknown") = false := by decide +kernel
  have o0 : Ok (.str "BadPart") := okS (by decide +kernel)
  have o1 : Ok (.str "BadNumber") := okS (by decide +kernel)
  have o2 : Ok (.str "Unknown") := okS (by decide +kernel)
  have o3 : Ok (.str "BadCourse") := okS (by decide +kernel)
  have z1 : inB (.str "BadNumber") [.str "BadText", .str "BadLine"] = false := by decide +kernel
  have z2 : inB (.str "BadNumber") [.str "BadClaim", .str "NothingDone"] = false := by decide +kernel
  have y1 : Ok (.tup [.str "BadText", .str "BadLine"]) := show okD 60 _ = true by decide +kernel
  have y2 : Ok (.tup [.str "BadClaim", .str "NothingDone"]) := show okD 60 _ = true by decide +kernel
  have nat1 : eqD (.int ((1 : Nat) : Int)) (.int 1) = true := rfl
  have at1 : L2.atI [D.str "BadPart", .str "BadNumber", .str "Unknown", .str "BadCourse", .str "BadChange", .str "BadText", .str "BadLine", .str "BadClaim", .str "NothingDone"] 1 = some (.str "BadNumber") := rfl
  simp [t__law_refusal, N__law_refusal, Ok.b, Ok.i, nat1, at1, eqD, h0, h1, h2, h3, h4, h5, h6, h7, h8, h9, i0, c1, c2, ob, e0, e1, e2, o0, o1, o2, o3, z1, z2, y1, y2]
  exact q
theorem s__law_refusal_Unknown (K : PySem.W.Frag) (a C : Addr) (v : D) (Q : D → Prop) (E : Xn → Prop) (q : Q (.tup [.str "Unknown", v])) : t__law_refusal K a ⟨C, ["name"], [v]⟩ (bfOf "Unknown") (startD N__law_refusal [.adr a]) (kt Q E) := by
  have h0 : bfOf "Unknown" "BadPart" = false := by decide +kernel
  have h1 : bfOf "Unknown" "BadNumber" = false := by decide +kernel
  have h2 : bfOf "Unknown" "Unknown" = true := by decide +kernel
  have h3 : bfOf "Unknown" "BadCourse" = false := by decide +kernel
  have h4 : bfOf "Unknown" "BadChange" = false := by decide +kernel
  have h5 : bfOf "Unknown" "BadText" = false := by decide +kernel
  have h6 : bfOf "Unknown" "BadLine" = false := by decide +kernel
  have h7 : bfOf "Unknown" "BadClaim" = false := by decide +kernel
  have h8 : bfOf "Unknown" "NothingDone" = false := by decide +kernel
  have h9 : bfOf "Unknown" "ValueError" = true := by decide +kernel
  have i0 : ixF "name" (["name"] : List Str) = some 0 := by decide +kernel
  have c1 : cntB (.bl true) [.bl false, .bl false, .bl true, .bl false, .bl false, .bl false, .bl false, .bl false, .bl false] = 1 := by decide +kernel
  have c2 : idxB (.bl true) [.bl false, .bl false, .bl true, .bl false, .bl false, .bl false, .bl false, .bl false, .bl false] = some 2 := by decide +kernel
  have ob : Ok (.lst [.bl false, .bl false, .bl true, .bl false, .bl false, .bl false, .bl false, .bl false, .bl false]) := rfl
  have e0 : eqD (.str "Unknown") (.str "BadPart") = false := by decide +kernel
  have e1 : eqD (.str "Unknown") (.str "BadNumber") = false := by decide +kernel
  have e2 : eqD (.str "Unknown") (.str "Unknown") = true := by decide +kernel
  have o0 : Ok (.str "BadPart") := okS (by decide +kernel)
  have o1 : Ok (.str "BadNumber") := okS (by decide +kernel)
  have o2 : Ok (.str "Unknown") := okS (by decide +kernel)
  have o3 : Ok (.str "BadCourse") := okS (by decide +kernel)
  have z1 : inB (.str "Unknown") [.str "BadText", .str "BadLine"] = false := by decide +kernel
  have z2 : inB (.str "Unknown") [.str "BadClaim", .str "NothingDone"] = false := by decide +kernel
  have y1 : Ok (.tup [.str "BadText", .str "BadLine"]) := show okD 60 _ = true by decide +kernel
  have y2 : Ok (.tup [.str "BadClaim", .str "NothingDone"]) := show okD 60 _ = true by decide +kernel
  have nat1 : eqD (.int ((1 : Nat) : Int)) (.int 1) = true := rfl
  have at1 : L2.atI [D.str "BadPart", .str "BadNumber", .str "Unknown", .str "BadCourse", .str "BadChange", .str "BadText", .str "BadLine", .str "BadClaim", .str "NothingDone"] 2 = some (.str "Unknown") := rfl
  simp [t__law_refusal, N__law_refusal, Ok.b, Ok.i, nat1, at1, eqD, h0, h1, h2, h3, h4, h5, h6, h7, h8, h9, i0, c1, c2, ob, e0, e1, e2, o0, o1, o2, o3, z1, z2, y1, y2]
  exact q
theorem s__law_refusal_BadCourse (K : PySem.W.Frag) (a C : Addr) (v : D) (Q : D → Prop) (E : Xn → Prop) (q : Q (.tup [.str "BadCourse", v])) : t__law_refusal K a ⟨C, ["place"], [v]⟩ (bfOf "BadCourse") (startD N__law_refusal [.adr a]) (kt Q E) := by
  have h0 : bfOf "BadCourse" "BadPart" = false := by decide +kernel
  have h1 : bfOf "BadCourse" "BadNumber" = false := by decide +kernel
  have h2 : bfOf "BadCourse" "Unknown" = false := by decide +kernel
  have h3 : bfOf "BadCourse" "BadCourse" = true := by decide +kernel
  have h4 : bfOf "BadCourse" "BadChange" = false := by decide +kernel
  have h5 : bfOf "BadCourse" "BadText" = false := by decide +kernel
  have h6 : bfOf "BadCourse" "BadLine" = false := by decide +kernel
  have h7 : bfOf "BadCourse" "BadClaim" = false := by decide +kernel
  have h8 : bfOf "BadCourse" "NothingDone" = false := by decide +kernel
  have h9 : bfOf "BadCourse" "ValueError" = true := by decide +kernel
  have i0 : ixF "place" (["place"] : List Str) = some 0 := by decide +kernel
  have c1 : cntB (.bl true) [.bl false, .bl false, .bl false, .bl true, .bl false, .bl false, .bl false, .bl false, .bl false] = 1 := by decide +kernel
  have c2 : idxB (.bl true) [.bl false, .bl false, .bl false, .bl true, .bl false, .bl false, .bl false, .bl false, .bl false] = some 3 := by decide +kernel
  have ob : Ok (.lst [.bl false, .bl false, .bl false, .bl true, .bl false, .bl false, .bl false, .bl false, .bl false]) := rfl
  have e0 : eqD (.str "BadCourse") (.str "BadPart") = false := by decide +kernel
  have e1 : eqD (.str "BadCourse") (.str "BadNumber") = false := by decide +kernel
  have e2 : eqD (.str "BadCourse") (.str "Unknown") = false := by decide +kernel
  have o0 : Ok (.str "BadPart") := okS (by decide +kernel)
  have o1 : Ok (.str "BadNumber") := okS (by decide +kernel)
  have o2 : Ok (.str "Unknown") := okS (by decide +kernel)
  have o3 : Ok (.str "BadCourse") := okS (by decide +kernel)
  have z1 : inB (.str "BadCourse") [.str "BadText", .str "BadLine"] = false := by decide +kernel
  have z2 : inB (.str "BadCourse") [.str "BadClaim", .str "NothingDone"] = false := by decide +kernel
  have y1 : Ok (.tup [.str "BadText", .str "BadLine"]) := show okD 60 _ = true by decide +kernel
  have y2 : Ok (.tup [.str "BadClaim", .str "NothingDone"]) := show okD 60 _ = true by decide +kernel
  have nat1 : eqD (.int ((1 : Nat) : Int)) (.int 1) = true := rfl
  have at1 : L2.atI [D.str "BadPart", .str "BadNumber", .str "Unknown", .str "BadCourse", .str "BadChange", .str "BadText", .str "BadLine", .str "BadClaim", .str "NothingDone"] 3 = some (.str "BadCourse") := rfl
  simp [t__law_refusal, N__law_refusal, Ok.b, Ok.i, nat1, at1, eqD, h0, h1, h2, h3, h4, h5, h6, h7, h8, h9, i0, c1, c2, ob, e0, e1, e2, o0, o1, o2, o3, z1, z2, y1, y2]
  exact q
end WL
/-! ### what a law's own body asks for -/
namespace WL
open L2 PySem PySem.Spec PyProof.Rows
open LamX (ExtN TabS Tabs CodeO TabB lamEnv lamCx)
def defPars (s : Stmt) : Arguments := match s with
  | .FunctionDef _ a _ _ _ _ _ _ _ _ => a
  | _ => ⟨[], [], none, [], [], none, []⟩
/-- the def that tries, as the text has it -/
structure ToldAt (P : Program) (w : World) (K : PySem.W.Frag) (mg : Str → Option Value) (base : Heap) (k : Nat) (st : Stmt) (mr : MZ) : Prop where
  ex : ∃ (g CE : Addr) (fd : FuncData), FunD K "_law_told" "_law_told" (defPars st) (defBody st) (defScope st) [] [] g fd ∧ mg "_law_told" = some (.ref g) ∧ Binds K fd ["call"] [] ∧ mg "ClockError" = some (.ref CE) ∧ ∀ x Q, mr x Q → PySem.W.exmOne K (.ref x.C) (.ref CE) = some true
  sc : FnScope ["call", "e"] ["call"] (defScope st)
  vc : Vis (defScope st) "call"
  le : (defScope st).names.lookup ("e" : Str) = some .local
  ge : (defScope st).names.lookup ("ClockError" : Str) = some .globalImplicit
  gr : (defScope st).names.lookup ("_law_refusal" : Str) = some .globalImplicit
  re : FnZAt P w K mg base k "_law_refusal" mr
/-- what the relation of a law's own body keeps: the tables of its lambdas, too -/
structure GrT (T : List (Addr × Str)) (G : Gr) : Prop where
  to : ∀ {H H'}, G.r H H' → Tabs T H → Tabs T H'
  of : ∀ {H H'}, ExtN H H' → Tabs T H' → G.r H H'
def GrTab (T : List (Addr × Str)) : Gr where
  r := fun H H' => ExtN H H' ∧ (Tabs T H → Tabs T H')
  refl := fun H => ⟨ExtN.refl H, fun t => t⟩
  trans := fun a b => ⟨a.1.trans b.1, fun t => b.2 (a.2 t)⟩
  same := fun s => ⟨extN_same s, fun t => t.ext s⟩
  ext := fun a => a.1
  mutd := fun {H0 H p o} a n h => by
    have ne : ∀ b u, H b = some u → (∀ xs, u ≠ .lst xs) → (∀ C dx fs, u ≠ .ins C dx fs) → upd H p o b = some u := fun b u e h1 h2 => by
      have hb : b ≠ p := fun z => by
        subst z
        rcases h with ⟨xs, q⟩ | ⟨C, dx, fs, q⟩
        · rw [e] at q; exact h1 xs (Option.some.inj q)
        · rw [e] at q; exact h2 _ _ _ (Option.some.inj q)
      rw [upd_ne hb]; exact e
    refine ⟨fun b u e nt => ?_, fun t q hq => ?_⟩
    · have hb : b ≠ p := n.ne e nt
      rw [upd_ne hb]
      exact a.1 b u e nt
    · obtain ⟨ps, t1, t2, t3⟩ := a.2 t q hq
      refine ⟨ps, ne _ _ t1 (fun _ z => nomatch z) (fun _ _ _ z => nomatch z), t2, fun pos cv hc => ?_⟩
      obtain ⟨c, e1, e2⟩ := t3 pos cv hc
      exact ⟨c, e1, ne _ _ e2 (fun _ z => by unfold CodeO at z; cases z) (fun _ _ _ z => by unfold CodeO at z; cases z)⟩
theorem grT (T : List (Addr × Str)) : GrT T (GrTab T) := ⟨fun a t => a.2 t, fun e t => ⟨e, fun _ => t⟩⟩
section
variable {X : Cx} {Y : Yx} {k : Nat}
theorem pd_told2 {T : List (Addr × Str)} {c P : Addr} {mr : MZ} {m : EM} {params : Arguments} {body : Expr} {scope : Scope} {st : Stmt} {p lpos pos q1 q2 q3 q4 q5 q6 q7 q8 q9 q10 q11 p0 : Pos} {j1 j2 : Nat}
    (ck : Cok (k + 4) X Y) (FT : ToldAt X.prog X.w X.K X.mg X.base k st mr) (TB : TabB X.base X.mg c P) (hcode : X.env.code = .ref c) (hmT : (P, X.env.qual ++ "<lambda>") ∈ T) (hu : ∀ p ∈ T, p.1 = P → p.2 = X.env.qual ++ "<lambda>")
    (hT0 : Tabs T Y.H0) (hG : GrT T Y.G) (L : LamS2 X scope) (LD : LamDef params body scope)
    (hbody : ∀ (A : Around) (outer : List Env) (s : Shared) (H : Hp) (E : XK) (f c' : Addr) (Y' : Yx), Cok k (lamCx X A outer s H E scope f c') Y' → PD (lamCx X A outer s H E scope f c') Y' body m)
    (hst : defBody st = [.Try [.Return (some (.Tuple [.Constant (.str "told") j1 q1, .Call (.Name "call" q2) [] [] q3] j2 q4)) q5] [.ExceptHandler (some (.Name "ClockError" q6)) (some "e") [.Return (some (.Call (.Name "_law_refusal" q7) [.Name "e" q8] [] q9)) q10] q11] [] [] pos] := by rfl)
    (hg : Gl X "_law_told" := by rfl) : PD X Y (.Call (.Name "_law_told" p) [.Lambda params body scope lpos] [] p0) (mTold mr m) := by
  obtain ⟨g, CE, fd, F, h1, h2, h3, h4⟩ := FT.ex
  rw [hst] at F
  exact pd_told ck F h1 FT.sc h2 FT.vc FT.le FT.ge FT.gr h3 FT.re h4 TB hcode hmT hu L LD hT0 hG.to hG.of hbody hg
/-- [script, 0, 9016, 0], the draws' list -/
@[simp ↓] def mRowNew (sa : Addr) (a : EM) (ρ : DEnv) (Q : D → Prop) (E : Xn → Prop) : Prop := a ρ (fun d => d = .adr sa ∧ Q .row) E
theorem pd_row {a : Expr} {ma : EM} {sa : Addr} {ns : List Int} {j1 j2 j3 : Nat} {p1 p2 p3 pos : Pos} (hsc : ScrAt X.K Y.A0 Y.H0 sa ns) (ha : PD X Y a ma)
    (hs : starEach [a, .Constant (.int 0) j1 p1, .Constant (.int 9016) j2 p2, .Constant (.int 0) j3 p3] X.env = (false, eval a X.env) :: starEach [.Constant (.int 0) j1 p1, .Constant (.int 9016) j2 p2, .Constant (.int 0) j3 p3] X.env := by rfl) :
    PD X Y (.List [a, .Constant (.int 0) j1 p1, .Constant (.int 9016) j2 p2, .Constant (.int 0) j3 p3] pos) (mRowNew sa ma) := by
  refine ⟨fun pins s σ H Q I ⟨A, ρ, Qd, E, env, ex, hm, k⟩ => ?_⟩
  have hl := pe_lst (X := X) (pos := pos) (pa_cons ha (pa_cons (pe_int (i := 0) (j := j1) (pos := p1)) (pa_cons (pe_int (i := 9016) (j := j2) (pos := p2)) (pa_cons (pe_int (i := 0) (j := j3) (pos := p3)) pa_nil))) hs)
  refine thn (hl.run pins s σ H (fun v H' => ∃ H1 p, v = .ref p ∧ H1 p = none ∧ H' = upd H1 p (rowL sa 0 9016 0) ∧ Q (.ref p) (upd H1 p (rowO p sa))) I ?_) fun u s1 ⟨v, H', I1, r, H1, p, e, n, eH, q⟩ => ?_
  · refine ⟨A, ρ, _, E, env, ex, hm, fun v H1 d g rv ⟨ed, q⟩ => ⟨Nat.le_trans (show 4 ≤ 1000 by decide) (small (Nat.le_refl _)), fun p hp => ?_⟩⟩
    subst ed
    cases rv
    have s2 := upd_fresh_same (o := rowO p sa) hp
    have g2 := Y.G.trans g (Y.G.same s2)
    have e2 := env.step g2
    exact ⟨H1, p, rfl, hp, rfl, k _ _ _ g2 (.row upd_same (hsc.move (.ext (Y.G.ext e2.go)) env.fr) (no_new (env.step g).aok hp)) q⟩
  · subst e eH
    have J := row_close I1 upd_same ⟨Int.le_refl 0, by decide, by decide, Int.le_refl 0⟩
    rw [upd_upd] at J
    exact ⟨_, _, J, r, q⟩
end
/-! ### more tests -/
@[simp ↓] def mIfT (t a b : EMt) (ρ : DEnv) (Q : Bool → Prop) (E : Xn → Prop) : Prop := t ρ (fun k => if k = true then a ρ Q E else b ρ Q E) E
section
variable {X : Cx} {Y : Yx} {a b e : Expr} {mt ma mb : EMt} {xa xb : EM} {C : Addr} {m : List D → M} {k j : Nat} {pos : Pos}
theorem ptd_ifx (ht : PTd X Y e mt) (ha : PTd X Y a ma) (hb : PTd X Y b mb) : PTd X Y (.IfExp e a b pos) (mIfT mt ma mb) := by
  refine ⟨fun pins s σ H Q I ⟨A, ρ, Qd, E, env, ex, hm, kk⟩ => ?_⟩
  show wpAny (model X.prog X.w) X.A (do if ← isTrue e X.env (eval e X.env) then isTrue a X.env (eval a X.env) else isTrue b X.env (eval b X.env)) _ _ _
  refine wpAny_bind (wpAny_mono (ht.run pins s σ H (fun c H1 => ∃ c', Y.G.r H H1 ∧ c = c' ∧ (if c' = true then ma ρ Qd E else mb ρ Qd E)) I ⟨A, ρ, _, E, env, ex, hm, fun v H1 d g r q => ⟨d, g, r, q⟩⟩) (fun c s1 ⟨H1, I1, c', g, ec, q⟩ => ?_) fun _ _ z => z)
  subst ec
  have env1 := env.step g
  cases c with
  | true =>
    simp only [if_true] at q ⊢
    exact ha.run pins s1 σ H1 Q I1 ⟨A, ρ, Qd, E, env1, ex, q, fun v H2 d g2 r h => kk v H2 d (Y.G.trans g g2) r h⟩
  | false =>
    simp only [Bool.false_eq_true, if_false] at q ⊢
    exact hb.run pins s1 σ H1 Q I1 ⟨A, ρ, Qd, E, env1, ex, q, fun v H2 d g2 r h => kk v H2 d (Y.G.trans g g2) r h⟩
/-- x == y as a test, x an instance with an own __eq__ -/
@[simp] def blT (Q : Bool → Prop) : D → Prop
  | .bl b => Q b
  | _ => False
@[simp ↓] def mEqT (C : Addr) (m : List D → M) (a b : EM) (ρ : DEnv) (Q : Bool → Prop) (E : Xn → Prop) : Prop := a ρ (fun x => b ρ (fun y => eqO C m x y (blT Q)) E) E
theorem ptd_eqO (c : Cok k X Y) (F : EqAt X.prog X.w X.K X.mg X.base j C m) (ha : PD X Y a xa) (hb : PD X Y b xb) (hj : j ≤ k := by decide) : PTd X Y (.Compare a [.Eq] [b] pos) (mEqT C m xa xb) :=
  pt_imp (pt_cmpR (op_eqO (c.room.mono hj) F) ha hb (nomark _)) fun σ H Q ⟨A, ρ, Qd, E, env, ex, hm, kk⟩ => ⟨A, ρ, _, E, env, ex, hm, fun v H1 d g1 r1 h1 => ⟨A, ρ, _, E, env.step g1, ex, h1, fun w H2 d2 g2 r2 h2 => by
    have env2 := (env.step g1).step g2
    have rl := r1.ext (env.step g1).aok (Y.G.ext g2)
    cases rl with
    | @ins p C' dx ks vs ds h l n r =>
      obtain ⟨⟨e, hd⟩, hm2⟩ := h2
      subst e
      have last : ∀ (d : D) (v : V) (H' : Hp), blQ (blT Qd) d → Same H2 H' → Rp X.K A H' v d → ∃ c, v = .bl c ∧ ∃ z, v = .bl z ∧ Q z H' := fun d v H' q s r => by
        cases r with
        | bl c => exact ⟨c, rfl, c, rfl, kk c H' c (Y.G.trans g1 (Y.G.trans g2 (Y.G.same s))) rfl q⟩
        | _ => exact q.elim
      rcases rp_ty r2 F.ins hd with ⟨T, hT, ty⟩ | ty
      · exact ⟨p, dx, _, _, rfl, h, ty, F.nf T hT, A, [.ins C' ks ds, d2], blQ (blT Qd), fun _ => False, env2.aok, .cons (.ins h l n r) (.cons r2 .nil), rfl, hm2, last, fun _ _ _ _ z => z.elim⟩
      · exact ⟨p, dx, _, _, rfl, h, ty, by simp [PySem.W.notFirst], A, [.ins C' ks ds, d2], blQ (blT Qd), fun _ => False, env2.aok, .cons (.ins h l n r) (.cons r2 .nil), rfl, hm2, last, fun _ _ _ _ z => z.elim⟩
    | _ => exact h2.elim⟩⟩
end
end WL
namespace WL
open PySem PySem.Calls PyProof.Rows PyProof.V PySem.Spec PySem.W
open PySem.Sem (wp)
/-! ### list(zip(t, u)) of two tuples -/
/-- what a zip over two tuples holds at place k; S: the list that is filled -/
structure ZW (g : Heap) (z TI TO i1 i2 l1 l2 S : Addr) (xs ys : Array Value) (k : Nat) : Prop where
  ti : IsPair g TI (.ref i1) (.ref i2)
  j1 : g.IsTupleIter i1 l1 k
  j2 : g.IsTupleIter i2 l2 k
  t1 : g.IsTuple l1 xs
  t2 : g.IsTuple l2 ys
  out : (IsZip g z TI TO .none ∧ ∃ a b, IsPair g TO a b) ∨ ∃ (T : Addr) (f : Bool) (oT : Obj), (IsZipHeld g z TI TO T f ∧ g.get? T = some oT) ∧ (T ≠ z ∧ T ≠ i1 ∧ T ≠ i2) ∧ T ≠ S
structure ZOff (z TI TO i1 i2 l1 l2 S : Addr) : Prop where
  ap : ZipApart z TI TO i1 i2 l1 l2
  sz : S ≠ z
  sI : S ≠ TI
  sO : S ≠ TO
  s1 : S ≠ i1
  s2 : S ≠ i2
  sa : S ≠ l1
  sb : S ≠ l2
section
variable {prog : Program} {w : World} {A : Around} {E : Value → Shared → Prop} {s : Shared} {z TI TO i1 i2 l1 l2 S : Addr} {xs ys : Array Value} {k : Nat}
theorem ZW.keep {g g' : Heap} (W : ZW g z TI TO i1 i2 l1 l2 S xs ys k) (O : ZOff z TI TO i1 i2 l1 l2 S) (hk : ∀ b o, b ≠ S → g.get? b = some o → g'.get? b = some o) : ZW g' z TI TO i1 i2 l1 l2 S xs ys k :=
  ⟨hk _ _ O.sI.symm W.ti, W.j1.at fun o => hk _ o O.s1.symm, W.j2.at fun o => hk _ o O.s2.symm, W.t1.at fun o => hk _ o O.sa.symm, W.t2.at fun o => hk _ o O.sb.symm, by
    rcases W.out with ⟨h, a, b, h2⟩ | ⟨T, f, oT, ⟨h, h2⟩, h3, h4⟩
    · exact .inl ⟨hk _ _ O.sz.symm h, a, b, hk _ _ O.sO.symm h2⟩
    · exact .inr ⟨T, f, oT, ⟨hk _ _ O.sz.symm h, hk _ _ h4 h2⟩, h3, h4⟩⟩
/-- the next pair while the one before is out -/
theorem zt_more {T : Addr} {f : Bool} {oT : Obj} {x y : Value} {Q : Value → Shared → Prop} (D : ZipApart z TI TO i1 i2 l1 l2)
    (hz : IsZipHeld s.heap z TI TO T f) (hT : s.heap.get? T = some oT) (hp : IsPair s.heap TI (.ref i1) (.ref i2)) (j1 : s.heap.IsTupleIter i1 l1 k) (j2 : s.heap.IsTupleIter i2 l2 k) (t1 : s.heap.IsTuple l1 xs) (t2 : s.heap.IsTuple l2 ys) (ex : xs[k]? = some x) (ey : ys[k]? = some y)
    (q : ∀ g, IsZipHeld g z TI TO T true → g.IsTupleIter i1 l1 (k + 1) → g.IsTupleIter i2 l2 (k + 1) → IsPair g s.heap.objs.size x y → (∀ c o, c ≠ z ∧ c ≠ i1 ∧ c ≠ i2 → s.heap.get? c = some o → g.get? c = some o) → Q (.ref s.heap.objs.size) { s with heap := g }) :
    wpAny (model prog w) A (Builtin.«zip.__next__» ⟨[.ref z], []⟩) (fun fin s' => ∃ v, fin = .done (.ret v) ∧ Q v s') E s := by
  show wpAny _ _ (field (.ref z) 2 >>= _) _ _ s
  refine wpAny_bind (wpAny_field hz rfl (x := .bool false) rfl ?_)
  show wpAny _ _ (field (.ref z) 3 >>= _) _ _ s
  refine wpAny_bind (wpAny_field hz rfl (x := .ref TI) rfl (wpAny_bind (wpAny_seqItems hp rfl ?_)))
  refine wpAny_bind (wpAny_tupleHeld_zip hz hT fun g1 hz1 hs1 => ?_)
  rw [if_neg (by decide)]
  refine wpAny_bind ?_
  rw [← Array.forIn_toList]
  simp only [List.forIn_cons, List.forIn_nil, Bool.false_eq_true, if_false]
  refine wpAny_bind (wpAny_bind (wpAny_holding ?_))
  refine wpAny_bind (RZ.nextOf_tuple_item (s := { s with heap := g1 }) (j1.extBut hs1.extBut D.i1z) (t1.extBut hs1.extBut D.l1z) ex fun g2 j1' hs2 => wpAny_pure ?_)
  refine wpAny_pure ?_
  refine wpAny_bind (wpAny_bind (wpAny_holding ?_))
  refine wpAny_bind (RZ.nextOf_tuple_item (s := { s with heap := g2 }) ((j2.extBut hs1.extBut D.i2z).extBut hs2.extBut D.i12.symm) ((t2.extBut hs1.extBut D.l2z).extBut hs2.extBut D.l2i1) ey fun g3 j2' hs3 => wpAny_pure ?_)
  refine wpAny_pure (wpAny_pure ?_)
  show wpAny _ _ (newTuple [x, y] >>= _) _ _ _
  have sz : g3.objs.size = s.heap.objs.size := by rw [hs3.1, hs2.1, hs1.1]
  refine wpAny_bind (wpAny_newTuple (wpAny_pure ⟨_, rfl, ?_⟩))
  show Q (.ref g3.objs.size) _
  have up : ∀ c o, g3.get? c = some o → (g3.push { cls := .type "tuple", data := .seq #[x, y] }).get? c = some o := fun c o e => Heap.get?_push_of_some _ e
  have np : IsPair (g3.push { cls := .type "tuple", data := .seq #[x, y] }) g3.objs.size x y := Heap.get?_push_size _ rfl
  rw [sz] at np ⊢
  exact q _ (up _ _ (hs3.extBut _ _ D.i2z.symm (hs2.extBut _ _ D.i1z.symm hz1))) ((j1'.extBut hs3.extBut D.i12).at fun o => up _ o) (j2'.at fun o => up _ o) np fun c o n e => up c o (hs3.extBut c o n.2.2 (hs2.extBut c o n.2.1 (hs1.extBut c o n.1 e)))
/-- .. and its end -/
theorem zt_over {T : Addr} {f : Bool} {oT : Obj} {Q : Fin → Shared → Prop} (hh : A.handled = none) (D : ZipApart z TI TO i1 i2 l1 l2)
    (hz : IsZipHeld s.heap z TI TO T f) (hT : s.heap.get? T = some oT) (hp : IsPair s.heap TI (.ref i1) (.ref i2)) (j1 : s.heap.IsTupleIter i1 l1 k) (j2 : s.heap.IsTupleIter i2 l2 k) (t1 : s.heap.IsTuple l1 xs) (t2 : s.heap.IsTuple l2 ys) (no : xs[k]? = none ∨ ys[k]? = none)
    (q : ∀ g e, (∀ c o, c ≠ z ∧ c ≠ i1 ∧ c ≠ i2 → s.heap.get? c = some o → g.get? c = some o) → (∃ o, g.get? e = some o ∧ o.cls = .type "StopIteration") → E (.ref e) { s with heap := g }) :
    wpAny (model prog w) A (Builtin.«zip.__next__» ⟨[.ref z], []⟩) Q E s := by
  show wpAny _ _ (field (.ref z) 2 >>= _) _ _ s
  refine wpAny_bind (wpAny_field hz rfl (x := .bool false) rfl ?_)
  show wpAny _ _ (field (.ref z) 3 >>= _) _ _ s
  refine wpAny_bind (wpAny_field hz rfl (x := .ref TI) rfl (wpAny_bind (wpAny_seqItems hp rfl ?_)))
  refine wpAny_bind (wpAny_tupleHeld_zip hz hT fun g1 hz1 hs1 => ?_)
  rw [if_neg (by decide)]
  refine wpAny_bind ?_
  rw [← Array.forIn_toList]
  simp only [List.forIn_cons, List.forIn_nil, Bool.false_eq_true, if_false]
  refine wpAny_bind (wpAny_bind (wpAny_holding ?_))
  cases hx : xs[k]? with
  | none =>
    refine wpAny_bind (RZ.nextOf_tuple_end (s := { s with heap := g1 }) hh (j1.extBut hs1.extBut D.i1z) (t1.extBut hs1.extBut D.l1z) hx fun g2 e hs2 he => ?_)
    exact q g2 e (fun c o n r => hs2 c o n.2.1 (hs1.extBut c o n.1 r)) he
  | some x =>
    have hy : ys[k]? = none := by
      rcases no with h | h
      · rw [hx] at h; cases h
      · exact h
    refine wpAny_bind (RZ.nextOf_tuple_item (s := { s with heap := g1 }) (j1.extBut hs1.extBut D.i1z) (t1.extBut hs1.extBut D.l1z) hx fun g2 j1' hs2 => wpAny_pure ?_)
    refine wpAny_pure ?_
    refine wpAny_bind (wpAny_bind (wpAny_holding ?_))
    refine wpAny_bind (RZ.nextOf_tuple_end (s := { s with heap := g2 }) hh ((j2.extBut hs1.extBut D.i2z).extBut hs2.extBut D.i12.symm) ((t2.extBut hs1.extBut D.l2z).extBut hs2.extBut D.l2i1) hy fun g3 e hs3 he => ?_)
    exact q g3 e (fun c o n r => hs3 c o n.2.2 (hs2.extBut c o n.2.1 (hs1.extBut c o n.1 r))) he
/-- a step of the walk -/
theorem zw_step {x y : Value} {Q : Option Value → Shared → Prop} (O : ZOff z TI TO i1 i2 l1 l2 S) (W : ZW s.heap z TI TO i1 i2 l1 l2 S xs ys k) (hS : S < s.heap.objs.size) (ex : xs[k]? = some x) (ey : ys[k]? = some y)
    (q : ∀ g, ZW g z TI TO i1 i2 l1 l2 S xs ys (k + 1) → IsPair g s.heap.objs.size x y → (∀ c o, c ≠ z ∧ c ≠ TO ∧ c ≠ i1 ∧ c ≠ i2 → s.heap.get? c = some o → g.get? c = some o) → Q (some (.ref s.heap.objs.size)) { s with heap := g }) :
    wpAny (model prog w) A (pyNext (.ref z)) Q E s := by
  have D := O.ap
  have fr : ∀ {c o}, s.heap.get? c = some o → s.heap.objs.size ≠ c := fun e => Nat.ne_of_gt (Heap.lt_size e)
  have n1 : s.heap.objs.size ≠ i1 := let ⟨_, e, _⟩ := W.j1; fr e
  have n2 : s.heap.objs.size ≠ i2 := let ⟨_, e, _⟩ := W.j2; fr e
  rcases W.out with ⟨h, a, b, h2⟩ | ⟨T, f, oT, ⟨h, h2⟩, h3, h4⟩
  · refine RZ.pyNext_zipT_item D h W.ti h2 W.j1 W.j2 W.t1 W.t2 ex ey fun g a1 _ a3 a4 a5 _ hk => ?_
    refine q g ⟨hk _ _ D.TIz D.TITO D.TIi1 D.TIi2 W.ti, a3, a4, W.t1.at fun o => hk _ o D.l1z D.l1TO D.l1i1 D.l1i2, W.t2.at fun o => hk _ o D.l2z D.l2TO D.l2i1 D.l2i2, .inr ⟨s.heap.objs.size, false, _, ⟨a1, a5⟩, ⟨fr h, n1, n2⟩, Nat.ne_of_gt hS⟩⟩ a5 fun c o n e => hk c o n.1 n.2.1 n.2.2.1 n.2.2.2 e
  · have hTy : s.TypeIs (.ref z) "zip" := ⟨_, h, rfl⟩
    unfold pyNext
    refine wpAny_bind (wpAny_attempt (wpAny_callSpecial?_slot (name := Str.ofString "__next__") hTy F.slot_zip_next (wpAny_call_entry F.slot_zip_next hTy F.entry_zip_next (zt_more D h h2 W.ti W.j1 W.j2 W.t1 W.t2 ex ey fun g a1 a3 a4 a5 hk => wpAny_pure ?_) (F.args_zip_next_1 _))))
    refine q g ⟨hk _ _ ⟨D.TIz, D.TIi1, D.TIi2⟩ W.ti, a3, a4, W.t1.at fun o => hk _ o ⟨D.l1z, D.l1i1, D.l1i2⟩, W.t2.at fun o => hk _ o ⟨D.l2z, D.l2i1, D.l2i2⟩, .inr ⟨T, true, oT, ⟨a1, hk _ _ h3 h2⟩, h3, h4⟩⟩ a5 fun c o n e => hk c o ⟨n.1, n.2.2.1, n.2.2.2⟩ e
theorem zw_end {Q : Option Value → Shared → Prop} (hh : A.handled = none) (O : ZOff z TI TO i1 i2 l1 l2 S) (W : ZW s.heap z TI TO i1 i2 l1 l2 S xs ys k) (no : xs[k]? = none ∨ ys[k]? = none)
    (q : ∀ g, (∀ c o, c ≠ z ∧ c ≠ TO ∧ c ≠ i1 ∧ c ≠ i2 → s.heap.get? c = some o → g.get? c = some o) → Q none { s with heap := g }) : wpAny (model prog w) A (pyNext (.ref z)) Q E s := by
  have D := O.ap
  rcases W.out with ⟨h, a, b, h2⟩ | ⟨T, f, oT, ⟨h, h2⟩, h3, h4⟩
  · exact RZ.pyNext_zipT_end hh D h W.ti h2 W.j1 W.j2 W.t1 W.t2 no fun g hk => q g fun c o n e => hk c o n.1 n.2.1 n.2.2.1 n.2.2.2 e
  · have hTy : s.TypeIs (.ref z) "zip" := ⟨_, h, rfl⟩
    unfold pyNext
    refine wpAny_bind (wpAny_attempt (wpAny_callSpecial?_slot (name := Str.ofString "__next__") hTy F.slot_zip_next (wpAny_call_entry F.slot_zip_next hTy F.entry_zip_next (zt_over hh D h h2 W.ti W.j1 W.j2 W.t1 W.t2 no fun g e hk he => ?_) (F.args_zip_next_1 _))))
    obtain ⟨o, ho, hc⟩ := he
    refine wpAny_bind (wpAny_isInstance (T := "StopIteration") (b := true) ⟨o, ho, hc⟩ isSubtype_stop (wpAny_pure (q g fun c o n e => hk c o ⟨n.1, n.2.2.1, n.2.2.2⟩ e)))
end
end WL
namespace WL
open PySem PySem.Calls PyProof.Rows PyProof.V PySem.Spec PySem.W
open PySem.Sem (wp)
theorem zip_nolen : typeLookup (.type "zip") "__len__" = pure none := by
  rw [typeLookup_type, builtinLookup_eq_fast]
  kernel_rfl
theorem zip_nohint : typeLookup (.type "zip") "__length_hint__" = pure none := by
  rw [typeLookup_type, builtinLookup_eq_fast]
  kernel_rfl
/-- the pairs made so far -/
structure ZG (xs ys : Array Value) (lo : Addr) (g : Heap) (as : List Addr) : Prop where
  up : as.Pairwise (· < ·)
  ab : ∀ a ∈ as, lo < a
  pr : ∀ (j : Nat) (a : Addr), as[j]? = some a → ∃ x y, (xs[j]? = some x ∧ ys[j]? = some y) ∧ IsPair g a x y
section
variable {prog : Program} {w : World} {A : Around} {E : Value → Shared → Prop} {s : Shared} {z TI TO i1 i2 l1 l2 S : Addr} {xs ys : Array Value} {n : Nat}
theorem zip_loop {R : Result → Shared → Prop} (hh : A.handled = none) (O : ZOff z TI TO i1 i2 l1 l2 S) (hn : n = min xs.size ys.size) (hl : n ≤ sizeLine) (res : Value) {g0 : Heap} {lo : Addr} (hlo : z ≤ lo ∧ TO ≤ lo ∧ i1 ≤ lo ∧ i2 ≤ lo ∧ S ≤ lo)
    (hR : ∀ g tk acc c as, (∀ b o, b ≠ S → (b ≠ z ∧ b ≠ TO ∧ b ≠ i1 ∧ b ≠ i2) → g0.get? b = some o → g.get? b = some o) → g.get? S = some { cls := .type "list", dict := none, data := .seq acc c, slots := #[] } → as.length = n → ZG xs ys lo g as → acc.toList = as.map Value.ref → R (.ok (.ret res)) { s with heap := g, toks := tk }) :
    ∀ (m i : Nat) (g : Heap) (tk c : Nat) (acc : Array Value) (as : List Addr), n - i = m → i ≤ n → ZW g z TI TO i1 i2 l1 l2 S xs ys i → (∀ b o, b ≠ S → (b ≠ z ∧ b ≠ TO ∧ b ≠ i1 ∧ b ≠ i2) → g0.get? b = some o → g.get? b = some o) → g.get? S = some { cls := .type "list", dict := none, data := .seq acc c, slots := #[] } → acc.toList = as.map Value.ref → as.length = i → ZG xs ys lo g as → lo < g.objs.size →
      codeAny (model prog w) A (.builtin "list.extend.loop" ⟨[.ref S, .ref z, res], []⟩) R { s with heap := g, toks := tk } := by
  intro m
  have nS : S ≠ z ∧ S ≠ TO ∧ S ≠ i1 ∧ S ≠ i2 := ⟨O.sz, O.sO, O.s1, O.s2⟩
  have off : ∀ {a}, lo < a → (a ≠ z ∧ a ≠ TO ∧ a ≠ i1 ∧ a ≠ i2) ∧ a ≠ S := fun h => by
    obtain ⟨h1, h2, h3, h4, h5⟩ := hlo
    exact ⟨⟨Nat.ne_of_gt (Nat.lt_of_le_of_lt h1 h), Nat.ne_of_gt (Nat.lt_of_le_of_lt h2 h), Nat.ne_of_gt (Nat.lt_of_le_of_lt h3 h), Nat.ne_of_gt (Nat.lt_of_le_of_lt h4 h)⟩, Nat.ne_of_gt (Nat.lt_of_le_of_lt h5 h)⟩
  induction m with
  | zero =>
    intro i g tk c acc as hm hi W hk hS ha hal G hz
    have e : i = n := by omega
    have no : xs[i]? = none ∨ ys[i]? = none := by
      rcases Nat.le_total xs.size ys.size with h | h
      · exact .inl (Array.getElem?_eq_none (by omega))
      · exact .inr (Array.getElem?_eq_none (by omega))
    refine codeAny_builtin PySem.F.entry_extend_loop ?_
    rw [Around.under_plainId PySem.F.plain_extend_loop _]
    show wpAny _ A.in1 (pyNext (.ref z) >>= _) _ _ _
    refine wpAny_bind (zw_end (s := { s with heap := g, toks := tk }) (A := A.in1) hh O W no fun g' hk' => ?_)
    refine wpAny_pure (hR g' tk acc c as (fun b o h1 h2 q => hk' b o h2 (hk b o h1 h2 q)) (hk' S _ nS hS) (by omega) ⟨G.up, G.ab, fun j a hj => ?_⟩ ha)
    obtain ⟨x, y, e1, e2⟩ := G.pr j a hj
    exact ⟨x, y, e1, hk' a _ (off (G.ab a (List.mem_of_getElem? hj))).1 e2⟩
  | succ m ih =>
    intro i g tk c acc as hm hi W hk hS ha hal G hz
    have hx : i < xs.size := by omega
    have hy : i < ys.size := by omega
    have ex := Array.getElem?_eq_getElem hx
    have ey := Array.getElem?_eq_getElem hy
    have hsz : acc.size = i := by rw [← Array.length_toList, ha, List.length_map, hal]
    have hSl : S < g.objs.size := Heap.lt_size hS
    refine codeAny_builtin PySem.F.entry_extend_loop ?_
    rw [Around.under_plainId PySem.F.plain_extend_loop _]
    show wpAny _ A.in1 (pyNext (.ref z) >>= _) _ _ _
    refine wpAny_bind (zw_step (s := { s with heap := g, toks := tk }) O W hSl ex ey fun g' W' hp hk' => ?_)
    replace hp : IsPair g' g.objs.size xs[i] ys[i] := hp
    have hS' := hk' S _ nS hS
    have up : ∀ b o, b ≠ S → g'.get? b = some o → (g'.update S (Obj.mapSeq (·.push (Value.ref g.objs.size)))).get? b = some o := fun b o hb q => (Heap.get?_update_other _ _ (Ne.symm hb)).trans q
    have nw := up _ _ (Nat.ne_of_gt hSl) hp
    show wpAny _ A.in1 (updateSeq S (·.push (Value.ref g.objs.size)) >>= _) _ _ _
    refine wpAny_bind ?_
    refine wpAny_updateSeq hS' rfl (wpAny_pure ⟨plainId_quiet PySem.F.plain_extend_loop _, ih (i + 1) _ tk _ (acc.push (Value.ref g.objs.size)) (as ++ [g.objs.size]) (by omega) (by omega) (W'.keep O up)
      (fun b o h1 h2 q => up b o h1 (hk' b o h2 (hk b o h1 h2 q))) (Heap.get?_update_self _ hS' rfl) (by rw [Array.toList_push, ha, List.map_append]; rfl) (by rw [List.length_append, hal]; rfl) ⟨?_, ?_, ?_⟩ (Nat.lt_trans hz (Heap.lt_size nw))⟩) (by rw [hsz]; omega) (by show (acc.push (Value.ref g.objs.size)).size ≤ sizeLine + 1; rw [Array.size_push, hsz]; omega)
    · refine List.pairwise_append.mpr ⟨G.up, List.pairwise_singleton _ _, fun a ma b mb => ?_⟩
      rw [List.mem_singleton.mp mb]
      obtain ⟨j, hj⟩ := List.mem_iff_getElem?.mp ma
      obtain ⟨_, _, _, q⟩ := G.pr j a hj
      exact Heap.lt_size q
    · intro a ma
      rcases List.mem_append.mp ma with h | h
      · exact G.ab a h
      · rw [List.mem_singleton.mp h]; exact hz
    · intro j b hj
      rcases Nat.lt_trichotomy j as.length with h1 | h1 | h1
      · rw [List.getElem?_append_left h1] at hj
        obtain ⟨x, y, q1, q2⟩ := G.pr j b hj
        have ob := off (G.ab b (List.mem_of_getElem? hj))
        exact ⟨x, y, q1, up b _ ob.2 (hk' b _ ob.1 q2)⟩
      · subst h1
        have eb : g.objs.size = b := by simpa using hj
        subst eb
        rw [hal]
        exact ⟨_, _, ⟨ex, ey⟩, nw⟩
      · rw [List.getElem?_eq_none (by rw [List.length_append, List.length_singleton]; omega)] at hj
        cases hj
/-- list(a zip) -/
theorem zip_list {Q : Value → Shared → Prop} (hh : A.handled = none) (D : ZipApart z TI TO i1 i2 l1 l2) (hz : IsZip s.heap z TI TO .none) (hp : IsPair s.heap TI (.ref i1) (.ref i2)) (ho : ∃ a b, IsPair s.heap TO a b) (j1 : s.heap.IsTupleIter i1 l1 0) (j2 : s.heap.IsTupleIter i2 l2 0)
    (t1 : s.heap.IsTuple l1 xs) (t2 : s.heap.IsTuple l2 ys) (hn : n = min xs.size ys.size) (hl : n ≤ sizeLine)
    (q : ∀ g tk acc c as, (∀ b o, (b ≠ z ∧ b ≠ TO ∧ b ≠ i1 ∧ b ≠ i2) → s.heap.get? b = some o → g.get? b = some o) → g.get? s.heap.objs.size = some { cls := .type "list", dict := none, data := .seq acc c, slots := #[] } → as.length = n → ZG xs ys s.heap.objs.size g as → acc.toList = as.map Value.ref → Q (.ref s.heap.objs.size) { s with heap := g, toks := tk }) :
    wpAny (model prog w) A (call (.type "list") [.ref z]) Q E s := by
  obtain ⟨a0, b0, ho⟩ := ho
  have lz := Heap.lt_size hz
  have lI := Heap.lt_size hp
  have lO := Heap.lt_size ho
  have l1' : i1 < s.heap.objs.size := let ⟨_, e, _⟩ := j1; Heap.lt_size e
  have l2' : i2 < s.heap.objs.size := let ⟨_, e, _⟩ := j2; Heap.lt_size e
  have m1' : l1 < s.heap.objs.size := let ⟨_, e, _⟩ := t1; Heap.lt_size e
  have m2' : l2 < s.heap.objs.size := let ⟨_, e, _⟩ := t2; Heap.lt_size e
  have O : ZOff z TI TO i1 i2 l1 l2 s.heap.objs.size := ⟨D, Nat.ne_of_gt lz, Nat.ne_of_gt lI, Nat.ne_of_gt lO, Nat.ne_of_gt l1', Nat.ne_of_gt l2', Nat.ne_of_gt m1', Nat.ne_of_gt m2'⟩
  have W0 : ZW s.heap z TI TO i1 i2 l1 l2 s.heap.objs.size xs ys 0 := ⟨hp, j1, j2, t1, t2, .inl ⟨hz, a0, b0, ho⟩⟩
  have hsn : ∀ b o, s.heap.get? b = some o → b ≠ s.heap.objs.size := fun b o e => Nat.ne_of_lt (Heap.lt_size e)
  refine callType_codes (Q₁ := fun obj s₁ => obj = .ref s.heap.objs.size ∧ s₁ = { s with heap := s.heap.push { cls := .type "list", data := .seq #[] } }) PySem.F.called_list (PySem.F.typeCall_list_1 _) PySem.F.entry_list_init (code_list_new _ ⟨rfl, rfl⟩) fun obj s₁ h₁ => ?_
  obtain ⟨rfl, rfl⟩ := h₁
  generalize hg1 : s.heap.push { cls := .type "list", data := .seq #[] } = g1
  have hS : g1.get? s.heap.objs.size = some { cls := .type "list", data := .seq #[] } := by rw [← hg1]; exact Heap.get?_push_size _ rfl
  have k1 : ∀ b o, s.heap.get? b = some o → g1.get? b = some o := fun b o e => by rw [← hg1]; exact Heap.get?_push_of_some _ e
  refine ⟨⟨_, hS, rfl⟩, PySem.F.args_list_init_2 _ _, ?_⟩
  show wpAny _ _ (do let old ← Builtin.List.listItems (.ref s.heap.objs.size); Builtin.List.listUpdate (.ref s.heap.objs.size) (fun _ => #[]); letGo old.toList.reverse; Builtin.List.listExtendWith (.ref s.heap.objs.size) (.ref z) .none) _ _ _
  refine wpAny_bind ?_
  unfold Builtin.List.listItems
  refine wpAny_bind (wpAny_seqItems (s := { s with heap := g1 }) hS rfl (wpAny_pure ?_))
  show wpAny _ _ (updateSeq s.heap.objs.size (fun _ => #[]) >>= fun _ => letGo (#[] : Array Value).toList.reverse >>= fun _ => Builtin.List.listExtendWith (.ref s.heap.objs.size) (.ref z) .none) _ _ _
  refine wpAny_bind (wpAny_updateSeq (s := { s with heap := g1 }) hS rfl ?_)
  have hS2 := Heap.get?_update_self (Obj.mapSeq (fun _ => (#[] : Array Value))) hS rfl
  have k2 : ∀ b o, b ≠ s.heap.objs.size → g1.get? b = some o → (g1.update s.heap.objs.size (Obj.mapSeq (fun _ => (#[] : Array Value)))).get? b = some o := fun b o hb e => (Heap.get?_update_other _ _ (Ne.symm hb)).trans e
  generalize g1.update s.heap.objs.size (Obj.mapSeq (fun _ => (#[] : Array Value))) = g2 at hS2 k2
  refine wpAny_bind (wpAny_letGo ?_)
  have k12 : ∀ b o, s.heap.get? b = some o → g2.get? b = some o := fun b o e => k2 b o (hsn b o e) (k1 b o e)
  have hz2 : IsZip g2 z TI TO .none := k12 _ _ hz
  have hTy : ({ s with heap := g2 } : Shared).TypeIs (.ref z) "zip" := ⟨_, hz2, rfl⟩
  unfold Builtin.List.listExtendWith
  refine wpAny_bind (wpAny_typeOf (T := "zip") hTy ?_)
  have h1 : Builtin.List.listSameRef (.ref s.heap.objs.size) (.ref z) = false := by simp [Builtin.List.listSameRef, O.sz]
  rw [if_neg (by rw [h1]; decide)]
  refine wpAny_bind (wpAny_pyIter_zip (s := { s with heap := g2 }) hz2 ?_)
  refine wpAny_bind (wpAny_holding ?_)
  unfold Builtin.List.listLengthHint
  refine wpAny_bind (wpAny_specialOf hTy zip_nolen ?_)
  show wpAny _ _ (specialOf (Value.ref z) (Str.ofString "__length_hint__") >>= _) _ _ _
  refine wpAny_bind (wpAny_specialOf hTy zip_nohint (wpAny_pure ?_))
  have go : ∀ (g : Heap) (c : Nat), (∀ b o, b ≠ s.heap.objs.size → g2.get? b = some o → g.get? b = some o) → g.get? s.heap.objs.size = some { cls := .type "list", data := .seq #[] c } →
      codeAny (model prog w) A.in1 (.builtin "list.extend.loop" ⟨[.ref s.heap.objs.size, .ref z, .none], []⟩) (wants (fun r s' => r = Value.none ∧ Q (.ref s.heap.objs.size) s') E) { s with heap := g } := fun g c hk hSg => by
    refine zip_loop (prog := prog) (w := w) (A := A.in1) (R := wants (fun r s' => r = Value.none ∧ Q (.ref s.heap.objs.size) s') E) (s := s) (g0 := s.heap) (lo := s.heap.objs.size) (n := n) hh O hn hl .none ⟨Nat.le_of_lt lz, Nat.le_of_lt lO, Nat.le_of_lt l1', Nat.le_of_lt l2', Nat.le_refl _⟩ (fun g' tk acc c as hk' hS' hal G ha => ⟨rfl, q g' tk acc c as (fun b o nb e => hk' b o (hsn b o e) nb e) hS' hal G ha⟩)
      n 0 g s.toks c #[] [] (Nat.sub_zero _) (Nat.zero_le _) ((W0.keep O fun b o nb e => hk b o nb (k12 b o e))) (fun b o nb _ e => hk b o nb (k12 b o e)) hSg rfl rfl ⟨List.Pairwise.nil, (fun _ h => nomatch h), (fun j a h => by simp at h)⟩ (Heap.lt_size hSg)
  show wpAny _ _ (rule "list.extend.makes-room" >>= fun _ => Builtin.List.listTouch (.ref s.heap.objs.size) >>= fun _ => again (.builtin "list.extend.loop" ⟨[.ref s.heap.objs.size, .ref z, .none], []⟩)) _ _ _
  refine wpAny_bind (wpAny_rule (wpAny_bind ?_))
  show wpAny _ _ (updateSeq s.heap.objs.size (·.push .none) >>= fun _ => updateSeq s.heap.objs.size (·.pop)) _ _ _
  refine wpAny_bind (wpAny_updateSeq (s := { s with heap := g2 }) hS2 rfl ?_)
  have hS3 := Heap.get?_update_self (Obj.mapSeq (·.push Value.none)) hS2 rfl
  refine wpAny_updateSeq (hz := by seq_fits) hS3 rfl (wpAny_pure ⟨plainId_quiet PySem.F.plain_extend_loop _, go _ _ (fun b o nb e => ?_) (Heap.get?_update_self (Obj.mapSeq (·.pop)) hS3 rfl)⟩)
  exact (Heap.get?_update_other _ _ (Ne.symm nb)).trans ((Heap.get?_update_other _ _ (Ne.symm nb)).trans e)
end
end WL
namespace WL
open L2 PySem PySem.Spec
/-- the pairs stand at their addresses -/
def putP : Hp → List Addr → List (V × V) → Hp
  | H, a :: as, p :: ps => putP (upd H a (.tup [p.1, p.2])) as ps
  | H, _, _ => H
theorem putP_off {b : Addr} : ∀ (as : List Addr) (ps : List (V × V)) (H : Hp), b ∉ as → putP H as ps b = H b
  | [], _, _, _ => rfl
  | _ :: _, [], _, _ => rfl
  | a :: as, p :: ps, H, h => by
    rw [putP, putP_off as ps _ fun z => h (List.mem_cons_of_mem _ z)]
    exact upd_ne fun z => h (z ▸ List.mem_cons_self ..)
theorem putP_at : ∀ (as : List Addr) (ps : List (V × V)) (H : Hp), as.Nodup → ∀ {j : Nat} {a : Addr} {p : V × V}, as[j]? = some a → ps[j]? = some p → putP H as ps a = some (.tup [p.1, p.2])
  | [], _, _, _, _, _, _, h, _ => by simp at h
  | _ :: _, [], _, _, _, _, _, _, h => by simp at h
  | a :: as, p :: ps, H, hn, 0, _, _, ha, hp => by
    cases ha
    cases hp
    rw [putP, putP_off as ps _ (List.nodup_cons.mp hn).1, upd_same]
  | a :: as, p :: ps, H, hn, j + 1, _, _, ha, hp => putP_at as ps _ (List.nodup_cons.mp hn).2 (by simpa using ha) (by simpa using hp)
section
variable {X : Cx} {pins : List (Addr × Obj)} {σ : L2.St} {H : Hp} {s : Shared}
theorem refs_vals : ∀ as : List Addr, Vals (as.map V.ref) (as.map Value.ref)
  | [] => .nil
  | _ :: as => .cons rfl (refs_vals as)
theorem vals_at : ∀ {xs : List V} {us : List Value}, Vals xs us → ∀ {j : Nat} {u : Value}, us[j]? = some u → ∃ x, xs[j]? = some x ∧ RelV x u
  | _, _, .nil, j, u, h => by simp at h
  | _, _, .cons r t, 0, u, h => by cases h; exact ⟨_, rfl, r⟩
  | _, _, .cons r t, j + 1, u, h => vals_at t (by simpa using h)
theorem pairs_laid {g : Heap} {tk : Nat} {p : Addr} {vx vy : List V} {ux uy : List Value} {acc : Array Value} {c : Nat} {as : List Addr} (I : Inv X pins σ H s) (rx : Vals vx ux) (ry : Vals vy uy) (hp0 : s.heap.objs.size ≤ p)
    (hk : ∀ b o, s.heap.get? b = some o → g.get? b = some o) (hS : g.get? p = some { cls := .type "list", dict := none, data := .seq acc c, slots := #[] }) (hl : as.length = (vx.zip vy).length) (hz : as.length ≤ sizeLine) (G : ZG ux.toArray uy.toArray p g as) (ha : acc.toList = as.map Value.ref) :
    ∃ H' : Hp, Same H H' ∧ H p = none ∧ H' p = some (.lst (as.map V.ref)) ∧ (∀ (j : Nat) (a : Addr) (q : V × V), as[j]? = some a → (vx.zip vy)[j]? = some q → H' a = some (.tup [q.1, q.2])) ∧ Inv X pins σ H' { s with heap := g, toks := tk } := by
  have hpn : p ∉ as := fun z => Nat.lt_irrefl _ (G.ab _ z)
  have nd : as.Nodup := List.Pairwise.imp (fun {a b} (h : a < b) => Nat.ne_of_lt h) G.up
  have nt : ∀ t ∈ as, H t = none := fun t m => I.hok.fresh (Nat.le_of_lt (Nat.lt_of_le_of_lt hp0 (G.ab t m)))
  have np : H p = none := I.hok.fresh hp0
  obtain ⟨H', hH⟩ : ∃ H', H' = putP (upd H p (.lst (as.map V.ref))) as (vx.zip vy) := ⟨_, rfl⟩
  have e1 : H' p = some (.lst (as.map V.ref)) := by rw [hH, putP_off as _ _ hpn, upd_same]
  have e2 : ∀ (j : Nat) (a : Addr) (q : V × V), as[j]? = some a → (vx.zip vy)[j]? = some q → H' a = some (.tup [q.1, q.2]) := fun j a q h1 h2 => by rw [hH]; exact putP_at as _ _ nd h1 h2
  have e3 : ∀ b, b ∉ as → b ≠ p → H' b = H b := fun b h1 h2 => by rw [hH, putP_off as _ _ h1, upd_ne h2]
  have kp : ∀ b u, H b = some u → H' b = some u := fun b u e => by
    rw [e3 b (fun z => by rw [nt b z] at e; cases e) fun z => by rw [z, np] at e; cases e]
    exact e
  refine ⟨H', kp, np, e1, e2, ?_⟩
  refine I.call' (ch := []) rfl ⟨fun b o q _ _ _ => hk b o q, fun b o q _ _ _ => ⟨o.slots, hk b o q⟩, fun b o q n _ => ?_, fun b o q _ => ⟨o, hk b o q⟩, fun b xs q => kp b _ q, fun b o u q => kp b _ q, fun b ps q => ⟨#[], by rw [kp b _ q]; simp⟩⟩ (fun b u q => ?_) I.bare fun b z => nomatch z
  · have lb := Heap.lt_size q
    rw [e3 b (fun z => absurd (Nat.lt_trans (Nat.lt_of_lt_of_le lb hp0) (G.ab b z)) (Nat.lt_irrefl _)) (Nat.ne_of_lt (Nat.lt_of_lt_of_le lb hp0))]
    exact n
  · by_cases hb : b ∈ as
    · obtain ⟨j, hj⟩ := List.mem_iff_getElem?.mp hb
      obtain ⟨x, y, ⟨f1, f2⟩, f3⟩ := G.pr j b hj
      have jl : j < as.length := (List.getElem?_eq_some_iff.mp hj).1
      have hq := List.getElem?_eq_getElem (show j < (vx.zip vy).length by omega)
      have e := e2 j b _ hj hq
      rw [e] at q
      cases q
      obtain ⟨x', g1, g2⟩ := vals_at rx (by simpa using f1)
      obtain ⟨y', g3, g4⟩ := vals_at ry (by simpa using f2)
      have hz2 := List.getElem?_zip_eq_some.mp hq
      rw [hz2.1] at g1
      rw [hz2.2] at g3
      cases g1
      cases g3
      exact ⟨by show 2 ≤ sizeLine; decide, [x, y], .cons g2 (.cons g4 .nil), ⟨_, f3, rfl, _, rfl⟩⟩
    · by_cases hb2 : b = p
      · rw [hb2] at q ⊢
        rw [e1] at q
        cases q
        refine ⟨by rw [List.length_map]; exact hz, acc.toList, c, by rw [ha]; exact refs_vals as, ?_⟩
        rw [Array.toArray_toList]
        exact hS
      · rw [e3 b hb hb2] at q
        exact (I.hok b u q).stay (fun d v _ y => hk d v y) (fun d y => kp d _ y) fun d xs y => kp d _ y
def iLZip (K : PySem.W.Frag) (ta : TA) : TE := fun σ H Q => ta σ H fun vs H1 => ∃ a b xs ys, vs = [.ref a, .ref b] ∧ (SqT K H1 a xs ∧ SqT K H1 b ys ∧ (xs.zip ys).length ≤ 1000) ∧
  ∀ (H' : Hp) (p : Addr) (as : List Addr), Same H1 H' → H1 p = none → H' p = some (.lst (as.map V.ref)) → as.length = (xs.zip ys).length → (∀ (j : Nat) (a : Addr) (q : V × V), as[j]? = some a → (xs.zip ys)[j]? = some q → H' a = some (.tup [q.1, q.2])) → Q (.ref p) H'
theorem pe_listZip {e e2 : Expr} {ta : TA} {p p2 pos cpos : Pos} (hc : X.calm = true) (hg : Gl X "list") (hm : X.mg "list" = none) (hv : bootBuiltins "list" = some (.type "list")) (hg2 : Gl X "zip") (hm2 : X.mg "zip" = none) (ha : PA X [e, e2] ta)
    (hs : starEach [e, e2] X.env = (false, eval e X.env) :: starEach [e2] X.env := by rfl) (hpl : (backTo cpos (starEach [e2] X.env)).any (·.1) = false := by rfl)
    (hs2 : starEach [.Call (.Name "zip" p2) [e, e2] [] cpos] X.env = (false, eval (.Call (.Name "zip" p2) [e, e2] [] cpos) X.env) :: starEach [] X.env := by rfl) : PE X (.Call (.Name "list" p) [.Call (.Name "zip" p2) [e, e2] [] cpos] [] pos) (iLZip X.K ta) := by
  refine ⟨fun pins s σ H Q I hq => wpAny_Call_Name_kw (ld_blt I hg hm hv (PyProof.Rows.callWith_type1 ?_ hs2 rfl))⟩
  rw [hs2]
  show wpAny _ _ (spliced ((false, eval (.Call (.Name "zip" p2) [e, e2] [] cpos) X.env) :: backTo pos (starEach [] X.env))) _ _ s
  refine Calls.spliced_cons ?_
  refine wpAny_Call_Name_kw (ld_blt I hg2 hm2 PyProof.Rows.boot_zip (PyProof.Rows.callWith_type1 (thn (ha.run cpos pins s σ H _ I hq) fun us s1 ⟨vs, H1, I1, r1, q1⟩ => ?_) hs hpl))
  obtain ⟨a, b, xs, ys, ex, ⟨hx, hy, hle⟩, q⟩ := q1
  subst ex
  cases r1 with
  | cons r rr =>
    cases rr with
    | cons r' rr =>
      cases rr
      cases r
      cases r'
      obtain ⟨its, rv, p1, _⟩ := I1.tuple hx
      obtain ⟨its2, rv2, p2, _⟩ := I1.tuple hy
      have la : a < s1.heap.objs.size := let ⟨_, h, _⟩ := id p1; Heap.lt_size h
      have lb : b < s1.heap.objs.size := let ⟨_, h, _⟩ := id p2; Heap.lt_size h
      refine RZ.call_zipT (show s1.heap.IsTuple a its.toArray from p1) (show s1.heap.IsTuple b its2.toArray from p2) fun g hz hTI hTO h1 h2 hsz hk => ?_
      refine Calls.spliced_nil ?_
      have t1 : g.IsTuple a its.toArray := Heap.IsTuple.at (show s1.heap.IsTuple a its.toArray from p1) fun o => hk _ o
      have t2 : g.IsTuple b its2.toArray := Heap.IsTuple.at (show s1.heap.IsTuple b its2.toArray from p2) fun o => hk _ o
      have lxy : (xs.zip ys).length = min its.toArray.size its2.toArray.size := by
        rw [List.length_zip, List.size_toArray, List.size_toArray, rv.length, rv2.length]
      refine zip_list (s := { s1 with heap := g }) (I1.ok.hd hc) (PySem.W.ktu_apart s1.heap.objs.size a b la lb) hz hTI ⟨_, _, hTO⟩ h1 h2 t1 t2 lxy (Nat.le_trans hle (by decide)) fun g' tk acc c as hk' hS hal G hacc => ?_
      have fr : ∀ b o, s1.heap.get? b = some o → b < s1.heap.objs.size := fun b o e => Heap.lt_size e
      obtain ⟨H', k1, k2, k3, k4, J⟩ := pairs_laid (tk := tk) (g := g') (p := g.objs.size) I1 rv rv2 (by rw [hsz]; exact Nat.le_add_right _ _) (fun b o e => hk' b o (by have := fr b o e; exact ⟨Nat.ne_of_lt (Nat.lt_of_lt_of_le this (Nat.le_add_right _ _)), Nat.ne_of_lt (Nat.lt_of_lt_of_le this (Nat.le_add_right _ _)), Nat.ne_of_lt this, Nat.ne_of_lt (Nat.lt_of_lt_of_le this (Nat.le_add_right _ _))⟩) (hk b o e)) hS hal (by rw [hal]; exact Nat.le_trans hle (by decide)) G hacc
      exact ⟨.ref _, H', J, rfl, q H' _ as k1 k2 k3 hal k4⟩
end
/-- two tuples in pairs, in a new list -/
def zpL : F2F
  | .tup xs, .tup ys, Q => (xs.length ≤ 1000 ∧ ys.length ≤ 1000) ∧ Q (paird xs ys)
  | _, _, _ => False
@[simp] theorem zpL_e {xs ys : List D} {Q : List D → Prop} : zpL (.tup xs) (.tup ys) Q = ((xs.length ≤ 1000 ∧ ys.length ≤ 1000) ∧ Q (paird xs ys)) := rfl
section
variable {X : Cx} {Y : Yx} {a b : Expr} {ma mb : EM} {p p2 pos cpos : Pos}
theorem rp_all {K : PySem.W.Frag} {A : Addr → Prop} {H : Hp} : ∀ {vs : List V} {ds : List D}, vs.length = ds.length → (∀ (j : Nat) (v : V) (d : D), vs[j]? = some v → ds[j]? = some d → Rp K A H v d) → RpAll K A H vs ds
  | [], [], _, _ => .nil
  | [], _ :: _, h, _ => nomatch h
  | _ :: _, [], h, _ => nomatch h
  | v :: vs, d :: ds, h, k => .cons (k 0 v d rfl rfl) (rp_all (Nat.succ.inj h) fun j v d h1 h2 => k (j + 1) v d h1 h2)
theorem pf_lzip (hc : X.calm = true) (hm : X.mg "list" = none) (hm2 : X.mg "zip" = none) (ha : PD X Y a ma) (hb : PD X Y b mb) (hg : Gl X "list" := by rfl) (hg2 : Gl X "zip" := by rfl) (hv : bootBuiltins "list" = some (.type "list") := by decide +kernel)
    (hs : starEach [a, b] X.env = (false, eval a X.env) :: starEach [b] X.env := by rfl) (hs2 : starEach [b] X.env = (false, eval b X.env) :: starEach [] X.env := by rfl) (hpl : (backTo cpos (starEach [b] X.env)).any (·.1) = false := by rfl)
    (hs3 : starEach [.Call (.Name "zip" p2) [a, b] [] cpos] X.env = (false, eval (.Call (.Name "zip" p2) [a, b] [] cpos) X.env) :: starEach [] X.env := by rfl) : PF X Y (.Call (.Name "list" p) [.Call (.Name "zip" p2) [a, b] [] cpos] [] pos) (m2F zpL ma mb) :=
  pe_imp (pe_listZip hc hg hm hv hg2 hm2 (pa2 ha hb hs hs2) hs hpl hs3) fun σ H R ⟨A, ρ, Qd, E, env, ex, hm, k⟩ => ⟨A, ρ, fun d => zpL d.1 d.2 Qd, E, env, ex, hm, fun vs H1 d g ⟨v, w, e1, r, r2⟩ hq => by
    subst e1
    obtain ⟨d, e⟩ := d
    cases r with
    | @tup a xs ds h r =>
     cases r2 with
     | @tup b ys es h2 r2 =>
      obtain ⟨⟨l1, l2⟩, hq⟩ := hq
      have lx := r.length
      have ly := r2.length
      refine ⟨a, b, xs, ys, rfl, ⟨h, h2, by rw [List.length_zip]; omega⟩, fun H' p as sm hp e hal hat => k _ _ _ (Y.G.trans g (Y.G.same sm)) ⟨p, as.map V.ref, rfl, ?_, e, ?_⟩ hq⟩
      · exact (Nt.of hp).back (Y.G.ext g)
      · have ok := (env.step g).aok
        have mv : ∀ {v : V} {d : D}, Rp X.K A H1 v d → Rp X.K (Ap A p) H' v d := fun r => r.move ok (.ext (extN_same sm)) fun a z => z.elim .inl fun z => .inr (z ▸ Nt.of hp)
        refine rp_all (by rw [List.length_map, hal, paird, List.length_map, List.length_zip, List.length_zip, lx, ly]) fun j v d h1 h2' => ?_
        rw [List.getElem?_map] at h1
        obtain ⟨t, ht, rfl⟩ := Option.map_eq_some_iff.mp h1
        rw [paird, List.getElem?_map] at h2'
        obtain ⟨q, hq', rfl⟩ := Option.map_eq_some_iff.mp h2'
        have hz := List.getElem?_zip_eq_some.mp hq'
        have jl : j < (xs.zip ys).length := by rw [← hal]; exact (List.getElem?_eq_some_iff.mp ht).1
        have hv := List.getElem?_eq_getElem jl
        have hvz := List.getElem?_zip_eq_some.mp hv
        refine .tup (SqT.of (hat j t _ ht hv)) (.cons (mv ?_) (.cons (mv ?_) .nil))
        · obtain ⟨d', g1, g2⟩ := r.getV hvz.1
          rw [hz.1] at g1; cases g1; exact g2
        · obtain ⟨d', g1, g2⟩ := r2.getV hvz.2
          rw [hz.2] at g1; cases g1; exact g2
     | _ => exact hq.elim
    | _ => exact hq.elim⟩
end
end WL
namespace K16
open L2 PySem PySem.Spec WL
def m__law_alike (_ : PySem.W.Frag) : List D → M := WL.m__law_alike 40
def m__law_spoiled (_ : PySem.W.Frag) : List D → M := WL.m__law_spoiled 40
/-- hours that must be given on -/
def unfairL (rs : List Rw) : Int := ((List.range rs.length).map fun k => max 0 ((hrsL rs).getD k 0 - (inTurn (wts rs) (hrsL rs).sum.toNat).getD k 0)).sum
def m_unfair_hours (K : PySem.W.Frag) : List D → M := fun ds Q _ => ∃ rs, vR rs ∧ ds = [tD K rs] ∧ Q (.int (unfairL rs))
def m__law_refusal (K : PySem.W.Frag) : MZ := fun x Q => (∃ pl pt, x = ⟨He.ga K "BadPart", ks_BadPart, [pl, pt]⟩ ∧ Q (.tup [.str "BadPart", pt, pl])) ∨ (∃ v, x = ⟨He.ga K "BadNumber", ks_BadNumber, [v]⟩ ∧ Q (.tup [.str "BadNumber", v])) ∨ ∃ v, x = ⟨He.ga K "Unknown", ks_Unknown, [v]⟩ ∧ Q (.tup [.str "Unknown", v])
end K16
namespace K16
open L2 PySem PySem.Spec WL
def t_law_0 (K : PySem.W.Frag) (sa : Addr) : SM :=
  (sSet (mRowNew sa (mVar 0)) 1)
def t_law_1 (K : PySem.W.Frag) (sa : Addr) : SM :=
  (sSet (mCall 1 (m__law_turns K) (mCons (mVar 1) mNil)) 2)
def t_law_2 (K : PySem.W.Frag) (sa : Addr) : SM :=
  (sPar [3, 4, 5] (mlD (mMake (He.ga K "Turns") ks_Turns 1 (m_Turns K) (mCons (mVar 2) mNil)) (mlD (m1 tupM (mNew (mLc (miT (m2 ixM (mVar 2) (mK (.int 0)))) [6] (.nm 6) mYes (m2 ixM (mVar 6) (mK (.int 0)))))) (mlD (mCall 1 (m__law_envies K) (mCons (mVar 2) mNil)) mlN))))
def t_law_3 (K : PySem.W.Frag) (sa : Addr) : SM :=
  (sSet (m1 sumM (mNew (mLc (miT (m2 ixM (mVar 2) (mK (.int 0)))) [6] (.nm 6) mYes (m2 ixM (mVar 6) (mK (.int 2)))))) 7)
def t_law_4 (K : PySem.W.Frag) (sa : Addr) : SM :=
  (sSet (mNew (mCallF 2 (m__law_in_turn K) (mCons (mNew (mLc (miT (m2 ixM (mVar 2) (mK (.int 0)))) [6] (.nm 6) mYes (m2 ixM (mVar 6) (mK (.int 1))))) (mCons (mVar 7) mNil)))) 8)
def t_law_5 (K : PySem.W.Frag) (sa : Addr) : SM :=
  (sIf (mNot (mTru (mCall 2 (m__law_alike K) (mCons (mTup (mCons (mAttr (He.ga K "Turns") ks_Turns 0 (mVar 3)) (mCons (mAttr (He.ga K "Turns") ks_Turns 1 (mVar 3)) (mCons (mUn (mAttr (He.ga K "Turns") ks_Turns 2 (mVar 3))) (mCons (mAttr (He.ga K "Turns") ks_Turns 3 (mVar 3)) (mCons (mCall 1 (m_are_fair K) (mCons (mVar 3) mNil)) mNil)))))) (mCons (mTup (mCons (mVar 2) (mCons (m2 ixM (mVar 2) (mK (.int 0))) (mCons (mVar 4) (mCons (mVar 7) (mCons (m2v eqM (mVar 5) (mNew (mLst mNil))) mNil)))))) mNil)))))
  (sRet (mK (.bl false)))
  sNext)
def t_law_6 (K : PySem.W.Frag) (sa : Addr) : SM :=
  (sIf (mNot (mTru (mCall 2 (m__law_alike K) (mCons (mTup (mCons (mCall 1 (m_fair_hours K) (mCons (mVar 3) mNil)) (mCons (mCall 1 (m_unfair_hours K) (mCons (mVar 3) mNil)) mNil))) (mCons (mTup (mCons (m1 tupM (mVar 8)) (mCons (m1 sumM (mNew (mLc (miR1 (m1 lenM (mVar 8))) [9] (.nm 9) mYes (m2 max2M (mK (.int 0)) (m2 subM (m2 ixM (m2 ixM (m2 ixM (mVar 2) (mK (.int 0))) (mVar 9)) (mK (.int 2))) (m2 ixM (mVar 8) (mVar 9))))))) mNil))) mNil)))))
  (sRet (mK (.bl false)))
  sNext)
def t_law_7 (K : PySem.W.Frag) (sa : Addr) : SM :=
  (sIf (mOr (m2t isNotM (mCall 1 (m_are_turns K) (mCons (mVar 3) mNil)) (mK (.bl true))) (mOr (mTru (mCall 1 (m_are_turns K) (mCons (mVar 2) mNil))) (mOr (mEqT (He.ga K "Turns") (m_Turns_eq K) (mVar 3) (mVar 2)) (mNot (mEqT (He.ga K "Turns") (m_Turns_eq K) (mVar 3) (mMake (He.ga K "Turns") ks_Turns 1 (m_Turns K) (mCons (mVar 2) mNil)))))))
  (sRet (mK (.bl false)))
  sNext)
def t_law_8 (K : PySem.W.Frag) (sa : Addr) : SM :=
  (sPar [10, 11] (mlD (mCall 1 (m_price_of K) (mCons (mVar 3) mNil)) (mlD (mCall 1 (m_turns_paper K) (mCons (mVar 3) mNil)) mlN)))
def t_law_9 (K : PySem.W.Frag) (sa : Addr) : SM :=
  (sIf (mNot (mTru (mCall 2 (m__law_alike K) (mCons (mCall 1 (m_envy_of K) (mCons (mVar 3) mNil)) (mCons (mIf (m2t neM (mVar 5) (mNew (mLst mNil))) (m2 ixM (mVar 5) (mK (.int 0))) (mK .non)) mNil)))))
  (sRet (mK (.bl false)))
  sNext)
def t_law_10 (K : PySem.W.Frag) (sa : Addr) : SM :=
  (sIf (mOr (m2t isNotM (m2v isM (mVar 10) (mK .non)) (m2v neM (mVar 5) (mNew (mLst mNil)))) (mOr (m2t isNotM (m2 ixM (mVar 11) (mK (.int 0))) (m2v eqM (mVar 5) (mNew (mLst mNil)))) (mNot (mTru (mCall 2 (m_is_turns_paper K) (mCons (mVar 3) (mCons (mVar 11) mNil)))))))
  (sRet (mK (.bl false)))
  sNext)
def t_law_11 (K : PySem.W.Frag) (sa : Addr) : SM :=
  (sIf (mNot (mIfT (m2t eqM (mVar 5) (mNew (mLst mNil))) (mAnd (mTru (mCall 2 (m__law_priced K) (mCons (mVar 2) (mCons (mVar 10) mNil)))) (mTru (mCall 2 (m__law_priced K) (mCons (mVar 2) (mCons (m2 ixM (mVar 11) (mK (.int 1))) mNil))))) (m2t inM (m2 ixM (mVar 11) (mK (.int 1))) (mVar 5))))
  (sRet (mK (.bl false)))
  sNext)
def t_law_12 (K : PySem.W.Frag) (sa : Addr) : SM :=
  (sFor (miR1 (mK (.int 20))) (.nm 12)
  (sSeq (sSet (mCall 2 (m__law_taken K) (mCons (mVar 1) (mCons (m1 lenM (mVar 4)) mNil))) 9)
  (sSeq (sSet (mTup (mCons (m2 addM (m2 ixM (m2 ixM (m2 ixM (mVar 2) (mK (.int 0))) (mVar 9)) (mK (.int 2))) (mCall 2 (m__law_taken K) (mCons (mVar 1) (mCons (mK (.int 2)) mNil)))) (mCons (m2 ixM (m2 ixM (m2 ixM (mVar 2) (mK (.int 0))) (mVar 9)) (mK (.int 1))) mNil))) 13)
  (sSeq (sSet (mCall 2 (m__law_pick K) (mCons (mVar 1) (mCons (mNew (mLst (mCons (m2 ixM (mVar 11) (mK (.int 1))) (mCons (mVar 13) (mCons (mTup (mCons (m2 ixM (mVar 4) (mVar 9)) (mCons (m2 ixM (mVar 4) (m1 negM (mK (.int 1)))) mNil))) (mCons (mTup (mCons (m2 ixM (mVar 4) (m1 negM (mK (.int 1)))) (mCons (m2 ixM (mVar 4) (mVar 9)) mNil))) (mCons (mTup (mCons (m2 mulM (m2 ixM (mVar 13) (mK (.int 0))) (mK (.int 3))) (mCons (m2 mulM (m2 ixM (mVar 13) (mK (.int 1))) (mK (.int 3))) mNil))) mNil))))))) mNil))) 14)
  (sSeq (sFor (miR1 (mCall 2 (m__law_taken K) (mCons (mVar 1) (mCons (mK (.int 2)) mNil)))) (.nm 15)
  (sSet (mCall 2 (m__law_spoiled K) (mCons (mVar 1) (mCons (mVar 14) mNil))) 14))
  (sSeq (sSet (mTup (mCons (mCall 2 (m__law_priced K) (mCons (mVar 2) (mCons (mVar 14) mNil))) (mCons (mAndV (mB1 (isTyM K "tuple") (mVar 14)) (m2v inM (mVar 14) (mVar 5))) mNil))) 8)
  (sSeq (sIf (mOr (mNot (mTru (mCall 2 (m__law_alike K) (mCons (mTup (mCons (mCall 2 (m_is_price K) (mCons (mVar 3) (mCons (mVar 14) mNil))) (mCons (mCall 2 (m_is_envy K) (mCons (mVar 3) (mCons (mVar 14) mNil))) mNil))) (mCons (mVar 8) mNil))))) (mNot (mTru (mCall 2 (m__law_alike K) (mCons (mTup (mCons (mCall 2 (m_is_turns_paper K) (mCons (mVar 3) (mCons (mTup (mCons (mK (.bl true)) (mCons (mVar 14) mNil))) mNil))) (mCons (mCall 2 (m_is_turns_paper K) (mCons (mVar 3) (mCons (mTup (mCons (mK (.bl false)) (mCons (mVar 14) mNil))) mNil))) mNil))) (mCons (mVar 8) mNil))))))
  (sRet (mK (.bl false)))
  sNext)
  (sIf (mNot (mTru (mCall 2 (m__law_alike K) (mCons (mTup (mCons (m1 tupM (mCall 2 (m_share_at K) (mCons (mVar 3) (mCons (m2 ixM (mVar 4) (mVar 9)) mNil)))) (mCons (mCall 2 (m_most_for K) (mCons (mVar 3) (mCons (mVar 13) mNil))) mNil))) (mCons (mTup (mCons (mSl (m2 ixM (m2 ixM (mVar 2) (mK (.int 0))) (mVar 9)) (moS (mK (.int 1))) moN) (mCons (m1 tupM (mNew (mLc (miT (m2 ixM (mVar 2) (mK (.int 0)))) [6] (.nm 6) mYes (m2 fdvM (m2 mulM (m2 ixM (mVar 13) (mK (.int 0))) (m2 ixM (mVar 6) (mK (.int 1)))) (m2 ixM (mVar 13) (mK (.int 1))))))) mNil))) mNil)))))
  (sRet (mK (.bl false)))
  sNext))))))))
def t_law_13 (K : PySem.W.Frag) (sa : Addr) : SM :=
  (sPar [16, 17, 18] (mlD (mCall 2 (m__law_pick K) (mCons (mVar 1) (mCons (mNew (mLst (mCons (mK .non) (mCons (mTup (mCons (mK (.int 1)) mNil)) (mCons (mTup (mCons (mK (.int 1)) (mCons (mK (.int 0)) mNil))) (mCons (mTup (mCons (m1 negM (mK (.int 1))) (mCons (mK (.int 1)) mNil))) (mCons (mNew (mLst (mCons (mK (.int 1)) (mCons (mK (.int 1)) mNil)))) (mCons (mTup (mCons (mK (.int 10000)) (mCons (mK (.int 1)) mNil))) (mCons (mTup (mCons (mK (.bl true)) (mCons (mK (.int 1)) mNil))) (mCons (mK (.str "1")) mNil)))))))))) mNil))) (mlD (mCall 1 (m__law_fresh K) (mCons (mVar 4) mNil)) (mlD (mCall 2 (m__law_taken K) (mCons (mVar 1) (mCons (m2 addM (m1 lenM (mVar 4)) (mK (.int 1))) mNil))) mlN))))
def t_law_14 (K : PySem.W.Frag) (sa : Addr) : SM :=
  (sSet (mCall 2 (m__law_pick K) (mCons (mVar 1) (mCons (mNew (mLst (mCons (mTup (mCons (mVar 17) (mCons (mK (.int 0)) (mCons (mK (.int 1)) mNil)))) (mCons (mTup (mCons (mVar 17) (mCons (mK (.int 100)) (mCons (mK (.int 1)) mNil)))) (mCons (mTup (mCons (mVar 17) (mCons (mK (.int 1)) (mCons (mK (.int 61)) mNil)))) (mCons (mTup (mCons (mVar 17) (mCons (mK (.int 1)) (mCons (m1 negM (mK (.int 1))) mNil)))) (mCons (mTup (mCons (mK (.str "A")) (mCons (mK (.int 1)) (mCons (mK (.int 1)) mNil)))) (mCons (mTup (mCons (mVar 17) (mCons (mK (.int 1)) mNil))) (mCons (mNew (mLst (mCons (mVar 17) (mCons (mK (.int 1)) (mCons (mK (.int 1)) mNil))))) (mCons (mK .non) (mCons (mTup (mCons (mVar 17) (mCons (mK (.bl true)) (mCons (mK (.int 1)) mNil)))) mNil))))))))))) mNil))) 19)
def t_law_15 (K : PySem.W.Frag) (sa : Addr) : SM :=
  (sSet (mNew (mLst (mCons (mTold (m__law_refusal K) (mCall 2 (m_most_for K) (mCons (mVar 3) (mCons (mVar 16) mNil)))) (mCons (mTold (m__law_refusal K) (mCall 2 (m_share_at K) (mCons (mVar 3) (mCons (mVar 17) mNil)))) (mCons (mTold (m__law_refusal K) (mMeth (He.ga K "Turns") ks_Turns 3 (m_Turns_with_share K) (mVar 3) (mCons (mVar 17) (mCons (mK (.int 1)) (mCons (mK (.int 1)) mNil))))) (mCons (mTold (m__law_refusal K) (mMeth (He.ga K "Turns") ks_Turns 2 (m_Turns_with_part K) (mVar 3) (mCons (mK (.str "rows")) (mCons (m2 addM (m2 addM (mSl (m2 ixM (mVar 2) (mK (.int 0))) moN (moS (mVar 18))) (mTup (mCons (mVar 19) mNil))) (mSl (m2 ixM (mVar 2) (mK (.int 0))) (moS (mVar 18)) moN)) mNil)))) (mCons (mTold (m__law_refusal K) (mMeth (He.ga K "Turns") ks_Turns 2 (m_Turns_with_part K) (mVar 3) (mCons (mK (.str "turns")) (mCons (mK (.int 1)) mNil)))) (mCons (mTold (m__law_refusal K) (mMake (He.ga K "Turns") ks_Turns 1 (m_Turns K) (mCons (m2 addM (mVar 2) (mTup (mCons (mK (.int 1)) mNil))) mNil))) (mCons (mTold (m__law_refusal K) (mMeth (He.ga K "Turns") ks_Turns 3 (m_Turns_with_share K) (mVar 3) (mCons (m2 ixM (mVar 4) (mK (.int 0))) (mCons (mK (.int 1)) (mCons (mK (.int 61)) mNil))))) (mCons (mTold (m__law_refusal K) (mMeth (He.ga K "Turns") ks_Turns 2 (m_Turns_with_part K) (mVar 3) (mCons (mK (.str "rows")) (mCons (mCall 2 (m__law_pick K) (mCons (mVar 1) (mCons (mNew (mLst (mCons (mTup mNil) (mCons (mNew (m1F lstM (m2 ixM (mVar 2) (mK (.int 0))))) (mCons (mK .non) mNil))))) mNil))) mNil)))) mNil)))))))))) 20)
def t_law_16 (K : PySem.W.Frag) (sa : Addr) : SM :=
  (sSet (mNew (mLst (mCons (mTup (mCons (mK (.str "BadNumber")) (mCons (mVar 16) mNil))) (mCons (mTup (mCons (mK (.str "Unknown")) (mCons (mVar 17) mNil))) (mCons (mTup (mCons (mK (.str "Unknown")) (mCons (mVar 17) mNil))) (mCons (mTup (mCons (mK (.str "BadPart")) (mCons (mK (.str "rows")) (mCons (mVar 18) mNil)))) mNil)))))) 8)
def t_law_17 (K : PySem.W.Frag) (sa : Addr) : SM :=
  (sSet (m2 addM (mVar 8) (mNew (mLst (mCons (mTup (mCons (mK (.str "BadPart")) (mCons (mK (.str "turns")) (mCons (mK .non) mNil)))) (mCons (mTup (mCons (mK (.str "BadPart")) (mCons (mK (.str "turns")) (mCons (mK .non) mNil)))) (mCons (mTup (mCons (mK (.str "BadPart")) (mCons (mK (.str "rows")) (mCons (mK (.int 0)) mNil)))) (mCons (mTup (mCons (mK (.str "BadPart")) (mCons (mK (.str "rows")) (mCons (mK .non) mNil)))) mNil))))))) 8)
def t_law_18 (K : PySem.W.Frag) (sa : Addr) : SM :=
  (sIf (mOr (mNot (mTru (mCall 2 (m__law_same K) (mCons (mVar 20) (mCons (mVar 8) mNil))))) (mOr (mTru (mCall 2 (m_is_turns_paper K) (mCons (mVar 3) (mCons (mVar 16) mNil)))) (mOr (mTru (mCall 2 (m_is_price K) (mCons (mVar 3) (mCons (mVar 16) mNil)))) (mTru (mCall 2 (m_is_envy K) (mCons (mVar 3) (mCons (mVar 16) mNil)))))))
  (sRet (mK (.bl false)))
  sNext)
def t_law_19 (K : PySem.W.Frag) (sa : Addr) : SM :=
  (sRet (m2 (eqO (He.ga K "Turns") (m_Turns_eq K)) (mMeth (He.ga K "Turns") ks_Turns 3 (m_Turns_with_share K) (mVar 3) (mCons (m2 ixM (mVar 4) (mK (.int 0))) (mCons (mK (.int 9)) (mCons (mK (.int 8)) mNil)))) (mMake (He.ga K "Turns") ks_Turns 1 (m_Turns K) (mCons (mTup (mCons (mCall 3 (m__law_at K) (mCons (m2 ixM (mVar 2) (mK (.int 0))) (mCons (mK (.int 1)) (mCons (mTup (mCons (m2 ixM (mVar 4) (mK (.int 0))) (mCons (mK (.int 9)) (mCons (mK (.int 8)) mNil)))) mNil)))) mNil)) mNil))))
def N_law : List Str := ["script", "row", "told", "turns", "names", "envies", "one", "whole", "due", "k", "price", "paper", "turn", "some", "value", "j", "odd", "strange", "at", "poor", "found"]
def P_law : List Str := ["script"]
def t_law (K : PySem.W.Frag) (sa : Addr) : SM :=
  (sSeq (t_law_0 K sa)
  (sSeq (t_law_1 K sa)
  (sSeq (t_law_2 K sa)
  (sSeq (t_law_3 K sa)
  (sSeq (t_law_4 K sa)
  (sSeq (t_law_5 K sa)
  (sSeq (t_law_6 K sa)
  (sSeq (t_law_7 K sa)
  (sSeq (t_law_8 K sa)
  (sSeq (t_law_9 K sa)
  (sSeq (t_law_10 K sa)
  (sSeq (t_law_11 K sa)
  (sSeq (t_law_12 K sa)
  (sSeq (t_law_13 K sa)
  (sSeq (t_law_14 K sa)
  (sSeq (t_law_15 K sa)
  (sSeq (t_law_16 K sa)
  (sSeq (t_law_17 K sa)
  (sSeq (t_law_18 K sa)
  (t_law_19 K sa))))))))))))))))))))
def N__law_same : List Str := ["found", "due"]
def P__law_same : List Str := ["found", "due"]
def t__law_same (K : PySem.W.Frag) : SM :=
  (sRet (mSame (mVar 0) (mVar 1)))
end K16
namespace K16
open L2 PySem PySem.Spec WL
theorem d_law {P : Program} {w : World} {K : PySem.W.Frag} {mg : Str → Option Value} {base : Heap} (G : Facts K mg) (Q_Turns : EqAt P w K mg base 1 (He.ga K "Turns") (m_Turns_eq K)) (F__law_turns : FnAt P w K mg base 4 "_law_turns" 1 (m__law_turns K)) (F__law_in_turn : FnAtF P w K mg base 1 "_law_in_turn" 2 (m__law_in_turn K)) (F__law_pick : FnAt P w K mg base 2 "_law_pick" 2 (m__law_pick K)) (M_Turns : MkAt P w K mg base 7 "Turns" (He.ga K "Turns") ks_Turns 1 (m_Turns K)) (F__law_envies : FnAt P w K mg base 2 "_law_envies" 1 (m__law_envies K)) (F__law_alike : FnAt P w K mg base 50 "_law_alike" 2 (m__law_alike K)) (F_are_turns : FnAt P w K mg base 1 "are_turns" 1 (m_are_turns K)) (F_price_of : FnAt P w K mg base 5 "price_of" 1 (m_price_of K)) (F_turns_paper : FnAt P w K mg base 6 "turns_paper" 1 (m_turns_paper K)) (F__law_taken : FnAt P w K mg base 1 "_law_taken" 2 (m__law_taken K)) (F__law_fresh : FnAt P w K mg base 1 "_law_fresh" 1 (m__law_fresh K)) (F_is_turns_paper : FnAt P w K mg base 4 "is_turns_paper" 2 (m_is_turns_paper K)) (F_is_price : FnAt P w K mg base 3 "is_price" 2 (m_is_price K)) (F_is_envy : FnAt P w K mg base 2 "is_envy" 2 (m_is_envy K)) (W_Turns_with_share : MtAt P w K mg base 10 (He.ga K "Turns") "with_share" 3 (m_Turns_with_share K)) (F_envy_of : FnAt P w K mg base 3 "envy_of" 1 (m_envy_of K)) (F__law_spoiled : FnAt P w K mg base 50 "_law_spoiled" 2 (m__law_spoiled K)) (F__law_priced : FnAt P w K mg base 4 "_law_priced" 2 (m__law_priced K)) (F_are_fair : FnAt P w K mg base 4 "are_fair" 1 (m_are_fair K)) (F_fair_hours : FnAt P w K mg base 1 "fair_hours" 1 (m_fair_hours K)) (F_unfair_hours : FnAt P w K mg base 2 "unfair_hours" 1 (m_unfair_hours K)) (F_most_for : FnAt P w K mg base 3 "most_for" 2 (m_most_for K)) (F_share_at : FnAt P w K mg base 3 "share_at" 2 (m_share_at K)) (W_Turns_with_part : MtAt P w K mg base 9 (He.ga K "Turns") "with_part" 2 (m_Turns_with_part K)) (F__law_at : FnAt P w K mg base 1 "_law_at" 3 (m__law_at K)) (F__law_same : FnGAt P w K mg base 1 "_law_same" 2 (m__law_same K)) (FT : ToldAt P w K mg base 60 (top 53) (m__law_refusal K)) {f : Addr} (cdv : Value) (A : Around) (outer : List Env) (s : Shared) (H : Hp) (E : XK) (Y : Yx) (sa : Addr) (ns : List Int) (hgd : (cxOf (L2.CX P w) P w K mg base N_law "law" (defScope (top 62)) f cdv A outer s H E).A.guards = some []) (c : Cok 64 (cxOf (L2.CX P w) P w K mg base N_law "law" (defScope (top 62)) f cdv A outer s H E) Y) (hsc : ScrAt K Y.A0 Y.H0 sa ns) {T : List (Addr × Str)} {cP P1 : Addr} (TB : LamX.TabB base mg cP P1) (hcd : cdv = .ref cP) (hmT : (P1, (cxOf (L2.CX P w) P w K mg base N_law "law" (defScope (top 62)) f cdv A outer s H E).env.qual ++ "<lambda>") ∈ T) (hu : ∀ p ∈ T, p.1 = P1 → p.2 = (cxOf (L2.CX P w) P w K mg base N_law "law" (defScope (top 62)) f cdv A outer s H E).env.qual ++ "<lambda>") (hT0 : LamX.Tabs T Y.H0) (hG : GrT T Y.G) :
  PSsd (cxOf (L2.CX P w) P w K mg base N_law "law" (defScope (top 62)) f cdv A outer s H E) Y (defBody (top 62)) (t_law K sa) :=
  (pssd_cons (psd_set (i := 1) (pd_row hsc (pd_var (i := 0))) c.nd)
  (pssd_cons (psd_set (i := 2) (pd_call c F__law_turns (pad_cons (pd_var (i := 1)) pad_nil)) c.nd)
  (pssd_cons (psd_parT c.calm (psl_dat (pd_make c M_Turns (pad_cons (pd_var (i := 2)) pad_nil)) (psl_dat (pd_t1 c1_tup (G.nb _ (by decide)) bb_tuple (pq (pd_new (pf_lc c.calm c.nd (pid_tup (pd_ix (pq (pd_var (i := 2))) pd_int)) (blkOk_by (own := [("one", 6)]) (by kernel_rfl)) (fun _ _ _ _ _ => (pgd_name c.blk.nd (i := 6))) (fun _ _ _ _ _ => ptsd_nil) (fun _ _ _ _ _ => (pd_ix (pq (pd_var (i := 6))) pd_int)))))) (psl_dat (pd_call c F__law_envies (pad_cons (pd_var (i := 2)) pad_nil)) psl_nil))) (pgn_cons c.nd (i := 3) (pgn_cons c.nd (i := 4) (pgn_cons c.nd (i := 5) pgn_nil))))
  (pssd_cons (psd_set (i := 7) (pd_b1 (c1_sum c.calm) (G.nb _ (by decide)) bb_sum (pq (pd_new (pf_lc c.calm c.nd (pid_tup (pd_ix (pq (pd_var (i := 2))) pd_int)) (blkOk_by (own := [("one", 6)]) (by kernel_rfl)) (fun _ _ _ _ _ => (pgd_name c.blk.nd (i := 6))) (fun _ _ _ _ _ => ptsd_nil) (fun _ _ _ _ _ => (pd_ix (pq (pd_var (i := 6))) pd_int)))))) c.nd)
  (pssd_cons (psd_set (i := 8) (pd_new (pf_call c F__law_in_turn (pad_cons (pd_new (pf_lc c.calm c.nd (pid_tup (pd_ix (pq (pd_var (i := 2))) pd_int)) (blkOk_by (own := [("one", 6)]) (by kernel_rfl)) (fun _ _ _ _ _ => (pgd_name c.blk.nd (i := 6))) (fun _ _ _ _ _ => ptsd_nil) (fun _ _ _ _ _ => (pd_ix (pq (pd_var (i := 6))) pd_int)))) (pad_cons (pd_var (i := 7)) pad_nil)))) c.nd)
  (pssd_cons (psd_if (ptd_not (ptd_tru (pq (pd_call c F__law_alike (pad_cons (pd_tup (pad_cons (pd_attr (C := He.ga K "Turns") (ks := ks_Turns) (j := 0) (pd_var (i := 3)) G.cls_Turns (G.noat_Turns _ (by decide))) (pad_cons (pd_attr (C := He.ga K "Turns") (ks := ks_Turns) (j := 1) (pd_var (i := 3)) G.cls_Turns (G.noat_Turns _ (by decide))) (pad_cons (pd_un (pd_attr (C := He.ga K "Turns") (ks := ks_Turns) (j := 2) (pd_var (i := 3)) G.cls_Turns (G.noat_Turns _ (by decide)))) (pad_cons (pd_attr (C := He.ga K "Turns") (ks := ks_Turns) (j := 3) (pd_var (i := 3)) G.cls_Turns (G.noat_Turns _ (by decide))) (pad_cons (pd_call c F_are_fair (pad_cons (pd_var (i := 3)) pad_nil)) pad_nil)))))) (pad_cons (pd_tup (pad_cons (pd_var (i := 2)) (pad_cons (pd_ix (pq (pd_var (i := 2))) pd_int) (pad_cons (pd_var (i := 4)) (pad_cons (pd_var (i := 7)) (pad_cons (pd_cmp (opb_eq c.ru) (pq (pd_var (i := 5))) (pq (pd_new (pf_lst pad_nil))) (nomark _)) pad_nil)))))) pad_nil))))))
  (pssd_one (psd_ret pd_bl))
  pssd_nil)
  (pssd_cons (psd_if (ptd_not (ptd_tru (pq (pd_call c F__law_alike (pad_cons (pd_tup (pad_cons (pd_call c F_fair_hours (pad_cons (pd_var (i := 3)) pad_nil)) (pad_cons (pd_call c F_unfair_hours (pad_cons (pd_var (i := 3)) pad_nil)) pad_nil))) (pad_cons (pd_tup (pad_cons (pd_t1 c1_tup (G.nb _ (by decide)) bb_tuple (pq (pd_var (i := 8)))) (pad_cons (pd_b1 (c1_sum c.calm) (G.nb _ (by decide)) bb_sum (pq (pd_new (pf_lc c.calm c.nd (pid_range1 (G.nb _ (by decide)) (pd_b1 c1_len (G.nb _ (by decide)) bb_len (pq (pd_var (i := 8))))) (blkOk_by (own := [("k", 9)]) (by kernel_rfl)) (fun _ _ _ _ _ => (pgd_name c.blk.nd (i := 9))) (fun _ _ _ _ _ => ptsd_nil) (fun _ _ _ _ _ => (pd_b2 (c2_max c.blk.calm) (G.nb _ (by decide)) bb_max (pq pd_int) (pq (pd_op opd_sub (pq (pd_ix (pq (pd_ix (pq (pd_ix (pq (pd_var (i := 2))) pd_int)) (pd_var (i := 9)))) pd_int)) (pq (pd_ix (pq (pd_var (i := 8))) (pd_var (i := 9)))))))))))) pad_nil))) pad_nil))))))
  (pssd_one (psd_ret pd_bl))
  pssd_nil)
  (pssd_cons (psd_if (pwd_pt (pwd_or (ptd_cmp opb_isNot (pq (pd_call c F_are_turns (pad_cons (pd_var (i := 3)) pad_nil))) (pq pd_bl) (nomark _)) (pwd_or (ptd_tru (pq (pd_call c F_are_turns (pad_cons (pd_var (i := 2)) pad_nil)))) (pwd_or (ptd_eqO c Q_Turns (pd_var (i := 3)) (pd_var (i := 2))) (pwd_or1 (ptd_not (ptd_eqO c Q_Turns (pd_var (i := 3)) (pd_make c M_Turns (pad_cons (pd_var (i := 2)) pad_nil)))))))))
  (pssd_one (psd_ret pd_bl))
  pssd_nil)
  (pssd_cons (psd_par (i := 10) (j := 11) c.calm c.nd (psl_dat (pd_call c F_price_of (pad_cons (pd_var (i := 3)) pad_nil)) (psl_dat (pd_call c F_turns_paper (pad_cons (pd_var (i := 3)) pad_nil)) psl_nil)))
  (pssd_cons (psd_if (ptd_not (ptd_tru (pq (pd_call c F__law_alike (pad_cons (pd_call c F_envy_of (pad_cons (pd_var (i := 3)) pad_nil)) (pad_cons (pd_if (ptd_cmp (opb_ne c.ru) (pq (pd_var (i := 5))) (pq (pd_new (pf_lst pad_nil))) (nomark _)) (pd_ix (pq (pd_var (i := 5))) pd_int) pd_non) pad_nil))))))
  (pssd_one (psd_ret pd_bl))
  pssd_nil)
  (pssd_cons (psd_if (pwd_pt (pwd_or (ptd_cmp opb_isNot (pq (pd_cmp opb_is (pq (pd_var (i := 10))) (pq pd_non) (nomark _))) (pq (pd_cmp (opb_ne c.ru) (pq (pd_var (i := 5))) (pq (pd_new (pf_lst pad_nil))) (nomark _))) (nomark _)) (pwd_or (ptd_cmp opb_isNot (pq (pd_ix (pq (pd_var (i := 11))) pd_int)) (pq (pd_cmp (opb_eq c.ru) (pq (pd_var (i := 5))) (pq (pd_new (pf_lst pad_nil))) (nomark _))) (nomark _)) (pwd_or1 (ptd_not (ptd_tru (pq (pd_call c F_is_turns_paper (pad_cons (pd_var (i := 3)) (pad_cons (pd_var (i := 11)) pad_nil))))))))))
  (pssd_one (psd_ret pd_bl))
  pssd_nil)
  (pssd_cons (psd_if (ptd_not (ptd_ifx (ptd_cmp (opb_eq c.ru) (pq (pd_var (i := 5))) (pq (pd_new (pf_lst pad_nil))) (nomark _)) (pwd_pt (pwd_and (ptd_tru (pq (pd_call c F__law_priced (pad_cons (pd_var (i := 2)) (pad_cons (pd_var (i := 10)) pad_nil))))) (pwd_and1 (ptd_tru (pq (pd_call c F__law_priced (pad_cons (pd_var (i := 2)) (pad_cons (pd_ix (pq (pd_var (i := 11))) pd_int) pad_nil)))))))) (ptd_cmp (opb_in c.ru) (pq (pd_ix (pq (pd_var (i := 11))) pd_int)) (pq (pd_var (i := 5))) (by with_unfolding_all rfl))))
  (pssd_one (psd_ret pd_bl))
  pssd_nil)
  (pssd_cons (psd_for owns_def c.calm (pid_range1 (G.nb _ (by decide)) pd_int) (pgd_name c.nd (i := 12))
  (pssd_cons (psd_set (i := 9) (pd_call c F__law_taken (pad_cons (pd_var (i := 1)) (pad_cons (pd_b1 c1_len (G.nb _ (by decide)) bb_len (pq (pd_var (i := 4)))) pad_nil))) c.nd)
  (pssd_cons (psd_set (i := 13) (pd_tup (pad_cons (pd_op opd_add (pq (pd_ix (pq (pd_ix (pq (pd_ix (pq (pd_var (i := 2))) pd_int)) (pd_var (i := 9)))) pd_int)) (pq (pd_call c F__law_taken (pad_cons (pd_var (i := 1)) (pad_cons pd_int pad_nil))))) (pad_cons (pd_ix (pq (pd_ix (pq (pd_ix (pq (pd_var (i := 2))) pd_int)) (pd_var (i := 9)))) pd_int) pad_nil))) c.nd)
  (pssd_cons (psd_set (i := 14) (pd_call c F__law_pick (pad_cons (pd_var (i := 1)) (pad_cons (pd_new (pf_lst (pad_cons (pd_ix (pq (pd_var (i := 11))) pd_int) (pad_cons (pd_var (i := 13)) (pad_cons (pd_tup (pad_cons (pd_ix (pq (pd_var (i := 4))) (pd_var (i := 9))) (pad_cons (pd_ix (pq (pd_var (i := 4))) (pd_neg pd_int)) pad_nil))) (pad_cons (pd_tup (pad_cons (pd_ix (pq (pd_var (i := 4))) (pd_neg pd_int)) (pad_cons (pd_ix (pq (pd_var (i := 4))) (pd_var (i := 9))) pad_nil))) (pad_cons (pd_tup (pad_cons (pd_op opd_mul (pq (pd_ix (pq (pd_var (i := 13))) pd_int)) (pq pd_int)) (pad_cons (pd_op opd_mul (pq (pd_ix (pq (pd_var (i := 13))) pd_int)) (pq pd_int)) pad_nil))) pad_nil))))))) pad_nil))) c.nd)
  (pssd_cons (psd_for owns_def c.calm (pid_range1 (G.nb _ (by decide)) (pd_call c F__law_taken (pad_cons (pd_var (i := 1)) (pad_cons pd_int pad_nil)))) (pgd_name c.nd (i := 15))
  (pssd_one (psd_set (i := 14) (pd_call c F__law_spoiled (pad_cons (pd_var (i := 1)) (pad_cons (pd_var (i := 14)) pad_nil))) c.nd)))
  (pssd_cons (psd_set (i := 8) (pd_tup (pad_cons (pd_call c F__law_priced (pad_cons (pd_var (i := 2)) (pad_cons (pd_var (i := 14)) pad_nil))) (pad_cons (pd_and (pd_isi (T := "tuple") (G.nb _ (by decide)) (G.nb _ (by decide)) (pq (pd_var (i := 14))) bb_tuple) (pd_one (pd_cmp (opb_in c.ru) (pq (pd_var (i := 14))) (pq (pd_var (i := 5))) (by with_unfolding_all rfl)))) pad_nil))) c.nd)
  (pssd_cons (psd_if (pwd_pt (pwd_or (ptd_not (ptd_tru (pq (pd_call c F__law_alike (pad_cons (pd_tup (pad_cons (pd_call c F_is_price (pad_cons (pd_var (i := 3)) (pad_cons (pd_var (i := 14)) pad_nil))) (pad_cons (pd_call c F_is_envy (pad_cons (pd_var (i := 3)) (pad_cons (pd_var (i := 14)) pad_nil))) pad_nil))) (pad_cons (pd_var (i := 8)) pad_nil)))))) (pwd_or1 (ptd_not (ptd_tru (pq (pd_call c F__law_alike (pad_cons (pd_tup (pad_cons (pd_call c F_is_turns_paper (pad_cons (pd_var (i := 3)) (pad_cons (pd_tup (pad_cons pd_bl (pad_cons (pd_var (i := 14)) pad_nil))) pad_nil))) (pad_cons (pd_call c F_is_turns_paper (pad_cons (pd_var (i := 3)) (pad_cons (pd_tup (pad_cons pd_bl (pad_cons (pd_var (i := 14)) pad_nil))) pad_nil))) pad_nil))) (pad_cons (pd_var (i := 8)) pad_nil)))))))))
  (pssd_one (psd_ret pd_bl))
  pssd_nil)
  (pssd_one (psd_if (ptd_not (ptd_tru (pq (pd_call c F__law_alike (pad_cons (pd_tup (pad_cons (pd_t1 c1_tup (G.nb _ (by decide)) bb_tuple (pq (pd_call c F_share_at (pad_cons (pd_var (i := 3)) (pad_cons (pd_ix (pq (pd_var (i := 4))) (pd_var (i := 9))) pad_nil))))) (pad_cons (pd_call c F_most_for (pad_cons (pd_var (i := 3)) (pad_cons (pd_var (i := 13)) pad_nil))) pad_nil))) (pad_cons (pd_tup (pad_cons (pd_slice (pq (pd_ix (pq (pd_ix (pq (pd_var (i := 2))) pd_int)) (pd_var (i := 9)))) (pod_some pd_int) pod_none) (pad_cons (pd_t1 c1_tup (G.nb _ (by decide)) bb_tuple (pq (pd_new (pf_lc c.calm c.nd (pid_tup (pd_ix (pq (pd_var (i := 2))) pd_int)) (blkOk_by (own := [("one", 6)]) (by kernel_rfl)) (fun _ _ _ _ _ => (pgd_name c.blk.nd (i := 6))) (fun _ _ _ _ _ => ptsd_nil) (fun _ _ _ _ _ => (pd_op opd_fdv (pq (pd_op opd_mul (pq (pd_ix (pq (pd_var (i := 13))) pd_int)) (pq (pd_ix (pq (pd_var (i := 6))) pd_int)))) (pq (pd_ix (pq (pd_var (i := 13))) pd_int)))))))) pad_nil))) pad_nil))))))
  (pssd_one (psd_ret pd_bl))
  pssd_nil)))))))))
  (pssd_cons (psd_parT c.calm (psl_dat (pd_call c F__law_pick (pad_cons (pd_var (i := 1)) (pad_cons (pd_new (pf_lst (pad_cons pd_non (pad_cons (pd_tup (pad_cons pd_int pad_nil)) (pad_cons (pd_tup (pad_cons pd_int (pad_cons pd_int pad_nil))) (pad_cons (pd_tup (pad_cons (pd_neg pd_int) (pad_cons pd_int pad_nil))) (pad_cons (pd_new (pf_lst (pad_cons pd_int (pad_cons pd_int pad_nil)))) (pad_cons (pd_tup (pad_cons pd_int (pad_cons pd_int pad_nil))) (pad_cons (pd_tup (pad_cons pd_bl (pad_cons pd_int pad_nil))) (pad_cons pd_str pad_nil)))))))))) pad_nil))) (psl_dat (pd_call c F__law_fresh (pad_cons (pd_var (i := 4)) pad_nil)) (psl_dat (pd_call c F__law_taken (pad_cons (pd_var (i := 1)) (pad_cons (pd_op opd_add (pq (pd_b1 c1_len (G.nb _ (by decide)) bb_len (pq (pd_var (i := 4))))) (pq pd_int)) pad_nil))) psl_nil))) (pgn_cons c.nd (i := 16) (pgn_cons c.nd (i := 17) (pgn_cons c.nd (i := 18) pgn_nil))))
  (pssd_cons (psd_set (i := 19) (pd_call c F__law_pick (pad_cons (pd_var (i := 1)) (pad_cons (pd_new (pf_lst (pad_cons (pd_tup (pad_cons (pd_var (i := 17)) (pad_cons pd_int (pad_cons pd_int pad_nil)))) (pad_cons (pd_tup (pad_cons (pd_var (i := 17)) (pad_cons pd_int (pad_cons pd_int pad_nil)))) (pad_cons (pd_tup (pad_cons (pd_var (i := 17)) (pad_cons pd_int (pad_cons pd_int pad_nil)))) (pad_cons (pd_tup (pad_cons (pd_var (i := 17)) (pad_cons pd_int (pad_cons (pd_neg pd_int) pad_nil)))) (pad_cons (pd_tup (pad_cons pd_str (pad_cons pd_int (pad_cons pd_int pad_nil)))) (pad_cons (pd_tup (pad_cons (pd_var (i := 17)) (pad_cons pd_int pad_nil))) (pad_cons (pd_new (pf_lst (pad_cons (pd_var (i := 17)) (pad_cons pd_int (pad_cons pd_int pad_nil))))) (pad_cons pd_non (pad_cons (pd_tup (pad_cons (pd_var (i := 17)) (pad_cons pd_bl (pad_cons pd_int pad_nil)))) pad_nil))))))))))) pad_nil))) c.nd)
  (pssd_cons (psd_set (i := 20) (pd_new (pf_lst (pad_cons (pd_told2 c FT TB hcd hmT hu hT0 hG (lamS2_by (by kernel_rfl)) (.zero rfl rfl (by intros; rfl)) (fun _ _ _ _ _ _ _ _ c1 => (pd_call c1 F_most_for (pad_cons (pd_var (i := 3)) (pad_cons (pd_var (i := 16)) pad_nil))))) (pad_cons (pd_told2 c FT TB hcd hmT hu hT0 hG (lamS2_by (by kernel_rfl)) (.one "a" 0 _ _ rfl rfl (by kernel_rfl) (by intros; exact ⟨_, rfl, fun _ => rfl⟩)) (fun _ _ _ _ _ _ _ _ c1 => (pd_call c1 F_share_at (pad_cons (pd_var (i := 3)) (pad_cons (pd_var (i := 17)) pad_nil))))) (pad_cons (pd_told2 c FT TB hcd hmT hu hT0 hG (lamS2_by (by kernel_rfl)) (.one "b" 0 _ _ rfl rfl (by kernel_rfl) (by intros; exact ⟨_, rfl, fun _ => rfl⟩)) (fun _ _ _ _ _ _ _ _ c1 => (pd_meth (ks := ks_Turns) c1 W_Turns_with_share (pd_var (i := 3)) (pad_cons (pd_var (i := 17)) (pad_cons pd_int (pad_cons pd_int pad_nil)))))) (pad_cons (pd_told2 c FT TB hcd hmT hu hT0 hG (lamS2_by (by kernel_rfl)) (.one "c" 0 _ _ rfl rfl (by kernel_rfl) (by intros; exact ⟨_, rfl, fun _ => rfl⟩)) (fun _ _ _ _ _ _ _ _ c1 => (pd_meth (ks := ks_Turns) c1 W_Turns_with_part (pd_var (i := 3)) (pad_cons pd_str (pad_cons (pd_op opd_add (pq (pd_op opd_add (pq (pd_slice (pq (pd_ix (pq (pd_var (i := 2))) pd_int)) pod_none (pod_some (pd_var (i := 18))))) (pq (pd_tup (pad_cons (pd_var (i := 19)) pad_nil))))) (pq (pd_slice (pq (pd_ix (pq (pd_var (i := 2))) pd_int)) (pod_some (pd_var (i := 18))) pod_none))) pad_nil))))) (pad_cons (pd_told2 c FT TB hcd hmT hu hT0 hG (lamS2_by (by kernel_rfl)) (.one "d" 0 _ _ rfl rfl (by kernel_rfl) (by intros; exact ⟨_, rfl, fun _ => rfl⟩)) (fun _ _ _ _ _ _ _ _ c1 => (pd_meth (ks := ks_Turns) c1 W_Turns_with_part (pd_var (i := 3)) (pad_cons pd_str (pad_cons pd_int pad_nil))))) (pad_cons (pd_told2 c FT TB hcd hmT hu hT0 hG (lamS2_by (by kernel_rfl)) (.one "f" 0 _ _ rfl rfl (by kernel_rfl) (by intros; exact ⟨_, rfl, fun _ => rfl⟩)) (fun _ _ _ _ _ _ _ _ c1 => (pd_make c1 M_Turns (pad_cons (pd_op opd_add (pq (pd_var (i := 2))) (pq (pd_tup (pad_cons pd_int pad_nil)))) pad_nil)))) (pad_cons (pd_told2 c FT TB hcd hmT hu hT0 hG (lamS2_by (by kernel_rfl)) (.one "g" 0 _ _ rfl rfl (by kernel_rfl) (by intros; exact ⟨_, rfl, fun _ => rfl⟩)) (fun _ _ _ _ _ _ _ _ c1 => (pd_meth (ks := ks_Turns) c1 W_Turns_with_share (pd_var (i := 3)) (pad_cons (pd_ix (pq (pd_var (i := 4))) pd_int) (pad_cons pd_int (pad_cons pd_int pad_nil)))))) (pad_cons (pd_told2 c FT TB hcd hmT hu hT0 hG (lamS2_by (by kernel_rfl)) (.one "h" 0 _ _ rfl rfl (by kernel_rfl) (by intros; exact ⟨_, rfl, fun _ => rfl⟩)) (fun _ _ _ _ _ _ _ _ c1 => (pd_meth (ks := ks_Turns) c1 W_Turns_with_part (pd_var (i := 3)) (pad_cons pd_str (pad_cons (pd_call c1 F__law_pick (pad_cons (pd_var (i := 1)) (pad_cons (pd_new (pf_lst (pad_cons (pd_tup pad_nil) (pad_cons (pd_new (pf_t1 c1_list (G.nb _ (by decide)) bb_list (pq (pd_ix (pq (pd_var (i := 2))) pd_int)))) (pad_cons pd_non pad_nil))))) pad_nil))) pad_nil))))) pad_nil)))))))))) c.nd)
  (pssd_cons (psd_set (i := 8) (pd_new (pf_lst (pad_cons (pd_tup (pad_cons pd_str (pad_cons (pd_var (i := 16)) pad_nil))) (pad_cons (pd_tup (pad_cons pd_str (pad_cons (pd_var (i := 17)) pad_nil))) (pad_cons (pd_tup (pad_cons pd_str (pad_cons (pd_var (i := 17)) pad_nil))) (pad_cons (pd_tup (pad_cons pd_str (pad_cons pd_str (pad_cons (pd_var (i := 18)) pad_nil)))) pad_nil)))))) c.nd)
  (pssd_cons (psd_set (i := 8) (pd_op opd_add (pq (pd_var (i := 8))) (pq (pd_new (pf_lst (pad_cons (pd_tup (pad_cons pd_str (pad_cons pd_str (pad_cons pd_non pad_nil)))) (pad_cons (pd_tup (pad_cons pd_str (pad_cons pd_str (pad_cons pd_non pad_nil)))) (pad_cons (pd_tup (pad_cons pd_str (pad_cons pd_str (pad_cons pd_int pad_nil)))) (pad_cons (pd_tup (pad_cons pd_str (pad_cons pd_str (pad_cons pd_non pad_nil)))) pad_nil)))))))) c.nd)
  (pssd_cons (psd_if (pwd_pt (pwd_or (ptd_not (ptd_tru (pq (pd_callG hgd c F__law_same (pad_cons (pd_var (i := 20)) (pad_cons (pd_var (i := 8)) pad_nil)))))) (pwd_or (ptd_tru (pq (pd_call c F_is_turns_paper (pad_cons (pd_var (i := 3)) (pad_cons (pd_var (i := 16)) pad_nil))))) (pwd_or (ptd_tru (pq (pd_call c F_is_price (pad_cons (pd_var (i := 3)) (pad_cons (pd_var (i := 16)) pad_nil))))) (pwd_or1 (ptd_tru (pq (pd_call c F_is_envy (pad_cons (pd_var (i := 3)) (pad_cons (pd_var (i := 16)) pad_nil))))))))))
  (pssd_one (psd_ret pd_bl))
  pssd_nil)
  (pssd_one (psd_ret (pd_eqO c Q_Turns (pd_meth (ks := ks_Turns) c W_Turns_with_share (pd_var (i := 3)) (pad_cons (pd_ix (pq (pd_var (i := 4))) pd_int) (pad_cons pd_int (pad_cons pd_int pad_nil)))) (pd_make c M_Turns (pad_cons (pd_tup (pad_cons (pd_call c F__law_at (pad_cons (pd_ix (pq (pd_var (i := 2))) pd_int) (pad_cons pd_int (pad_cons (pd_tup (pad_cons (pd_ix (pq (pd_var (i := 4))) pd_int) (pad_cons pd_int (pad_cons pd_int pad_nil)))) pad_nil)))) pad_nil)) pad_nil))))))))))))))))))))))))
theorem d__law_same {P : Program} {w : World} {K : PySem.W.Frag} {mg : Str → Option Value} {base : Heap} (G : Facts K mg)  {kk : Nat} {f : Addr} (cdv : Value) (A : Around) (outer : List Env) (s : Shared) (H : Hp) (E : XK) (Y : Yx) (hgd : (cxOf (L2.CX P w) P w K mg base N__law_same "_law_same" (defScope (top 49)) f cdv A outer s H E).A.guards = some []) (c : Cok kk (cxOf (L2.CX P w) P w K mg base N__law_same "_law_same" (defScope (top 49)) f cdv A outer s H E) Y) :
  PSsd (cxOf (L2.CX P w) P w K mg base N__law_same "_law_same" (defScope (top 49)) f cdv A outer s H E) Y (defBody (top 49)) (t__law_same K) :=
  (pssd_one (psd_ret (pd_same hgd c.ru (G.nb _ (by decide)) (pd_var (i := 0)) (pd_var (i := 1)))))
end K16
namespace K16
open L2 PySem PySem.Spec WL
/-! ### the law's own steps -/
def tl (rs : List Rw) : D := .tup [.tup (rs.map rD)]
def nmT (rs : List Rw) : D := .tup (rs.map fun r => D.str r.1)
def duL (rs : List Rw) : List Int := inTurn (wts rs) (hrsL rs).sum.toNat
theorem ok_str (n m : Nat) (x : Str) : okD n (.str x) = okD m (.str x) := by
  cases n <;> cases m <;> rfl
theorem ok_rD {rs : List Rw} (v : vR rs) (n : Nat) {r : Rw} (h : r ∈ rs) : okD (n + 1) (rD r) = true := okDs_of (n := n) fun d hd => by
  simp at hd
  rcases hd with rfl | rfl | rfl
  · rw [ok_str n 40]; exact v.ok r h
  · cases n <;> rfl
  · cases n <;> rfl
theorem ok_rowsN {rs : List Rw} (v : vR rs) (n : Nat) : okD (n + 2) (.tup (rs.map rD)) = true := okDs_of (n := n + 1) fun d hd => by
  obtain ⟨r, h, rfl⟩ := List.mem_map.mp hd
  exact ok_rD v n h
theorem ok_tl {rs : List Rw} (v : vR rs) (n : Nat) : okD (n + 3) (tl rs) = true := okDs_of (n := n + 2) fun d hd => by
  rw [List.mem_singleton.mp hd]
  exact ok_rowsN v n
theorem ok_nmT {rs : List Rw} (v : vR rs) (n : Nat) : okD (n + 1) (nmT rs) = true := okDs_of (n := n) fun d hd => by
  obtain ⟨r, h, rfl⟩ := List.mem_map.mp hd
  rw [ok_str n 40]; exact v.ok r h
theorem sm_ints : ∀ (l : List Int), smDs (l.map D.int) = true
  | [] => rfl
  | i :: l => by rw [List.map_cons, smDs, sm_ints l]; rfl
theorem sm_rows : ∀ (rs : List Rw), smDs (rs.map rD) = true
  | [] => rfl
  | r :: l => by rw [List.map_cons, smDs, sm_rows l]; rfl
theorem sm_nms : ∀ (rs : List Rw), smDs (rs.map fun r => D.str r.1) = true
  | [] => rfl
  | r :: l => by rw [List.map_cons, smDs, sm_nms l]; rfl
theorem ok_intsN (l : List Int) (n : Nat) : okD (n + 1) (.tup (l.map D.int)) = true := okDs_of (n := n) fun d hd => by
  obtain ⟨i, _, rfl⟩ := List.mem_map.mp hd
  cases n <;> rfl
/-! shares that hold are right -/
theorem inB_strs (x : Str) (l : List Str) : inB (.str x) (l.map D.str) = decide (x ∈ l) := inB_str x l
theorem share_ok {rs : List Rw} (v : vR rs) {i : Nat} {r : Rw} (h : rs[i]? = some r) : shareB (rD r) ((rs.take i).map rD) = true := by
  obtain ⟨h1, h2, h3⟩ := v.row r (List.mem_of_getElem? h)
  have e : ((rs.take i).map rD).map row0 = ((rs.take i).map fun r => r.1).map D.str := by
    rw [List.map_map, List.map_map]
    rfl
  have nd : inB (.str r.1) (((rs.take i).map rD).map row0) = false := by
    rw [e, inB_strs]
    refine decide_eq_false fun hm => ?_
    obtain ⟨q, hq, eq⟩ := List.mem_map.mp hm
    obtain ⟨j, hj⟩ := List.mem_iff_getElem?.mp hq
    rw [List.getElem?_take] at hj
    split at hj
    · rename_i hji
      have a1 : (rs.map fun r => r.1)[j]? = some q.1 := by rw [List.getElem?_map, hj]; rfl
      have a2 : (rs.map fun r => r.1)[i]? = some r.1 := by rw [List.getElem?_map, h]; rfl
      have hl : j < (rs.map fun r => r.1).length := (List.getElem?_eq_some_iff.mp a1).1
      rw [eq, ← a2] at a1
      have := (List.getElem?_inj hl v.nd).mp a1
      omega
    · cases hj
  have w1 : wiB (.int r.2.1) 1 99 = true := by simp [wiB, h2]
  have w2 : wiB (.int r.2.2) 0 60 = true := by simp [wiB, h3]
  show ((nmB (.str r.1) && !inB (.str r.1) (((rs.take i).map rD).map row0)) && (wiB (.int r.2.1) 1 99 && wiB (.int r.2.2) 0 60)) = true
  rw [nd, h1, w1, w2]
  rfl
theorem fwGo_all {P : D → List D → Bool} {all : List D} : ∀ (r : List D) (i : Nat), (∀ j d, r[j]? = some d → P d (all.take (i + j)) = true) → fwGo P all i r = .non
  | [], _, _ => rfl
  | d :: r, i, h => by
    unfold fwGo
    rw [if_pos (by simpa using h 0 d rfl)]
    exact fwGo_all r (i + 1) fun j e he => by
      have := h (j + 1) e (by simpa using he)
      rw [show i + 1 + j = i + (j + 1) by omega]; exact this
theorem fwGo_bad {P : D → List D → Bool} {all : List D} : ∀ (r : List D) (i m : Nat) (e : D), (∀ j d, j < m → r[j]? = some d → P d (all.take (i + j)) = true) → r[m]? = some e → P e (all.take (i + m)) = false → fwGo P all i r = .int ((i + m : Nat) : Int)
  | [], _, _, _, _, he, _ => by simp at he
  | d :: r, i, 0, e, _, he, hb => by
    cases he
    unfold fwGo
    rw [if_neg (by rw [show i = i + 0 from rfl]; rw [hb]; simp)]
    rfl
  | d :: r, i, m + 1, e, h, he, hb => by
    unfold fwGo
    rw [if_pos (by simpa using h 0 d (by omega) rfl)]
    have := fwGo_bad r (i + 1) m e (fun j x hj hx => by
      have := h (j + 1) x (by omega) (by simpa using hx)
      rw [show i + 1 + j = i + (j + 1) by omega]; exact this) (by simpa using he) (by rw [show i + 1 + m = i + (m + 1) by omega]; exact hb)
    rw [this, show i + 1 + m = i + (m + 1) by omega]
theorem rows_pre {rs : List Rw} (v : vR rs) : ∀ j d, (rs.map rD)[j]? = some d → shareB d ((rs.map rD).take j) = true := fun j d hd => by
  obtain ⟨r, hr, rfl⟩ := rs_at hd
  rw [← List.map_take]
  exact share_ok v hr
theorem fw_ok {rs : List Rw} (v : vR rs) : fwD shareB (.tup (rs.map rD)) 1 8 = .non := by
  have h1 := v.lo
  have h2 := v.hi
  unfold fwD
  simp only [List.length_map]
  rw [if_pos ⟨by omega, by omega⟩]
  exact fwGo_all _ 0 fun j d hd => by rw [Nat.zero_add]; exact rows_pre v j d hd
theorem badT_ok {rs : List Rw} (v : vR rs) : badT (tl rs) = none := by
  unfold badT tl
  simp only
  rw [fw_ok v]
/-- Turns(told) -/
theorem mk_ok {K : PySem.W.Frag} {rs : List Rw} (v : vR rs) {Q : List D → Prop} {E : Xn → Prop} (q : Q (turnsFs (.tup (rs.map rD)) (rs.map rD))) : m_Turns K [tl rs] Q E := by
  have hb := badT_ok v
  refine ⟨okD_mono 3 60 _ (by decide) (ok_tl v 0), ⟨fun p hp => ?_, fun _ => ⟨rs.map rD, rfl, q⟩⟩⟩
  rw [hb] at hp
  cases hp
theorem env_fair (rs : List Rw) : (envL rs).isEmpty = fairB rs := by
  have key : ∀ l : List Rw, (l.flatMap (envRow rs)).isEmpty = l.all fun r => rs.all fun s => !envR r s := fun l => by
    induction l with
    | nil => rfl
    | cons a l ih =>
      rw [List.flatMap_cons, List.all_cons, ← ih]
      have e1 : (envRow rs a).isEmpty = rs.all fun s => !envR a s := by
        unfold envRow
        rw [List.isEmpty_map]
        clear ih
        induction rs with
        | nil => rfl
        | cons b rs ih =>
          rw [List.filter_cons, List.all_cons]
          cases envR a b with
          | true => rfl
          | false => simpa using ih
      rw [← e1]
      cases envRow rs a <;> rfl
  exact key rs
theorem ok_envL {rs : List Rw} (v : vR rs) : Ok (.lst (envL rs)) := okDs_of (n := 59) fun d hd => by
  obtain ⟨a, ha, hd⟩ := List.mem_flatMap.mp hd
  obtain ⟨b, hb, rfl⟩ := List.mem_map.mp hd
  exact okD_mono 41 59 _ (by decide) (okDs_of (n := 40) fun e he => by
    simp at he
    rcases he with rfl | rfl
    · exact v.ok a ha
    · exact v.ok b (List.mem_filter.mp hb).1)
end K16
namespace K16
open L2 PySem PySem.Spec WL
theorem alike_same {K : PySem.W.Frag} {a : D} {Q : D → Prop} {E : Xn → Prop} (h : okD 40 a = true) (sm : smD a = true) (q : Q (.bl true)) : m__law_alike K [a, a] Q E := ⟨⟨rfl, h, sm, by decide⟩, q⟩
theorem smDs_of : ∀ {l : List D}, (∀ d ∈ l, smD d = true) → smDs l = true
  | [], _ => rfl
  | d :: r, h => by rw [smDs, h d (List.mem_cons_self ..), smDs_of fun e he => h e (List.mem_cons_of_mem _ he)]; rfl
theorem sm_tup {l : List D} (hl : l.length ≤ 900) (h : ∀ d ∈ l, smD d = true) : smD (.tup l) = true := by
  rw [smD, smDs_of h, decide_eq_true hl]
  rfl
theorem sm_rowsT {rs : List Rw} (v : vR rs) : smD (.tup (rs.map rD)) = true := by
  have := v.hi
  rw [smD, sm_rows, decide_eq_true (by rw [List.length_map]; omega)]
  rfl
theorem sm_tl {rs : List Rw} (v : vR rs) : smD (tl rs) = true := sm_tup (by simp) fun d hd => by rw [List.mem_singleton.mp hd]; exact sm_rowsT v
theorem sm_nmT {rs : List Rw} (v : vR rs) : smD (nmT rs) = true := by
  have := v.hi
  rw [nmT, smD, sm_nms, decide_eq_true (by rw [List.length_map]; omega)]
  rfl
theorem env_eq (rs : List Rw) : eqD (.lst (envL rs)) (.lst []) = fairB rs := by
  have e := eqD_nil (envL rs)
  rw [env_fair] at e
  exact e
def envT (c : Rw × Rw) : D := .tup [.str c.1.1, .str c.2.1]
theorem env_head (rs : List Rw) : ∀ l : List Rw, (l.flatMap (envRow rs)).head? = (l.findSome? fun r => (rs.find? fun s => envR r s).map fun s => (r, s)).map envT
  | [] => rfl
  | a :: l => by
    rw [List.flatMap_cons, List.head?_append, env_head rs l, List.findSome?_cons]
    have e : (envRow rs a).head? = ((rs.find? fun s => envR a s).map fun s => (a, s)).map envT := by
      unfold envRow
      rw [List.head?_map, List.head?_filter]
      cases rs.find? fun s => envR a s <;> rfl
    rw [e]
    cases rs.find? fun s => envR a s <;> rfl
theorem envyOf_eq (rs : List Rw) : envyOf rs = (((rs.findSome? fun r => (rs.find? fun s => envR r s).map fun s => (r, s)).map envT).getD .non) := by
  unfold envyOf
  split
  · rename_i h; rw [h]; rfl
  · rename_i h; rw [h]; rfl
theorem envy_ok {rs : List Rw} (v : vR rs) : okD 40 (envyOf rs) = true ∧ smD (envyOf rs) = true := by
  rw [envyOf_eq]
  cases h : (rs.findSome? fun r => (rs.find? fun s => envR r s).map fun s => (r, s)) with
  | none => exact ⟨rfl, rfl⟩
  | some c =>
    obtain ⟨a, ha, hb⟩ := List.exists_of_findSome?_eq_some h
    obtain ⟨b, hf, rfl⟩ := Option.map_eq_some_iff.mp hb
    refine ⟨okDs_of (n := 39) fun d hd => ?_, sm_tup (by simp) fun d hd => ?_⟩
    · simp at hd
      rcases hd with rfl | rfl
      · rw [ok_str 39 40]; exact v.ok a ha
      · rw [ok_str 39 40]; exact v.ok b (List.mem_of_find?_eq_some hf)
    · simp at hd
      rcases hd with rfl | rfl <;> rfl
theorem atI_h {α : Type} (l : List α) : L2.atI l 0 = l[0]? := atI_n l 0
section
variable {K : PySem.W.Frag} {sa : Addr} {rs : List Rw} {Kt : Kt} {x6 x7 x8 x9 x10 x11 x12 x13 x14 x15 x16 x17 x18 x19 x20 : Option Sl}
theorem l_0 {x2 x3 x4 x5 : Option Sl} (q : Kt.nx [some (.dat (.adr sa)), some (.dat .row), x2, x3, x4, x5, x6, x7, x8, x9, x10, x11, x12, x13, x14, x15, x16, x17, x18, x19, x20]) : t_law_0 K sa [some (.dat (.adr sa)), none, x2, x3, x4, x5, x6, x7, x8, x9, x10, x11, x12, x13, x14, x15, x16, x17, x18, x19, x20] Kt := by
  simp [t_law_0]
  exact q
theorem l_1 {x2 x3 x4 x5 : Option Sl} (q : ∀ rs, vR rs → rs.length ≤ 5 → Kt.nx [some (.dat (.adr sa)), some (.dat .row), some (.dat (tl rs)), x3, x4, x5, x6, x7, x8, x9, x10, x11, x12, x13, x14, x15, x16, x17, x18, x19, x20]) : t_law_1 K sa [some (.dat (.adr sa)), some (.dat .row), x2, x3, x4, x5, x6, x7, x8, x9, x10, x11, x12, x13, x14, x15, x16, x17, x18, x19, x20] Kt := by
  simp [t_law_1, m__law_turns]
  exact q
theorem l_2 (v : vR rs) (q : Kt.nx [some (.dat (.adr sa)), some (.dat .row), some (.dat (tl rs)), some (.dat (tD K rs)), some (.dat (nmT rs)), some (.dat (.lst (envL rs))), x6, x7, x8, x9, x10, x11, x12, x13, x14, x15, x16, x17, x18, x19, x20]) : t_law_2 K sa [some (.dat (.adr sa)), some (.dat .row), some (.dat (tl rs)), none, none, none, x6, x7, x8, x9, x10, x11, x12, x13, x14, x15, x16, x17, x18, x19, x20] Kt := by
  have h8 := v.hi
  simp [t_law_2]
  refine mk_ok v ?_
  simp [tl]
  refine ⟨by omega, lc_map row0 (fun d hd R hR => ?_) ?_⟩
  · obtain ⟨r, _, rfl⟩ := List.mem_map.mp hd
    simpa [rD, row0] using hR
  · refine ⟨rs, v, rfl, ?_⟩
    rw [names_eq]
    exact q
theorem l_3 (v : vR rs) {x3 x4 x5 : Option Sl} (q : Kt.nx [some (.dat (.adr sa)), some (.dat .row), some (.dat (tl rs)), x3, x4, x5, x6, some (.dat (.int (hrsL rs).sum)), x8, x9, x10, x11, x12, x13, x14, x15, x16, x17, x18, x19, x20]) : t_law_3 K sa [some (.dat (.adr sa)), some (.dat .row), some (.dat (tl rs)), x3, x4, x5, x6, x7, x8, x9, x10, x11, x12, x13, x14, x15, x16, x17, x18, x19, x20] Kt := by
  have h8 := v.hi
  simp [t_law_3, tl]
  refine ⟨by omega, lc_map (fun d => .int (hrs d)) (fun d hd R hR => ?_) ?_⟩
  · obtain ⟨r, _, rfl⟩ := List.mem_map.mp hd
    simpa [rD, hrs] using hR
  · rw [intsOf_f, optQ_s, hrs_sum]
    exact q
theorem l_4 (v : vR rs) {x3 x4 x5 : Option Sl} (q : Kt.nx [some (.dat (.adr sa)), some (.dat .row), some (.dat (tl rs)), x3, x4, x5, x6, some (.dat (.int (hrsL rs).sum)), some (.dat (.lst ((duL rs).map D.int))), x9, x10, x11, x12, x13, x14, x15, x16, x17, x18, x19, x20]) : t_law_4 K sa [some (.dat (.adr sa)), some (.dat .row), some (.dat (tl rs)), x3, x4, x5, x6, some (.dat (.int (hrsL rs).sum)), x8, x9, x10, x11, x12, x13, x14, x15, x16, x17, x18, x19, x20] Kt := by
  have h8 := v.hi
  have h1 := v.lo
  have hs := v.sum
  simp [t_law_4, tl]
  refine ⟨by omega, lc_map (fun d => match d with | .tup [_, .int w, _] => .int w | _ => .non) (fun d hd R hR => ?_) ?_⟩
  · obtain ⟨r, _, rfl⟩ := List.mem_map.mp hd
    simpa [rD] using hR
  · have e : ((rs.map rD).map fun d => match d with | .tup [_, .int w, _] => D.int w | _ => .non) = (wts rs).map D.int := by
      rw [wts, List.map_map, List.map_map]
      rfl
    rw [e]
    have lw : (wts rs).length = rs.length := List.length_map _
    refine ⟨wts rs, (hrsL rs).sum.toNat, by rw [Int.toNat_of_nonneg hs.1], ⟨by omega, by omega, by omega⟩, fun x hx => ?_, q⟩
    obtain ⟨i, hi⟩ := List.mem_iff_getElem?.mp hx
    exact v.wt hi
theorem l_5 (v : vR rs) (q : Kt.nx [some (.dat (.adr sa)), some (.dat .row), some (.dat (tl rs)), some (.dat (tD K rs)), some (.dat (nmT rs)), some (.dat (.lst (envL rs))), x6, some (.dat (.int (hrsL rs).sum)), x8, x9, x10, x11, x12, x13, x14, x15, x16, x17, x18, x19, x20]) : t_law_5 K sa [some (.dat (.adr sa)), some (.dat .row), some (.dat (tl rs)), some (.dat (tD K rs)), some (.dat (nmT rs)), some (.dat (.lst (envL rs))), x6, some (.dat (.int (hrsL rs).sum)), x8, x9, x10, x11, x12, x13, x14, x15, x16, x17, x18, x19, x20] Kt := by
  simp [t_law_5]
  refine ⟨rs, v, rfl, ?_⟩
  simp [tl]
  refine ⟨⟨ok_envL v, ok_lnil⟩, ?_⟩
  rw [env_eq]
  refine alike_same (okDs_of (n := 39) fun d hd => ?_) (sm_tup (by simp) fun d hd => ?_) (by simpa [tl] using q)
  · simp at hd
    rcases hd with rfl | rfl | rfl | rfl | rfl
    · exact ok_tl v 36
    · exact ok_rowsN v 37
    · exact ok_nmT v 38
    · rfl
    · rfl
  · simp at hd
    rcases hd with rfl | rfl | rfl | rfl | rfl
    · exact sm_tl v
    · exact sm_rowsT v
    · exact sm_nmT v
    · rfl
    · rfl
theorem l_6 (v : vR rs) {x5 : Option Sl} (q : Kt.nx [some (.dat (.adr sa)), some (.dat .row), some (.dat (tl rs)), some (.dat (tD K rs)), some (.dat (nmT rs)), x5, x6, x7, some (.dat (.lst ((duL rs).map D.int))), x9, x10, x11, x12, x13, x14, x15, x16, x17, x18, x19, x20]) : t_law_6 K sa [some (.dat (.adr sa)), some (.dat .row), some (.dat (tl rs)), some (.dat (tD K rs)), some (.dat (nmT rs)), x5, x6, x7, some (.dat (.lst ((duL rs).map D.int))), x9, x10, x11, x12, x13, x14, x15, x16, x17, x18, x19, x20] Kt := by
  have h8 := v.hi
  have ld : (duL rs).length = rs.length := (inTurn_length _ _).trans (List.length_map _)
  have lh : (hrsL rs).length = rs.length := List.length_map _
  simp [t_law_6]
  refine ⟨rs, v, rfl, rs, v, rfl, ?_⟩
  simp [tl]
  refine ⟨by omega, by rw [upto_length]; omega, lc_map (fun d => match d with | .int k => .int (max 0 ((hrsL rs).getD k.toNat 0 - (duL rs).getD k.toNat 0)) | _ => .non) (fun d hd R hR => ?_) ?_⟩
  · obtain ⟨k, hk, rfl⟩ := mem_upto hd
    rw [ld] at hk
    have e1 : (rs.map rD)[k]? = some (rD rs[k]) := by rw [List.getElem?_map, List.getElem?_eq_getElem hk]; rfl
    have e2 : ((duL rs).map D.int)[k]? = some (.int ((duL rs).getD k 0)) := ints_at (by omega)
    have e3 : (hrsL rs).getD k 0 = rs[k].2.2 := by
      rw [List.getD_eq_getElem?_getD, hrsL, List.getElem?_map, List.getElem?_eq_getElem hk]
      rfl
    simp [atI_n, e1, e2, rD]
    simp only [Int.toNat_natCast, e3, List.getD_eq_getElem?_getD] at hR
    generalize (duL rs)[k]?.getD 0 = y at hR ⊢
    generalize rs[k].2.2 = x at hR ⊢
    rw [show (if y < x then x - y else 0) = max 0 (x - y) by split <;> omega]
    exact hR
  · have e : (upto (duL rs).length).map (fun d => match d with | .int k => D.int (max 0 ((hrsL rs).getD k.toNat 0 - (duL rs).getD k.toNat 0)) | _ => .non) = (List.range rs.length).map (fun k => D.int (max 0 ((hrsL rs).getD k 0 - (duL rs).getD k 0))) := by
      rw [ld]
      unfold upto
      rw [List.map_map]
      rfl
    rw [e, intsOf_f, optQ_s]
    refine alike_same (okDs_of (n := 39) fun d hd => ?_) (sm_tup (by simp) fun d hd => ?_) (by simpa [tl] using q)
    · simp at hd
      rcases hd with rfl | rfl
      · exact ok_intsN _ 38
      · rfl
    · simp at hd
      rcases hd with rfl | rfl
      · rw [smD, sm_ints, decide_eq_true (by rw [List.length_map]; show (duL rs).length ≤ 900; omega)]
        rfl
      · rfl
theorem l_7 (v : vR rs) {x4 x5 : Option Sl} (q : Kt.nx [some (.dat (.adr sa)), some (.dat .row), some (.dat (tl rs)), some (.dat (tD K rs)), x4, x5, x6, x7, x8, x9, x10, x11, x12, x13, x14, x15, x16, x17, x18, x19, x20]) : t_law_7 K sa [some (.dat (.adr sa)), some (.dat .row), some (.dat (tl rs)), some (.dat (tD K rs)), x4, x5, x6, x7, x8, x9, x10, x11, x12, x13, x14, x15, x16, x17, x18, x19, x20] Kt := by
  have ins : m_are_turns K [tD K rs] = fun Q _ => He.ga K "Turns" = He.ga K "Turns" ∧ Q (.bl true) := rfl
  have nin : m_are_turns K [tl rs] = fun Q _ => Ok (tl rs) ∧ Q (.bl false) := rfl
  have e1 : ∀ Q E, m_Turns_eq K [tD K rs, tl rs] Q E = ((He.ga K "Turns" = He.ga K "Turns" ∧ ks_Turns = ks_Turns ∧ Ok (.tup [.tup (rs.map rD)])) ∧ Ok (tl rs) ∧ Q (.bl false)) := fun Q E => rfl
  have e2 : ∀ Q E, m_Turns_eq K [tD K rs, tD K rs] Q E = ((He.ga K "Turns" = He.ga K "Turns" ∧ ks_Turns = ks_Turns ∧ Ok (.tup [.tup (rs.map rD)])) ∧ (He.ga K "Turns" = He.ga K "Turns" ∧ ks_Turns = ks_Turns ∧ Ok (.tup [.tup (rs.map rD)])) ∧ Q (.bl (eqD (.tup [.tup (rs.map rD)]) (.tup [.tup (rs.map rD)])))) := fun Q E => rfl
  have o : Ok (.tup [.tup (rs.map rD)]) := okD_mono 3 60 _ (by decide) (ok_tl v 0)
  simp [t_law_7]
  rw [ins]
  refine ⟨rfl, ?_⟩
  simp
  rw [nin]
  refine ⟨o, ?_⟩
  simp
  show (He.ga K "Turns" = He.ga K "Turns" ∧ True) ∧ m_Turns_eq K [tD K rs, tl rs] _ _
  rw [e1]
  refine ⟨⟨rfl, trivial⟩, ⟨rfl, rfl, o⟩, o, ?_⟩
  simp
  refine mk_ok v ?_
  show He.ga K "Turns" = He.ga K "Turns" ∧ m_Turns_eq K [tD K rs, tD K rs] _ _
  rw [e2]
  refine ⟨rfl, ⟨rfl, rfl, o⟩, ⟨rfl, rfl, o⟩, ?_⟩
  rw [eqD_refl 60 _ o]
  simpa [tl] using q
theorem l_8 (v : vR rs) {x4 x5 : Option Sl} (q : Kt.nx [some (.dat (.adr sa)), some (.dat .row), some (.dat (tl rs)), some (.dat (tD K rs)), x4, x5, x6, x7, x8, x9, some (.dat (priceOf rs)), some (.dat (.tup [.bl (fairB rs), if fairB rs = true then priceOf rs else envyOf rs])), x12, x13, x14, x15, x16, x17, x18, x19, x20]) : t_law_8 K sa [some (.dat (.adr sa)), some (.dat .row), some (.dat (tl rs)), some (.dat (tD K rs)), x4, x5, x6, x7, x8, x9, x10, x11, x12, x13, x14, x15, x16, x17, x18, x19, x20] Kt := by
  simp [t_law_8]
  exact ⟨rs, v, rfl, rs, v, rfl, q⟩
theorem l_9 (v : vR rs) {x4 x5 : Option Sl} (q : Kt.nx [some (.dat (.adr sa)), some (.dat .row), some (.dat (tl rs)), some (.dat (tD K rs)), x4, some (.dat (.lst (envL rs))), x6, x7, x8, x9, x10, x11, x12, x13, x14, x15, x16, x17, x18, x19, x20]) : t_law_9 K sa [some (.dat (.adr sa)), some (.dat .row), some (.dat (tl rs)), some (.dat (tD K rs)), x4, some (.dat (.lst (envL rs))), x6, x7, x8, x9, x10, x11, x12, x13, x14, x15, x16, x17, x18, x19, x20] Kt := by
  simp [t_law_9]
  refine ⟨rs, v, rfl, ⟨ok_envL v, ok_lnil⟩, ?_⟩
  rw [env_eq, ← env_fair]
  have h0 := env_head rs rs
  have fin : ∀ x, envyOf rs = x → m__law_alike K [envyOf rs, x] (fun x => truM x fun c => if c = true then Kt.nx [some (.dat (.adr sa)), some (.dat .row), some (.dat (tl rs)), some (.dat (tD K rs)), x4, some (.dat (.lst (envL rs))), x6, x7, x8, x9, x10, x11, x12, x13, x14, x15, x16, x17, x18, x19, x20] else Kt.rt (.bl false)) Kt.ex := fun x e => by
    rw [← e]
    exact alike_same (envy_ok v).1 (envy_ok v).2 (by simpa using q)
  rw [← show envL rs = rs.flatMap (envRow rs) from rfl] at h0
  split
  · rename_i hn
    rw [List.isEmpty_iff.mp hn] at h0
    refine fin _ ?_
    rw [envyOf_eq, ← h0]
    rfl
  · rename_i hn
    rw [atI_h, ← List.head?_eq_getElem?, h0]
    have hs := env_head rs rs
    rw [← show envL rs = rs.flatMap (envRow rs) from rfl, h0] at hs
    cases hc : (rs.findSome? fun r => (rs.find? fun s => envR r s).map fun s => (r, s)) with
    | none =>
      rw [hc] at h0
      exact (hn (by rw [List.head?_eq_none_iff.mp h0]; rfl)).elim
    | some c =>
      refine fin _ ?_
      rw [envyOf_eq, hc]
      rfl
end
end K16
namespace K16
open L2 PySem PySem.Spec WL
theorem cross_le {a b c x y z : Int} (hx : 0 < x) (hy : 0 < y) (hz : 0 < z) (h1 : a * y ≤ b * x) (h2 : b * z ≤ c * y) : a * z ≤ c * x := by
  rcases Int.lt_or_le (c * x) (a * z) with h | h
  · have := cross hz hx hy h h1
    omega
  · exact h
theorem foldl_max : ∀ (t : List Rw) (b : Rw), 0 < b.2.1 → (∀ r ∈ t, 0 < r.2.1) → 0 < (t.foldl moreR b).2.1 ∧ ∀ q, (q = b ∨ q ∈ t) → q.2.2 * (t.foldl moreR b).2.1 ≤ (t.foldl moreR b).2.2 * q.2.1
  | [], b, hb, _ => ⟨hb, fun q hq => by
    rcases hq with rfl | h
    · exact Int.le_refl _
    · cases h⟩
  | r :: t, b, hb, ht => by
    have hr := ht r (List.mem_cons_self ..)
    have hp : 0 < (moreR b r).2.1 := by
      unfold moreR
      split
      · exact hr
      · exact hb
    have m1 : b.2.2 * (moreR b r).2.1 ≤ (moreR b r).2.2 * b.2.1 := by
      unfold moreR
      split
      · rename_i h; exact Int.le_of_lt h
      · exact Int.le_refl _
    have m2 : r.2.2 * (moreR b r).2.1 ≤ (moreR b r).2.2 * r.2.1 := by
      unfold moreR
      split
      · exact Int.le_refl _
      · rename_i h; omega
    have ih := foldl_max t (moreR b r) hp fun r h => ht r (List.mem_cons_of_mem _ h)
    rw [List.foldl_cons]
    refine ⟨ih.1, fun q hq => ?_⟩
    have k := ih.2 _ (.inl rfl)
    rcases hq with rfl | h
    · exact cross_le hb hp ih.1 m1 k
    · rcases List.mem_cons.mp h with rfl | h
      · exact cross_le hr hp ih.1 m2 k
      · exact ih.2 q (.inr h)
theorem best_max {rs : List Rw} (v : vR rs) : bestRow rs ∈ rs ∧ ∀ q ∈ rs, q.2.2 * (bestRow rs).2.1 ≤ (bestRow rs).2.2 * q.2.1 := by
  have l := v.lo
  have w := v.row
  cases rs with
  | nil => simp at l
  | cons r t =>
    have wp : ∀ q ∈ r :: t, 0 < q.2.1 := fun q h => by have := (w q h).2.1; omega
    exact ⟨moreR_mem (r :: t) (r :: t) r (List.mem_cons_self ..) fun _ h => h, fun q h => (foldl_max (r :: t) r (wp r (List.mem_cons_self ..)) wp).2 q (.inr h)⟩
theorem goodP_i {a b : Int} (h : (0 ≤ a ∧ a ≤ 9999) ∧ (1 ≤ b ∧ b ≤ 9999)) : goodP (.tup [.int a, .int b]) = some (a, b) := if_pos h
theorem price_ok {rs : List Rw} (v : vR rs) (f : fairB rs = true) : priceB rs (.tup [.int (bestRow rs).2.2, .int (bestRow rs).2.1]) = true := by
  obtain ⟨m, h⟩ := best_max v
  have w := v.row _ m
  unfold priceB
  rw [goodP_i ⟨by omega, by omega⟩]
  refine List.all_eq_true.mpr fun r hr => ?_
  have f1 := List.all_eq_true.mp (List.all_eq_true.mp f r hr) _ m
  have f2 : ¬ ((r.2.2 + 1) * (bestRow rs).2.1 < (bestRow rs).2.2 * r.2.1) := by
    intro z
    rw [show envR r (bestRow rs) = true from decide_eq_true z] at f1
    cases f1
  rw [decide_eq_true (h r hr), decide_eq_true (by omega)]
  rfl
theorem eq_pair (a b : Str) (d : D) : eqD (.tup [.str a, .str b]) d = true ↔ d = .tup [.str a, .str b] := by
  constructor
  · intro h
    cases d with
    | tup ys =>
      rw [eqD] at h
      match ys, h with
      | [], h => cases h
      | [x], h => simp [eqDs] at h
      | x :: y :: z :: r, h => simp [eqDs] at h
      | [x, y], h =>
        simp only [eqDs, Bool.and_eq_true] at h
        obtain ⟨h1, h2, _⟩ := h
        cases x with
        | str x =>
          cases y with
          | str y =>
            rw [eqD] at h1 h2
            rw [eq_of_beq h1, eq_of_beq h2]
          | _ => cases h2
        | _ => cases h1
    | _ => cases h
  · rintro rfl
    simp [eqD, eqDs]
theorem inB_pairs (d : D) : ∀ l : List D, (∀ e ∈ l, ∃ a b, e = .tup [.str a, .str b]) → (inB d l = true ↔ d ∈ l)
  | [], _ => by simp [inB]
  | e :: r, h => by
    obtain ⟨a, b, rfl⟩ := h e (List.mem_cons_self ..)
    rw [inB, Bool.or_eq_true, eq_pair, inB_pairs d r fun e he => h e (List.mem_cons_of_mem _ he), List.mem_cons]
theorem mem_env {rs : List Rw} {d : D} : d ∈ envL rs ↔ ∃ a ∈ rs, ∃ b ∈ rs, envR a b = true ∧ d = .tup [.str a.1, .str b.1] := by
  unfold envL
  rw [List.mem_flatMap]
  constructor
  · rintro ⟨a, ha, hd⟩
    obtain ⟨b, hb, rfl⟩ := List.mem_map.mp hd
    obtain ⟨hb, he⟩ := List.mem_filter.mp hb
    exact ⟨a, ha, b, hb, he, rfl⟩
  · rintro ⟨a, ha, b, hb, he, rfl⟩
    exact ⟨a, ha, List.mem_map.mpr ⟨b, List.mem_filter.mpr ⟨hb, he⟩, rfl⟩⟩
theorem in_env {rs : List Rw} (v : vR rs) (d : D) : inB d (envL rs) = envyB rs d := by
  have k := inB_pairs d (envL rs) fun e he => by
    obtain ⟨a, _, b, _, _, rfl⟩ := mem_env.mp he
    exact ⟨_, _, rfl⟩
  cases h : envyB rs d with
  | true =>
    refine k.mpr (mem_env.mpr ?_)
    unfold envyB at h
    split at h
    · rename_i x y
      split at h
      · rename_i r s hr hs
        obtain ⟨r1, rfl⟩ := rowOf_mem hr
        obtain ⟨s1, rfl⟩ := rowOf_mem hs
        exact ⟨r, r1, s, s1, h, rfl⟩
      · cases h
    · cases h
  | false =>
    refine Bool.eq_false_iff.mpr fun z => ?_
    obtain ⟨a, ha, b, hb, he, rfl⟩ := mem_env.mp (k.mp z)
    rw [envyB_of v ha hb, he] at h
    cases h
theorem envy_in {rs : List Rw} (v : vR rs) (f : fairB rs = false) : inB (envyOf rs) (envL rs) = true := by
  obtain ⟨r, s, h1, h2, h3, h4⟩ := envyOf_some f
  rw [h4, in_env v, envyB_of v h1 h2, h3]
/-- the paper's part -/
def pE (rs : List Rw) : D := if fairB rs = true then priceOf rs else envyOf rs
theorem price_D {rs : List Rw} (f : fairB rs = true) : priceOf rs = .tup [.int (bestRow rs).2.2, .int (bestRow rs).2.1] := if_pos f
theorem okp (a b : Int) (n : Nat) : okD (n + 1) (.tup [.int a, .int b]) = true := by
  cases n <;> rfl
theorem pE_ok {rs : List Rw} (v : vR rs) : okD 40 (pE rs) = true ∧ smD (pE rs) = true := by
  unfold pE
  split
  · rename_i f
    rw [price_D f]
    exact ⟨okp _ _ 39, rfl⟩
  · exact envy_ok v
theorem price_okD (rs : List Rw) : Ok (priceOf rs) := by
  unfold priceOf
  split
  · exact okp _ _ 59
  · rfl
theorem paper_ok {rs : List Rw} (v : vR rs) : paperB rs (.tup [.bl (fairB rs), pE rs]) = true := by
  unfold pE
  cases f : fairB rs with
  | true =>
    rw [if_pos rfl, price_D f]
    exact price_ok v f
  | false =>
    rw [if_neg (by simp)]
    show envyB rs (envyOf rs) = true
    rw [← in_env v, envy_in v f]
section
variable {K : PySem.W.Frag} {sa : Addr} {rs : List Rw} {Kt : Kt} {x6 x7 x8 x9 x10 x11 x12 x13 x14 x15 x16 x17 x18 x19 x20 : Option Sl}
theorem ok_paper (v : vR rs) : Ok (.tup [.bl (fairB rs), pE rs]) := okDs_of (n := 59) fun d hd => by
  simp at hd
  rcases hd with rfl | rfl
  · rfl
  · exact okD_mono 40 59 _ (by decide) (pE_ok v).1
theorem l_10 (v : vR rs) {x4 : Option Sl} (q : Kt.nx [some (.dat (.adr sa)), some (.dat .row), some (.dat (tl rs)), some (.dat (tD K rs)), x4, some (.dat (.lst (envL rs))), x6, x7, x8, x9, some (.dat (priceOf rs)), some (.dat (.tup [.bl (fairB rs), pE rs])), x12, x13, x14, x15, x16, x17, x18, x19, x20]) : t_law_10 K sa [some (.dat (.adr sa)), some (.dat .row), some (.dat (tl rs)), some (.dat (tD K rs)), x4, some (.dat (.lst (envL rs))), x6, x7, x8, x9, some (.dat (priceOf rs)), some (.dat (.tup [.bl (fairB rs), pE rs])), x12, x13, x14, x15, x16, x17, x18, x19, x20] Kt := by
  have e := env_eq rs
  have o : Ok (.lst (envL rs)) ∧ Ok (.lst []) := ⟨ok_envL v, ok_lnil⟩
  have p := paper_ok v
  have op := ok_paper v
  have hp : ∀ Q : Bool → Prop, isM (priceOf rs) .non Q = Q (!fairB rs) := fun Q => by
    unfold priceOf
    cases fairB rs <;> rfl
  have hb : ∀ (a b : Bool) (Q : Bool → Prop), isNotM (.bl a) (.bl b) Q = Q (!decide (a = b)) := fun _ _ _ => rfl
  simp [t_law_10, e, hp, hb, -isM, -isNotM]
  refine ⟨o, rs, _, v, op, rfl, ?_⟩
  rw [p]
  simpa using q
theorem l_11 (v : vR rs) {x3 x4 : Option Sl} (q : Kt.nx [some (.dat (.adr sa)), some (.dat .row), some (.dat (tl rs)), x3, x4, some (.dat (.lst (envL rs))), x6, x7, x8, x9, some (.dat (priceOf rs)), some (.dat (.tup [.bl (fairB rs), pE rs])), x12, x13, x14, x15, x16, x17, x18, x19, x20]) : t_law_11 K sa [some (.dat (.adr sa)), some (.dat .row), some (.dat (tl rs)), x3, x4, some (.dat (.lst (envL rs))), x6, x7, x8, x9, some (.dat (priceOf rs)), some (.dat (.tup [.bl (fairB rs), pE rs])), x12, x13, x14, x15, x16, x17, x18, x19, x20] Kt := by
  have o : Ok (.lst (envL rs)) ∧ Ok (.lst []) := ⟨ok_envL v, ok_lnil⟩
  simp [t_law_11, env_eq]
  refine ⟨o, ?_⟩
  split
  · rename_i f
    have po := price_ok v f
    rw [← price_D f] at po
    have pe : pE rs = priceOf rs := if_pos f
    rw [pe]
    refine ⟨rs, _, v, price_okD rs, rfl, ?_⟩
    rw [po]
    simp
    refine ⟨rs, _, v, price_okD rs, rfl, ?_⟩
    rw [po]
    simpa [pe] using q
  · rename_i f
    have pe : pE rs = envyOf rs := if_neg f
    rw [pe, envy_in v (by simpa using f)]
    exact ⟨⟨okD_mono 40 60 _ (by decide) (envy_ok v).1, o.1⟩, by simpa [pe] using q⟩
end
end K16
namespace K16
open L2 PySem PySem.Spec WL
def t12b (K : PySem.W.Frag) (sa : Addr) : SM :=
  (sFor (miR1 (mCall 2 (m__law_taken K) (mCons (mVar 1) (mCons (mK (.int 2)) mNil)))) (.nm 15)
  (sSet (mCall 2 (m__law_spoiled K) (mCons (mVar 1) (mCons (mVar 14) mNil))) 14))
def t12c (K : PySem.W.Frag) (sa : Addr) : SM :=
  (sSet (mTup (mCons (mCall 2 (m__law_priced K) (mCons (mVar 2) (mCons (mVar 14) mNil))) (mCons (mAndV (mB1 (isTyM K "tuple") (mVar 14)) (m2v inM (mVar 14) (mVar 5))) mNil))) 8)
def t12d (K : PySem.W.Frag) (sa : Addr) : SM :=
  (sIf (mOr (mNot (mTru (mCall 2 (m__law_alike K) (mCons (mTup (mCons (mCall 2 (m_is_price K) (mCons (mVar 3) (mCons (mVar 14) mNil))) (mCons (mCall 2 (m_is_envy K) (mCons (mVar 3) (mCons (mVar 14) mNil))) mNil))) (mCons (mVar 8) mNil))))) (mNot (mTru (mCall 2 (m__law_alike K) (mCons (mTup (mCons (mCall 2 (m_is_turns_paper K) (mCons (mVar 3) (mCons (mTup (mCons (mK (.bl true)) (mCons (mVar 14) mNil))) mNil))) (mCons (mCall 2 (m_is_turns_paper K) (mCons (mVar 3) (mCons (mTup (mCons (mK (.bl false)) (mCons (mVar 14) mNil))) mNil))) mNil))) (mCons (mVar 8) mNil))))))
  (sRet (mK (.bl false)))
  sNext)
def t12e (K : PySem.W.Frag) (sa : Addr) : SM :=
  (sIf (mNot (mTru (mCall 2 (m__law_alike K) (mCons (mTup (mCons (m1 tupM (mCall 2 (m_share_at K) (mCons (mVar 3) (mCons (m2 ixM (mVar 4) (mVar 9)) mNil)))) (mCons (mCall 2 (m_most_for K) (mCons (mVar 3) (mCons (mVar 13) mNil))) mNil))) (mCons (mTup (mCons (mSl (m2 ixM (m2 ixM (mVar 2) (mK (.int 0))) (mVar 9)) (moS (mK (.int 1))) moN) (mCons (m1 tupM (mNew (mLc (miT (m2 ixM (mVar 2) (mK (.int 0)))) [6] (.nm 6) mYes (m2 fdvM (m2 mulM (m2 ixM (mVar 13) (mK (.int 0))) (m2 ixM (mVar 6) (mK (.int 1)))) (m2 ixM (mVar 13) (mK (.int 1))))))) mNil))) mNil)))))
  (sRet (mK (.bl false)))
  sNext)
theorem t_law_12_eq (K : PySem.W.Frag) (sa : Addr) : t_law_12 K sa = (sFor (miR1 (mK (.int 20))) (.nm 12)
  (sSeq (sSet (mCall 2 (m__law_taken K) (mCons (mVar 1) (mCons (m1 lenM (mVar 4)) mNil))) 9)
  (sSeq (sSet (mTup (mCons (m2 addM (m2 ixM (m2 ixM (m2 ixM (mVar 2) (mK (.int 0))) (mVar 9)) (mK (.int 2))) (mCall 2 (m__law_taken K) (mCons (mVar 1) (mCons (mK (.int 2)) mNil)))) (mCons (m2 ixM (m2 ixM (m2 ixM (mVar 2) (mK (.int 0))) (mVar 9)) (mK (.int 1))) mNil))) 13)
  (sSeq (sSet (mCall 2 (m__law_pick K) (mCons (mVar 1) (mCons (mNew (mLst (mCons (m2 ixM (mVar 11) (mK (.int 1))) (mCons (mVar 13) (mCons (mTup (mCons (m2 ixM (mVar 4) (mVar 9)) (mCons (m2 ixM (mVar 4) (m1 negM (mK (.int 1)))) mNil))) (mCons (mTup (mCons (m2 ixM (mVar 4) (m1 negM (mK (.int 1)))) (mCons (m2 ixM (mVar 4) (mVar 9)) mNil))) (mCons (mTup (mCons (m2 mulM (m2 ixM (mVar 13) (mK (.int 0))) (mK (.int 3))) (mCons (m2 mulM (m2 ixM (mVar 13) (mK (.int 1))) (mK (.int 3))) mNil))) mNil))))))) mNil))) 14)
  (sSeq (t12b K sa)
  (sSeq (t12c K sa)
  (sSeq (t12d K sa)
  (t12e K sa)))))))) := rfl
def dS : Option Sl → Bool
  | none => true
  | some (.dat _) => true
  | _ => false
theorem allDat_c (x : Option Sl) (r : DEnv) : allDat (x :: r) = (dS x && allDat r) := by
  cases x with
  | none => rfl
  | some y => cases y <;> rfl
theorem tup_env (rs : List Rw) (d : D) (o : Ok d) (K : PySem.W.Frag) : tyOk K "tuple" d ∧ (isTy "tuple" d && envyB rs d) = envyB rs d := by
  cases d with
  | tup xs => exact ⟨trivial, rfl⟩
  | ins => cases o
  | row => cases o
  | adr => cases o
  | dic => cases o
  | tpn => cases o
  | _ => exact ⟨trivial, by simp [envyB]⟩
section
variable {K : PySem.W.Frag} {sa : Addr} {rs : List Rw} {Kt : Kt} {x3 x4 x5 x6 x7 x8 x9 x10 x11 x12 x13 x14 x15 x16 x17 x18 x19 x20 y1 y2 : Option Sl}
theorem l_12b {d : D} (o : okD 40 d = true) (sm : smD d = true) (h15 : dS x15 = true) (q : ∀ e x15, dS x15 = true → okD 41 e = true → Kt.nx [x3, some (.dat .row), x4, x5, x6, x7, x8, x9, x10, x11, x12, x13, x16, x17, some (.dat e), x15, x18, x19, x20, y1, y2]) : t12b K sa [x3, some (.dat .row), x4, x5, x6, x7, x8, x9, x10, x11, x12, x13, x16, x17, some (.dat d), x15, x18, x19, x20, y1, y2] Kt := by
  simp [t12b, m__law_taken, -forD]
  intro k h0 h1
  refine ⟨⟨by omega, by omega⟩, ?_⟩
  have e : k = 0 ∨ k = 1 := by omega
  rcases e with rfl | rfl
  · exact q d _ h15 (okD_mono 40 41 _ (by decide) o)
  · simp [show upto (1 : Int).toNat = [.int 0] from rfl, forD, lpB]
    exact ⟨rfl, ⟨o, sm, by decide⟩, fun e he => q e _ rfl he⟩
theorem l_12c (v : vR rs) {d : D} (o : Ok d) (q : Kt.nx [x3, x4, some (.dat (tl rs)), x5, x6, some (.dat (.lst (envL rs))), x7, x8, some (.dat (.tup [.bl (priceB rs d), .bl (envyB rs d)])), x9, x10, x11, x12, x13, some (.dat d), x15, x16, x17, x18, x19, x20]) : t12c K sa [x3, x4, some (.dat (tl rs)), x5, x6, some (.dat (.lst (envL rs))), x7, x8, x14, x9, x10, x11, x12, x13, some (.dat d), x15, x16, x17, x18, x19, x20] Kt := by
  obtain ⟨t1, t2⟩ := tup_env rs d o K
  simp [t12c]
  refine ⟨rs, d, v, o, rfl, t1, ?_⟩
  rw [in_env v]
  split
  · exact ⟨⟨o, ok_envL v⟩, q⟩
  · rename_i h
    rw [Bool.eq_false_iff.mpr h, Bool.false_and] at t2
    rw [t2]; exact q
theorem l_12d (v : vR rs) {d : D} (o : okD 41 d = true) (q : Kt.nx [x3, x4, x9, some (.dat (tD K rs)), x5, x6, x7, x8, some (.dat (.tup [.bl (priceB rs d), .bl (envyB rs d)])), x10, x11, x12, x13, x14, some (.dat d), x15, x16, x17, x18, x19, x20]) : t12d K sa [x3, x4, x9, some (.dat (tD K rs)), x5, x6, x7, x8, some (.dat (.tup [.bl (priceB rs d), .bl (envyB rs d)])), x10, x11, x12, x13, x14, some (.dat d), x15, x16, x17, x18, x19, x20] Kt := by
  have o6 : Ok d := okD_mono 41 60 _ (by decide) o
  have ot : ∀ b, Ok (.tup [.bl b, d]) := fun b => okDs_of (n := 59) fun e he => by
    simp at he
    rcases he with rfl | rfl
    · rfl
    · exact okD_mono 41 59 _ (by decide) o
  have al : ∀ (b c : Bool) (Q : D → Prop) E, Q (.bl true) → m__law_alike K [.tup [.bl b, .bl c], .tup [.bl b, .bl c]] Q E := fun b c Q E q => alike_same rfl rfl q
  simp [t12d]
  refine ⟨rs, d, v, o6, rfl, rs, d, v, o6, rfl, al _ _ _ _ ?_⟩
  simp
  refine ⟨rs, _, v, ot true, rfl, rs, _, v, ot false, rfl, ?_⟩
  simp only [paperB, if_true, Bool.false_eq_true, if_false]
  exact al _ _ _ _ (by simpa using q)
theorem l_12e (v : vR rs) {k : Nat} {r : Rw} {j : Int} (hr : rs[k]? = some r) (hj : 0 ≤ j ∧ j < 2) (q : Kt.nx [x3, x4, some (.dat (tl rs)), some (.dat (tD K rs)), some (.dat (nmT rs)), x5, x6, x7, x8, some (.dat (.int k)), x10, x11, x12, some (.dat (.tup [.int (r.2.2 + j), .int r.2.1])), x14, x15, x16, x17, x18, x19, x20]) : t12e K sa [x3, x4, some (.dat (tl rs)), some (.dat (tD K rs)), some (.dat (nmT rs)), x5, x6, x7, x8, some (.dat (.int k)), x10, x11, x12, some (.dat (.tup [.int (r.2.2 + j), .int r.2.1])), x14, x15, x16, x17, x18, x19, x20] Kt := by
  have h8 := v.hi
  have hm := List.mem_of_getElem? hr
  have w := v.row r hm
  have e1 : (rs.map fun r => D.str r.1)[k]? = some (.str r.1) := by rw [List.getElem?_map, hr]; rfl
  have e2 : (rs.map rD)[k]? = some (rD r) := by rw [List.getElem?_map, hr]; rfl
  have oi : Ok (.str r.1) := okD_mono 40 60 _ (by decide) (v.ok r hm)
  have gp : goodP (.tup [.int (r.2.2 + j), .int r.2.1]) = some (r.2.2 + j, r.2.1) := goodP_i (by omega)
  have bg : ∀ s ∈ rs, big s.2.1 := fun s hs => by have := v.row s hs; unfold big; omega
  have bh : big (r.2.2 + j) := by unfold big; omega
  simp [t12e, nmT, atI_n, e1]
  refine ⟨rs, _, v, oi, rfl, fun z => ?_, fun r' hr' => ?_⟩
  · rw [show inN rs (.str r.1) = rowOf rs r.1 from rfl, rowOf_of v hm] at z
    cases z
  · rw [show inN rs (.str r.1) = rowOf rs r.1 from rfl, rowOf_of v hm] at hr'
    cases hr'
    simp
    refine ⟨rs, _, v, okp _ _ 59, rfl, fun z => ?_, fun a b hab => ?_⟩
    · rw [gp] at z; cases z
    · rw [gp] at hab
      cases hab
      simp [tl, atI_n, e2]
      show _ ∧ lcGo _ _ _ _ _ _ _
      rw [show cutL [D.str r.1, .int r.2.1, .int r.2.2] (some 1) none = [.int r.2.1, .int r.2.2] from rfl]
      refine ⟨by omega, lc_map (fun d => match d with | .tup [_, .int w, _] => .int ((r.2.2 + j) * w / r.2.1) | _ => .non) (fun d hd R hR => ?_) ?_⟩
      · obtain ⟨s, hs, rfl⟩ := List.mem_map.mp hd
        simp [rD]
        exact ⟨.inr (bg s hs), ⟨by omega, by omega⟩, by simpa [rD] using hR⟩
      · have e : ((rs.map rD).map fun d => match d with | .tup [_, .int w, _] => D.int ((r.2.2 + j) * w / r.2.1) | _ => .non) = rs.map (fun s => D.int ((r.2.2 + j) * s.2.1 / r.2.1)) := by
          rw [List.map_map]
          rfl
        rw [e]
        refine alike_same (okDs_of (n := 39) fun d hd => ?_) (sm_tup (by simp) fun d hd => ?_) (by simpa [tl, nmT] using q)
        · simp at hd
          rcases hd with rfl | rfl
          · exact okp _ _ 38
          · refine okDs_of (n := 38) fun d hd => ?_
            obtain ⟨s, _, rfl⟩ := List.mem_map.mp hd
            rfl
        · simp at hd
          rcases hd with rfl | rfl
          · rfl
          · refine sm_tup (by rw [List.length_map]; omega) fun d hd => ?_
            obtain ⟨s, _, rfl⟩ := List.mem_map.mp hd
            rfl
theorem l_12 (v : vR rs) (h8' : dS x8 = true) (h9 : dS x9 = true) (h12 : dS x12 = true) (h13 : dS x13 = true) (h14 : dS x14 = true) (h15 : dS x15 = true) (q : ∀ x8 x9 x12 x13 x14 x15, dS x8 = true → dS x9 = true → dS x12 = true → dS x13 = true → dS x14 = true → dS x15 = true → Kt.nx [some (.dat (.adr sa)), some (.dat .row), some (.dat (tl rs)), some (.dat (tD K rs)), some (.dat (nmT rs)), some (.dat (.lst (envL rs))), x6, x7, x8, x9, some (.dat (priceOf rs)), some (.dat (.tup [.bl (fairB rs), pE rs])), x12, x13, x14, x15, x16, x17, x18, x19, x20]) : t_law_12 K sa [some (.dat (.adr sa)), some (.dat .row), some (.dat (tl rs)), some (.dat (tD K rs)), some (.dat (nmT rs)), some (.dat (.lst (envL rs))), x6, x7, x8, x9, some (.dat (priceOf rs)), some (.dat (.tup [.bl (fairB rs), pE rs])), x12, x13, x14, x15, x16, x17, x18, x19, x20] Kt := by
  have h8 := v.hi
  have h1 := v.lo
  have ln : (rs.map fun r => D.str r.1).length = rs.length := List.length_map _
  rw [t_law_12_eq]
  simp [-forD]
  refine forD_inv (fun i ρ => ∃ x8 x9 x12 x13 x14 x15, (dS x8 = true ∧ dS x9 = true ∧ dS x12 = true ∧ dS x13 = true ∧ dS x14 = true ∧ dS x15 = true) ∧ ρ = [some (.dat (.adr sa)), some (.dat .row), some (.dat (tl rs)), some (.dat (tD K rs)), some (.dat (nmT rs)), some (.dat (.lst (envL rs))), x6, x7, x8, x9, some (.dat (priceOf rs)), some (.dat (.tup [.bl (fairB rs), pE rs])), x12, x13, x14, x15, x16, x17, x18, x19, x20]) ⟨_, _, _, _, _, _, ⟨h8', h9, h12, h13, h14, h15⟩, rfl⟩ ?_ ?_
  · rintro i d ρ N hd ⟨x8, x9, x12, x13, x14, x15, ⟨d8, d9, d12, d13, d14, d15⟩, rfl⟩ hN
    obtain ⟨hi2, rfl⟩ := upto_at hd
    simp [lpB, -forD, nmT, tl, m__law_taken]
    refine ⟨⟨by omega, by omega⟩, fun k h0 hk => ?_⟩
    obtain ⟨r, hr⟩ : ∃ r, rs[k.toNat]? = some r := ⟨_, List.getElem?_eq_getElem (by omega)⟩
    have hm := List.mem_of_getElem? hr
    have w := v.row r hm
    have ke : k = ((k.toNat : Nat) : Int) := (Int.toNat_of_nonneg h0).symm
    have e1 : L2.atI (rs.map fun r => D.str r.1) k = some (.str r.1) := by rw [ke, atI_n, List.getElem?_map, hr]; rfl
    have e2 : L2.atI (rs.map rD) k = some (rD r) := by rw [ke, atI_n, List.getElem?_map, hr]; rfl
    obtain ⟨z, hz, hzm⟩ : ∃ z : Rw, L2.atI (rs.map fun r => D.str r.1) (-1) = some (.str z.1) ∧ z ∈ rs := by
      refine ⟨rs[rs.length - 1], ?_, List.getElem_mem _⟩
      unfold L2.atI L2.ixN
      rw [ln]
      simp
      rw [if_pos (by omega), show (-1 + (rs.length : Int)).toNat = rs.length - 1 by omega, Option.bind_some, List.getElem?_eq_getElem (by omega)]
      rfl
    simp [e1, e2, hz, rD]
    intro j j0 j1
    have b3 : big 3 := by unfold big; omega
    refine ⟨.inr b3, .inr b3, ⟨by simp, by simp⟩, fun d hd => ?_⟩
    have fin : ∀ d : D, okD 40 d = true → smD d = true → t12b K sa [some (.dat (.adr sa)), some (.dat .row), some (.dat (tl rs)), some (.dat (tD K rs)), some (.dat (nmT rs)), some (.dat (.lst (envL rs))), x6, x7, x8, some (.dat (.int k)), some (.dat (priceOf rs)), some (.dat (.tup [.bl (fairB rs), pE rs])), some (.dat (.int i)), some (.dat (.tup [.int (r.2.2 + j), .int r.2.1])), some (.dat d), x15, x16, x17, x18, x19, x20] { Kt with nx := fun ρ => t12c K sa ρ { Kt with nx := fun ρ => t12d K sa ρ { Kt with nx := fun ρ => t12e K sa ρ { Kt with nx := N, ct := N, bk := Kt.nx }, ct := N, bk := Kt.nx }, ct := N, bk := Kt.nx }, ct := N, bk := Kt.nx } := fun d o sm => by
      refine l_12b (sa := sa) o sm d15 fun e x15 d15 oe => ?_
      refine l_12c (sa := sa) v (okD_mono 41 60 _ (by decide) oe) ?_
      refine l_12d (sa := sa) v oe ?_
      rw [ke]
      refine l_12e (sa := sa) v hr ⟨j0, j1⟩ ?_
      exact hN _ ⟨_, _, _, _, _, _, ⟨rfl, rfl, rfl, rfl, rfl, d15⟩, rfl⟩
    have os : ∀ z ∈ rs, okD 39 (.str z.1) = true := fun z hz => by rw [ok_str 39 40]; exact v.ok z hz
    have pr : ∀ a ∈ rs, ∀ b ∈ rs, okD 40 (.tup [.str a.1, .str b.1]) = true := fun a ha b hb => okDs_of (n := 39) fun d hd => by
      simp at hd
      rcases hd with rfl | rfl
      · exact os a ha
      · exact os b hb
    simp at hd
    rcases hd with rfl | rfl | rfl | rfl | rfl
    · exact fin _ (pE_ok v).1 (pE_ok v).2
    · exact fin _ (okp _ _ 39) rfl
    · exact fin _ (pr _ hm _ hzm) rfl
    · exact fin _ (pr _ hzm _ hm) rfl
    · exact fin _ (okp _ _ 39) rfl
  · rintro ρ ⟨x8, x9, x12, x13, x14, x15, ⟨d8, d9, d12, d13, d14, d15⟩, rfl⟩
    exact q _ _ _ _ _ _ d8 d9 d12 d13 d14 d15
end
end K16
namespace K16
open L2 PySem PySem.Spec WL
/-! what is odd, strange, poor -/
def oddL : List D := [.non, .tup [.int 1], .tup [.int 1, .int 0], .tup [.int (-1), .int 1], .lst [.int 1, .int 1], .tup [.int 10000, .int 1], .tup [.bl true, .int 1], .str "1"]
def poorL (x : Str) : List D := [.tup [.str x, .int 0, .int 1], .tup [.str x, .int 100, .int 1], .tup [.str x, .int 1, .int 61], .tup [.str x, .int 1, .int (-1)], .tup [.str "A", .int 1, .int 1], .tup [.str x, .int 1], .lst [.str x, .int 1, .int 1], .non, .tup [.str x, .bl true, .int 1]]
theorem pick_q {K : PySem.W.Frag} {l : List D} {Q : D → Prop} {E : Xn → Prop} (h : 1 ≤ l.length ∧ l.length ≤ 1000) (q : ∀ d ∈ l, Q d) : m__law_pick K [.row, .lst l] Q E := ⟨h, q⟩
section
variable {K : PySem.W.Frag} {sa : Addr} {rs : List Rw} {Kt : Kt} {x3 x4 x5 x6 x7 x8 x9 x10 x11 x12 x13 x14 x15 x16 x17 x18 x19 x20 y1 y2 : Option Sl}
theorem l_13 (v : vR rs) (q : ∀ o x (a : Int), o ∈ oddL → nmB (.str x) = true → x ∉ rs.map (fun r => r.1) → 0 ≤ a → a ≤ rs.length → Kt.nx [x3, some (.dat .row), x4, x5, some (.dat (nmT rs)), x6, x7, x8, x9, x10, x11, x12, x13, x14, x15, y1, some (.dat o), some (.dat (.str x)), some (.dat (.int a)), x19, x20]) : t_law_13 K sa [x3, some (.dat .row), x4, x5, some (.dat (nmT rs)), x6, x7, x8, x9, x10, x11, x12, x13, x14, x15, y1, x16, x17, x18, x19, x20] Kt := by
  have h8 := v.hi
  have h1 := v.lo
  have ln : (rs.map fun r => D.str r.1).length = rs.length := List.length_map _
  have em : (rs.map fun r => D.str r.1) = (rs.map fun r => r.1).map D.str := by
    rw [List.map_map]
    rfl
  simp [t_law_13, nmT, m__law_taken, m__law_fresh]
  refine pick_q ⟨by simp, by simp⟩ fun o ho => ⟨rs.map fun r => r.1, em, ⟨by rw [List.length_map]; omega, by rw [← em]; exact v.okN⟩, fun s hs hn => ⟨by omega, fun k h0 hk => ?_⟩⟩
  exact q o s k ho hs hn h0 (by omega)
theorem l_14 (v : vR rs) {x : Str} (q : ∀ o, o ∈ poorL x → Kt.nx [x3, some (.dat .row), x4, x5, x18, x6, x7, x8, x9, x10, x11, x12, x13, x14, x15, y1, x16, some (.dat (.str x)), x17, some (.dat o), x20]) : t_law_14 K sa [x3, some (.dat .row), x4, x5, x18, x6, x7, x8, x9, x10, x11, x12, x13, x14, x15, y1, x16, some (.dat (.str x)), x17, x19, x20] Kt := by
  simp [t_law_14]
  exact pick_q ⟨by simp, by simp⟩ fun o ho => q o ho
end
end K16
namespace K16
open L2 PySem PySem.Spec WL
def tf1 (K : PySem.W.Frag) (sa : Addr) : EM :=
  (mTold (m__law_refusal K) (mCall 2 (m_most_for K) (mCons (mVar 3) (mCons (mVar 16) mNil))))
def tf2 (K : PySem.W.Frag) (sa : Addr) : EM :=
  (mTold (m__law_refusal K) (mCall 2 (m_share_at K) (mCons (mVar 3) (mCons (mVar 17) mNil))))
def tf3 (K : PySem.W.Frag) (sa : Addr) : EM :=
  (mTold (m__law_refusal K) (mMeth (He.ga K "Turns") ks_Turns 3 (m_Turns_with_share K) (mVar 3) (mCons (mVar 17) (mCons (mK (.int 1)) (mCons (mK (.int 1)) mNil)))))
def tf4 (K : PySem.W.Frag) (sa : Addr) : EM :=
  (mTold (m__law_refusal K) (mMeth (He.ga K "Turns") ks_Turns 2 (m_Turns_with_part K) (mVar 3) (mCons (mK (.str "rows")) (mCons (m2 addM (m2 addM (mSl (m2 ixM (mVar 2) (mK (.int 0))) moN (moS (mVar 18))) (mTup (mCons (mVar 19) mNil))) (mSl (m2 ixM (mVar 2) (mK (.int 0))) (moS (mVar 18)) moN)) mNil))))
def tf5 (K : PySem.W.Frag) (sa : Addr) : EM :=
  (mTold (m__law_refusal K) (mMeth (He.ga K "Turns") ks_Turns 2 (m_Turns_with_part K) (mVar 3) (mCons (mK (.str "turns")) (mCons (mK (.int 1)) mNil))))
def tf6 (K : PySem.W.Frag) (sa : Addr) : EM :=
  (mTold (m__law_refusal K) (mMake (He.ga K "Turns") ks_Turns 1 (m_Turns K) (mCons (m2 addM (mVar 2) (mTup (mCons (mK (.int 1)) mNil))) mNil)))
def tf7 (K : PySem.W.Frag) (sa : Addr) : EM :=
  (mTold (m__law_refusal K) (mMeth (He.ga K "Turns") ks_Turns 3 (m_Turns_with_share K) (mVar 3) (mCons (m2 ixM (mVar 4) (mK (.int 0))) (mCons (mK (.int 1)) (mCons (mK (.int 61)) mNil)))))
def tf8 (K : PySem.W.Frag) (sa : Addr) : EM :=
  (mTold (m__law_refusal K) (mMeth (He.ga K "Turns") ks_Turns 2 (m_Turns_with_part K) (mVar 3) (mCons (mK (.str "rows")) (mCons (mCall 2 (m__law_pick K) (mCons (mVar 1) (mCons (mNew (mLst (mCons (mTup mNil) (mCons (mNew (m1F lstM (m2 ixM (mVar 2) (mK (.int 0))))) (mCons (mK .non) mNil))))) mNil))) mNil))))
theorem t_law_15_eq (K : PySem.W.Frag) (sa : Addr) : t_law_15 K sa = (sSet (mNew (mLst (mCons (tf1 K sa) (mCons (tf2 K sa) (mCons (tf3 K sa) (mCons (tf4 K sa) (mCons (tf5 K sa) (mCons (tf6 K sa) (mCons (tf7 K sa) (mCons (tf8 K sa) mNil)))))))))) 20) := rfl
section
variable {K : PySem.W.Frag} {sa : Addr} {rs : List Rw} {ρ : DEnv} {Q : D → Prop} {E : Xn → Prop}
/-- what the frame holds at the eight tries -/
structure At15 (K : PySem.W.Frag) (rs : List Rw) (o : D) (x : Str) (a : Int) (p : D) (ρ : DEnv) : Prop where
  all : allDat ρ = true
  s1 : look ρ 1 = some (.dat .row)
  s2 : look ρ 2 = some (.dat (tl rs))
  s3 : look ρ 3 = some (.dat (tD K rs))
  s4 : look ρ 4 = some (.dat (nmT rs))
  s16 : look ρ 16 = some (.dat o)
  s17 : look ρ 17 = some (.dat (.str x))
  s18 : look ρ 18 = some (.dat (.int a))
  s19 : look ρ 19 = some (.dat p)
variable {o p : D} {x : Str} {a : Int}
theorem ref_part {pl pt : D} (q : Q (.tup [.str "BadPart", pt, pl])) : m__law_refusal K ⟨He.ga K "BadPart", ks_BadPart, [pl, pt]⟩ Q := .inl ⟨pl, pt, rfl, q⟩
theorem ref_num {v : D} (q : Q (.tup [.str "BadNumber", v])) : m__law_refusal K ⟨He.ga K "BadNumber", ks_BadNumber, [v]⟩ Q := .inr (.inl ⟨v, rfl, q⟩)
theorem ref_unk {v : D} (q : Q (.tup [.str "Unknown", v])) : m__law_refusal K ⟨He.ga K "Unknown", ks_Unknown, [v]⟩ Q := .inr (.inr ⟨v, rfl, q⟩)
theorem odd_no : ∀ o ∈ oddL, goodP o = none := fun o h => by
  simp only [oddL, List.mem_cons, List.not_mem_nil, or_false] at h
  rcases h with rfl | rfl | rfl | rfl | rfl | rfl | rfl | rfl <;> rfl
theorem odd_ok : ∀ o ∈ oddL, Ok o ∧ okD 3 o = true ∧ inD o = true ∧ wtD o ≤ 100 := fun o h => by
  simp only [oddL, List.mem_cons, List.not_mem_nil, or_false] at h
  rcases h with rfl | rfl | rfl | rfl | rfl | rfl | rfl | rfl <;> refine ⟨?_, ?_, ?_, ?_⟩ <;> first | rfl | decide +kernel | exact (show okD 60 _ = true by decide +kernel)
theorem tf1_ok (v : vR rs) (h : At15 K rs o x a p ρ) (ho : o ∈ oddL) (q : Q (.tup [.str "BadNumber", o])) : tf1 K sa ρ Q E := by
  refine ⟨h.all, ?_⟩
  simp [h.s3, h.s16]
  refine ⟨rs, o, v, (odd_ok o ho).1, rfl, fun _ => ref_num q, fun a b hab => ?_⟩
  rw [odd_no o ho] at hab
  cases hab
theorem new_none (hx : x ∉ rs.map fun r => r.1) : rowOf rs x = none := by
  unfold rowOf
  rw [List.find?_eq_none]
  intro r hr hz
  exact hx (List.mem_map.mpr ⟨r, hr, by simpa using hz⟩)
theorem tf2_ok (v : vR rs) (h : At15 K rs o x a p ρ) (hx : x ∉ rs.map fun r => r.1) (hn : nmB (.str x) = true) (q : Q (.tup [.str "Unknown", .str x])) : tf2 K sa ρ Q E := by
  refine ⟨h.all, ?_⟩
  simp [h.s3, h.s17]
  refine ⟨rs, .str x, v, nmB_ok 60 hn, rfl, fun _ => ref_unk q, fun r hr => ?_⟩
  rw [show inN rs (.str x) = rowOf rs x from rfl, new_none hx] at hr
  cases hr
theorem ws_eq {name w hh : D} : m_Turns_with_share K [tD K rs, name, w, hh] Q E = ((He.ga K "Turns" = He.ga K "Turns" ∧ ks_Turns = ks_Turns ∧ [D.tup (rs.map rD)].length = 1) ∧ (okD 50 name = true ∧ okD 50 w = true ∧ okD 50 hh = true ∧ Ok (.tup ((rs.map rD).map row0)) ∧ Ok (.tup (rs.map rD)) ∧ (rs.map rD).length ≤ 900) ∧ (inB name ((rs.map rD).map row0) = false → E ⟨He.ga K "Unknown", ks_Unknown, [name]⟩) ∧
    (inB name ((rs.map rD).map row0) = true → optQ (idxB name ((rs.map rD).map row0)) fun j => m_Turns K [.tup [.tup ((rs.map rD).take j ++ .tup [name, w, hh] :: (rs.map rD).drop (j + 1))]] (fun fs => Q (tI K fs)) E)) := rfl
theorem tf3_ok (v : vR rs) (h : At15 K rs o x a p ρ) (hx : x ∉ rs.map fun r => r.1) (hn : nmB (.str x) = true) (q : Q (.tup [.str "Unknown", .str x])) : tf3 K sa ρ Q E := by
  have h8 := v.hi
  refine ⟨h.all, ?_⟩
  simp [h.s3, h.s17]
  refine show (_ ∧ _) ∧ m_Turns_with_share K [tD K rs, _, _, _] _ _ from ⟨⟨rfl, rfl⟩, ?_⟩
  rw [ws_eq, names_eq, in_names, new_none hx]
  exact ⟨⟨rfl, rfl, rfl⟩, ⟨nmB_ok 50 hn, rfl, rfl, v.okN, okD_mono 2 60 _ (by decide) (ok_rowsN v 0), by rw [List.length_map]; omega⟩, fun _ => ref_unk q, fun z => by cases z⟩
theorem wp_eq {word value : D} : m_Turns_with_part K [tD K rs, word, value] Q E = ((He.ga K "Turns" = He.ga K "Turns" ∧ ks_Turns = ks_Turns ∧ [D.tup (rs.map rD)].length = 1) ∧ (Ok word ∧ Ok value) ∧ (eqD (.str "rows") word = false → E ⟨He.ga K "BadPart", ks_BadPart, [.non, .str "turns"]⟩) ∧
    (eqD (.str "rows") word = true → m_Turns K [.tup [value]] (fun fs => Q (tI K fs)) E)) := rfl
theorem mk_bad {v : D} {Q : List D → Prop} (o : okD 59 v = true) {pl pt : D} (hb : badT (.tup [v]) = some (pl, pt)) (q : E ⟨He.ga K "BadPart", ks_BadPart, [pl, pt]⟩) : m_Turns K [.tup [v]] Q E :=
  ⟨okDs_of (n := 59) fun d hd => by rw [List.mem_singleton.mp hd]; exact o, fun p hp => by rw [hb] at hp; cases hp; exact q, fun z => by rw [hb] at z; cases z⟩
theorem tf5_ok (v : vR rs) (h : At15 K rs o x a p ρ) (q : Q (.tup [.str "BadPart", .str "turns", .non])) : tf5 K sa ρ Q E := by
  refine ⟨h.all, ?_⟩
  simp [h.s3]
  refine show (_ ∧ _) ∧ m_Turns_with_part K [tD K rs, _, _] _ _ from ⟨⟨rfl, rfl⟩, ?_⟩
  rw [wp_eq]
  exact ⟨⟨rfl, rfl, rfl⟩, ⟨show okD 60 _ = true by decide +kernel, rfl⟩, fun _ => ref_part q, fun z => absurd z (by decide +kernel)⟩
theorem tf6_ok (v : vR rs) (h : At15 K rs o x a p ρ) (q : Q (.tup [.str "BadPart", .str "turns", .non])) : tf6 K sa ρ Q E := by
  refine ⟨h.all, ?_⟩
  simp [h.s2, tl]
  refine ⟨okDs_of (n := 59) fun d hd => ?_, fun p hp => ?_, fun z => ?_⟩
  · simp at hd
    rcases hd with rfl | rfl
    · exact ok_rowsN v 57
    · rfl
  · cases hp
    exact ref_part q
  · cases z
theorem tf7_ok (v : vR rs) (h : At15 K rs o x a p ρ) (q : Q (.tup [.str "BadPart", .str "rows", .int 0])) : tf7 K sa ρ Q E := by
  have h8 := v.hi
  have h1 := v.lo
  obtain ⟨r, t, rfl⟩ : ∃ r t, rs = r :: t := by
    cases rs with
    | nil => simp at h1
    | cons r t => exact ⟨r, t, rfl⟩
  refine ⟨h.all, ?_⟩
  simp [h.s3, h.s4, nmT]
  refine show (_ ∧ _) ∧ m_Turns_with_share K [tD K (r :: t), _, _, _] _ _ from ⟨⟨rfl, rfl⟩, ?_⟩
  have ok := v.ok r (List.mem_cons_self ..)
  rw [ws_eq, names_eq, in_names, rowOf_of v (List.mem_cons_self ..)]
  refine ⟨⟨rfl, rfl, rfl⟩, ⟨by rw [ok_str 50 40]; exact ok, rfl, rfl, v.okN, okD_mono 2 60 _ (by decide) (ok_rowsN v 0), by rw [List.length_map]; omega⟩, fun z => (by cases z), fun _ => ?_⟩
  have ie : idxB (.str r.1) ((r :: t).map fun r => D.str r.1) = some 0 := by simp [idxB, eqD]
  rw [ie, optQ_s]
  refine mk_bad (pl := .int 0) (pt := .str "rows") (okDs_of (n := 58) fun d hd => ?_) ?_ (ref_part q)
  · simp at hd
    rcases hd with rfl | ⟨s1, s2, s3, hs, rfl⟩
    · refine okDs_of (n := 57) fun d hd => ?_
      simp at hd
      rcases hd with rfl | rfl | rfl
      · rw [ok_str 57 40]; exact ok
      · rfl
      · rfl
    · exact ok_rD v 57 (List.mem_cons_of_mem _ hs)
  · have e : fwD shareB (.tup (((r :: t).map rD).take 0 ++ .tup [.str r.1, .int 1, .int 61] :: ((r :: t).map rD).drop (0 + 1))) 1 8 = .int 0 := by
      unfold fwD
      simp only [List.take_zero, List.nil_append, List.map_cons, List.drop_succ_cons, List.drop_zero, List.length_cons, List.length_map]
      rw [List.length_cons] at h8
      rw [if_pos ⟨by omega, by omega⟩]
      exact fwGo_bad _ 0 0 _ (fun j d hj => absurd hj (by omega)) rfl (by simp [shareB, wiB])
    unfold badT
    simp only
    rw [e]
    rfl
theorem tf8_ok (v : vR rs) (h : At15 K rs o x a p ρ) (q : Q (.tup [.str "BadPart", .str "rows", .non])) : tf8 K sa ρ Q E := by
  refine ⟨h.all, ?_⟩
  simp [h.s3, h.s2, h.s1, tl]
  refine show (_ ∧ _) ∧ m__law_pick K [.row, .lst [.tup [], .lst (rs.map rD), .non]] (fun x => m_Turns_with_part K [tD K rs, _, x] _ _) _ from ⟨⟨rfl, rfl⟩, pick_q ⟨by simp, by simp⟩ fun d hd => ?_⟩
  rw [wp_eq]
  have hd' : okD 59 d = true ∧ badT (.tup [d]) = some (.non, .str "rows") := by
    simp only [List.mem_cons, List.not_mem_nil, or_false] at hd
    rcases hd with rfl | rfl | rfl
    · exact ⟨rfl, rfl⟩
    · exact ⟨okDs_of (n := 58) fun d hd => by
        obtain ⟨r, hr, rfl⟩ := List.mem_map.mp hd
        exact ok_rD v 57 hr, rfl⟩
    · exact ⟨rfl, rfl⟩
  exact ⟨⟨rfl, rfl, rfl⟩, ⟨show okD 60 _ = true by decide +kernel, okD_mono 59 60 _ (by decide) hd'.1⟩, fun z => absurd z (by decide +kernel), fun _ => mk_bad hd'.1 hd'.2 (ref_part q)⟩
theorem poor_no {ahead : List D} (x : Str) : ∀ p ∈ poorL x, shareB p ahead = false := fun p h => by
  simp only [poorL, List.mem_cons, List.not_mem_nil, or_false] at h
  have na : nmB (.str "A") = false := by decide +kernel
  rcases h with rfl | rfl | rfl | rfl | rfl | rfl | rfl | rfl | rfl <;> first | rfl | simp [shareB, wiB] | simp [shareB, na]
theorem poor_ok {x : Str} (hn : nmB (.str x) = true) : ∀ p ∈ poorL x, okD 40 p = true := fun p h => by
  simp only [poorL, List.mem_cons, List.not_mem_nil, or_false] at h
  have xo : okD 39 (.str x) = true := nmB_ok 39 hn
  rcases h with rfl | rfl | rfl | rfl | rfl | rfl | rfl | rfl | rfl <;> first | (refine okDs_of (n := 39) fun d hd => ?_; simp at hd; rcases hd with rfl | rfl | rfl <;> first | exact xo | rfl | decide +kernel) | (refine okDs_of (n := 39) fun d hd => ?_; simp at hd; rcases hd with rfl | rfl <;> first | exact xo | rfl) | rfl
theorem tf4_ok (v : vR rs) (h : At15 K rs o x a p ρ) (h5 : rs.length ≤ 5) (hn : nmB (.str x) = true) (ha : 0 ≤ a ∧ a ≤ rs.length) (hp : p ∈ poorL x) (q : Q (.tup [.str "BadPart", .str "rows", .int a])) : tf4 K sa ρ Q E := by
  refine ⟨h.all, ?_⟩
  have ae : a = ((a.toNat : Nat) : Int) := (Int.toNat_of_nonneg ha.1).symm
  simp [h.s3, h.s2, h.s18, h.s19, tl]
  refine show (_ ∧ _) ∧ _ ∧ _ ∧ m_Turns_with_part K [tD K rs, _, _] _ _ from ⟨⟨rfl, rfl⟩, ?_⟩
  rw [cutL_pre' _ ha.1, cutL_suf' _ ha.1]
  refine ⟨by rw [List.length_take, List.length_map]; omega, by rw [List.length_take, List.length_drop, List.length_map]; omega, ?_⟩
  rw [wp_eq]
  have o59 : okD 59 (.tup ((rs.map rD).take a.toNat ++ p :: (rs.map rD).drop a.toNat)) = true := okDs_of (n := 58) fun d hd => by
    rcases List.mem_append.mp hd with h | h
    · obtain ⟨r, hr, rfl⟩ := List.mem_map.mp (List.mem_of_mem_take h)
      exact ok_rD v 57 hr
    · rcases List.mem_cons.mp h with rfl | h
      · exact okD_mono 40 58 _ (by decide) (poor_ok hn _ hp)
      · obtain ⟨r, hr, rfl⟩ := List.mem_map.mp (List.mem_of_mem_drop h)
        exact ok_rD v 57 hr
  have lt : ((rs.map rD).take a.toNat).length = a.toNat := by rw [List.length_take, List.length_map]; omega
  have hb : badT (.tup [.tup ((rs.map rD).take a.toNat ++ p :: (rs.map rD).drop a.toNat)]) = some (.int a, .str "rows") := by
    have e : fwD shareB (.tup ((rs.map rD).take a.toNat ++ p :: (rs.map rD).drop a.toNat)) 1 8 = .int a := by
      unfold fwD
      simp only [List.length_append, List.length_cons, lt, List.length_drop, List.length_map]
      rw [if_pos ⟨by omega, by omega⟩]
      have := fwGo_bad (P := shareB) (all := (rs.map rD).take a.toNat ++ p :: (rs.map rD).drop a.toNat) ((rs.map rD).take a.toNat ++ p :: (rs.map rD).drop a.toNat) 0 a.toNat p (fun j d hj hd => ?_) ?_ (poor_no x p hp)
      · rw [this, Nat.zero_add, ← ae]
      · rw [Nat.zero_add]
        rw [List.getElem?_append_left (by omega), List.getElem?_take_of_lt hj] at hd
        have := rows_pre v j d hd
        rw [List.take_append_of_le_length (by omega), List.take_take, Nat.min_eq_left (by omega)]
        exact this
      · rw [List.getElem?_append_right (by omega), lt, Nat.sub_self]
        rfl
    unfold badT
    simp only
    rw [e]
    have ne : eqD (.int a) (.int (-1)) = false := by
      rw [eqD]
      exact beq_eq_false_iff_ne.mpr (by omega)
    unfold plD
    show some (if eqD (.int a) (.int (-1)) = true then D.non else .int a, D.str "rows") = _
    rw [ne]
    rfl
  refine ⟨⟨rfl, rfl, rfl⟩, ⟨show okD 60 _ = true by decide +kernel, okD_mono 59 60 _ (by decide) o59⟩, fun z => absurd z (by decide +kernel), fun _ => mk_bad o59 hb (ref_part q)⟩
end
end K16
namespace K16
open L2 PySem PySem.Spec WL
def foundL (o : D) (x : Str) (a : Int) : List D := [.tup [.str "BadNumber", o], .tup [.str "Unknown", .str x], .tup [.str "Unknown", .str x], .tup [.str "BadPart", .str "rows", .int a], .tup [.str "BadPart", .str "turns", .non], .tup [.str "BadPart", .str "turns", .non], .tup [.str "BadPart", .str "rows", .int 0], .tup [.str "BadPart", .str "rows", .non]]
theorem wtDs_le {B : Nat} : ∀ {ds : List D}, (∀ d ∈ ds, wtD d ≤ B) → wtDs ds ≤ ds.length * (B + 1)
  | [], _ => by rw [wtDs]; exact Nat.zero_le _
  | d :: r, h => by
    have h1 := h d (List.mem_cons_self ..)
    have h2 := wtDs_le fun e he => h e (List.mem_cons_of_mem _ he)
    rw [wtDs, List.length_cons, Nat.add_mul]
    omega
theorem inDs_of : ∀ {ds : List D}, (∀ d ∈ ds, inD d = true) → inDs ds = true
  | [], _ => rfl
  | d :: r, h => by
    rw [inDs, h d (List.mem_cons_self ..), inDs_of fun e he => h e (List.mem_cons_of_mem _ he)]
    rfl
theorem repr_l {n B : Nat} {ds : List D} (hn : n ≤ 59) (hB : ds.length * (B + 1) ≤ 1000000) (h : ∀ d ∈ ds, okD n d = true ∧ inD d = true ∧ wtD d ≤ B) : ReprOk (.lst ds) :=
  ⟨okD_mono (n + 1) 60 _ (by omega) (okDs_of (n := n) fun d hd => (h d hd).1), inDs_of fun d hd => (h d hd).2.1, Nat.le_trans (wtDs_le fun d hd => (h d hd).2.2) hB⟩
theorem rep_t {n B : Nat} {ds : List D} (h : ∀ d ∈ ds, okD n d = true ∧ inD d = true ∧ wtD d ≤ B) : okD (n + 1) (.tup ds) = true ∧ inD (.tup ds) = true ∧ wtD (.tup ds) ≤ ds.length * (B + 1) :=
  ⟨okDs_of (n := n) fun d hd => (h d hd).1, inDs_of fun d hd => (h d hd).2.1, wtDs_le fun d hd => (h d hd).2.2⟩
theorem nm_len {x : Str} (hn : nmB (.str x) = true) : x.length ≤ 8 := by
  simp only [nmB, Bool.and_eq_true, decide_eq_true_eq] at hn
  omega
theorem rep_i {a : Int} (ha : 0 ≤ a ∧ a ≤ 100) : okD 9 (.int a) = true ∧ inD (.int a) = true ∧ wtD (.int a) ≤ 100 := by
  refine ⟨rfl, decide_eq_true (by omega), ?_⟩
  rw [wtD]
  split
  · exact Nat.zero_le _
  · have : a.natAbs.log2 < 10 := by
      refine (Nat.log2_lt (by rename_i h; simpa using h)).mpr (by omega)
    omega
theorem found_rep {o : D} {x : Str} {a : Int} (ho : o ∈ oddL) (hn : nmB (.str x) = true) (ha : 0 ≤ a ∧ a ≤ 100) : ReprOk (.lst (foundL o x a)) := by
  have so : okD 9 o = true ∧ inD o = true ∧ wtD o ≤ 100 := ⟨okD_mono 3 9 _ (by decide) (odd_ok o ho).2.1, (odd_ok o ho).2.2⟩
  have sx : okD 9 (.str x) = true ∧ inD (.str x) = true ∧ wtD (.str x) ≤ 100 := ⟨nmB_ok 9 hn, rfl, by have := nm_len hn; show x.length ≤ 100; omega⟩
  have s1 : okD 9 (.str "BadNumber") = true ∧ inD (.str "BadNumber") = true ∧ wtD (.str "BadNumber") ≤ 100 := by decide +kernel
  have s2 : okD 9 (.str "Unknown") = true ∧ inD (.str "Unknown") = true ∧ wtD (.str "Unknown") ≤ 100 := by decide +kernel
  have s3 : okD 9 (.str "BadPart") = true ∧ inD (.str "BadPart") = true ∧ wtD (.str "BadPart") ≤ 100 := by decide +kernel
  have s4 : okD 9 (.str "rows") = true ∧ inD (.str "rows") = true ∧ wtD (.str "rows") ≤ 100 := by decide +kernel
  have s5 : okD 9 (.str "turns") = true ∧ inD (.str "turns") = true ∧ wtD (.str "turns") ≤ 100 := by decide +kernel
  have s6 : okD 9 .non = true ∧ inD .non = true ∧ wtD .non ≤ 100 := ⟨rfl, rfl, Nat.zero_le _⟩
  have s7 : okD 9 (.int 0) = true ∧ inD (.int 0) = true ∧ wtD (.int 0) ≤ 100 := ⟨rfl, rfl, Nat.zero_le _⟩
  have t2 : ∀ {a b : D}, (okD 9 a = true ∧ inD a = true ∧ wtD a ≤ 100) → (okD 9 b = true ∧ inD b = true ∧ wtD b ≤ 100) → okD 10 (.tup [a, b]) = true ∧ inD (.tup [a, b]) = true ∧ wtD (.tup [a, b]) ≤ 1000 := fun ha hb => by
    have := rep_t (ds := [_, _]) (n := 9) (B := 100) fun d hd => by
      simp only [List.mem_cons, List.not_mem_nil, or_false] at hd
      rcases hd with rfl | rfl
      · exact ha
      · exact hb
    exact ⟨this.1, this.2.1, Nat.le_trans this.2.2 (by simp)⟩
  have t3 : ∀ {a b c : D}, (okD 9 a = true ∧ inD a = true ∧ wtD a ≤ 100) → (okD 9 b = true ∧ inD b = true ∧ wtD b ≤ 100) → (okD 9 c = true ∧ inD c = true ∧ wtD c ≤ 100) → okD 10 (.tup [a, b, c]) = true ∧ inD (.tup [a, b, c]) = true ∧ wtD (.tup [a, b, c]) ≤ 1000 := fun ha hb hc => by
    have := rep_t (ds := [_, _, _]) (n := 9) (B := 100) fun d hd => by
      simp only [List.mem_cons, List.not_mem_nil, or_false] at hd
      rcases hd with rfl | rfl | rfl
      · exact ha
      · exact hb
      · exact hc
    exact ⟨this.1, this.2.1, Nat.le_trans this.2.2 (by simp)⟩
  refine repr_l (n := 10) (B := 1000) (by omega) (by simp [foundL]) fun d hd => ?_
  simp only [foundL, List.mem_cons, List.not_mem_nil, or_false] at hd
  rcases hd with rfl | rfl | rfl | rfl | rfl | rfl | rfl | rfl
  · exact t2 s1 so
  · exact t2 s2 sx
  · exact t2 s2 sx
  · exact t3 s3 s4 (rep_i ha)
  · exact t3 s3 s5 s6
  · exact t3 s3 s5 s6
  · exact t3 s3 s4 s7
  · exact t3 s3 s4 s6
theorem odd_price {rs : List Rw} : ∀ o ∈ oddL, priceB rs o = false ∧ envyB rs o = false ∧ paperB rs o = false := fun o h => by
  have hg := odd_no o h
  refine ⟨by unfold priceB; rw [hg], ?_⟩
  simp only [oddL, List.mem_cons, List.not_mem_nil, or_false] at h
  rcases h with rfl | rfl | rfl | rfl | rfl | rfl | rfl | rfl <;> exact ⟨rfl, rfl⟩
section
variable {K : PySem.W.Frag} {sa : Addr} {rs : List Rw} {Kt : Kt} {x3 x4 x5 x6 x7 x8 x9 x10 x11 x12 x13 x14 x15 x16 x17 x18 x19 x20 y1 y2 : Option Sl} {o p : D} {x : Str} {a : Int}
theorem l_15 (v : vR rs) (h5 : rs.length ≤ 5) (ho : o ∈ oddL) (hx : x ∉ rs.map fun r => r.1) (hn : nmB (.str x) = true) (ha : 0 ≤ a ∧ a ≤ rs.length) (hp : p ∈ poorL x) (hd : allDat [x3, x4, x5, x6, x7, x8, x9, x10, x11, x12, x13, x14, x20] = true)
    (q : Kt.nx [x3, some (.dat .row), some (.dat (tl rs)), some (.dat (tD K rs)), some (.dat (nmT rs)), x4, x5, x6, x7, x8, x9, x10, x11, x12, x13, x14, some (.dat o), some (.dat (.str x)), some (.dat (.int a)), some (.dat p), some (.dat (.lst (foundL o x a)))]) : t_law_15 K sa [x3, some (.dat .row), some (.dat (tl rs)), some (.dat (tD K rs)), some (.dat (nmT rs)), x4, x5, x6, x7, x8, x9, x10, x11, x12, x13, x14, some (.dat o), some (.dat (.str x)), some (.dat (.int a)), some (.dat p), x20] Kt := by
  simp only [allDat_c, Bool.and_eq_true] at hd
  obtain ⟨d3, d4, d5, d6, d7, d8, d9, d10, d11, d12, d13, d14, d20, -⟩ := hd
  have h : At15 K rs o x a p [x3, some (.dat .row), some (.dat (tl rs)), some (.dat (tD K rs)), some (.dat (nmT rs)), x4, x5, x6, x7, x8, x9, x10, x11, x12, x13, x14, some (.dat o), some (.dat (.str x)), some (.dat (.int a)), some (.dat p), x20] := ⟨by simp only [allDat_c, d3, d4, d5, d6, d7, d8, d9, d10, d11, d12, d13, d14, d20]; rfl, rfl, rfl, rfl, rfl, rfl, rfl, rfl, rfl⟩
  rw [t_law_15_eq]
  simp
  refine tf1_ok v h ho (tf2_ok v h hx hn (tf3_ok v h hx hn (tf4_ok v h h5 hn ha hp (tf5_ok v h (tf6_ok v h (tf7_ok v h (tf8_ok v h ?_)))))))
  exact q
theorem l_16 (q : Kt.nx [x3, x4, x5, x6, x7, x9, x10, x11, some (.dat (.lst ((foundL o x a).take 4))), x12, x13, x14, x15, x16, x17, x18, some (.dat o), some (.dat (.str x)), some (.dat (.int a)), x19, x20]) : t_law_16 K sa [x3, x4, x5, x6, x7, x9, x10, x11, x8, x12, x13, x14, x15, x16, x17, x18, some (.dat o), some (.dat (.str x)), some (.dat (.int a)), x19, x20] Kt := by
  simp [t_law_16]
  exact q
theorem l_17 (q : Kt.nx [x3, x4, x5, x6, x7, x9, x10, x11, some (.dat (.lst (foundL o x a))), x12, x13, x14, x15, x16, x17, x18, y1, y2, x8, x19, x20]) : t_law_17 K sa [x3, x4, x5, x6, x7, x9, x10, x11, some (.dat (.lst ((foundL o x a).take 4))), x12, x13, x14, x15, x16, x17, x18, y1, y2, x8, x19, x20] Kt := by
  simp [t_law_17, foundL]
  exact q
theorem l_18 (v : vR rs) (ho : o ∈ oddL) (hn : nmB (.str x) = true) (ha : 0 ≤ a ∧ a ≤ 100) (q : Kt.nx [x3, x4, x5, some (.dat (tD K rs)), x7, x9, x10, x11, some (.dat (.lst (foundL o x a))), x12, x13, x14, x15, x16, x17, x18, some (.dat o), y2, x8, x19, some (.dat (.lst (foundL o x a)))]) : t_law_18 K sa [x3, x4, x5, some (.dat (tD K rs)), x7, x9, x10, x11, some (.dat (.lst (foundL o x a))), x12, x13, x14, x15, x16, x17, x18, some (.dat o), y2, x8, x19, some (.dat (.lst (foundL o x a)))] Kt := by
  simp [t_law_18]
  obtain ⟨b1, b2, b3⟩ := odd_price (rs := rs) o ho
  have oo := (odd_ok o ho).1
  refine ⟨⟨rfl, found_rep ho hn ha, rfl⟩, ?_⟩
  simp
  refine ⟨rs, o, v, oo, rfl, ?_⟩
  rw [b3]
  simp
  refine ⟨rs, o, v, oo, rfl, ?_⟩
  rw [b1]
  simp
  refine ⟨rs, o, v, oo, rfl, ?_⟩
  rw [b2]
  simpa using q
theorem l_19 (v : vR rs) (q : Kt.rt (.bl true)) : t_law_19 K sa [x3, x4, some (.dat (tl rs)), some (.dat (tD K rs)), some (.dat (nmT rs)), x9, x10, x11, x8, x12, x13, x14, x15, x16, x17, x18, y1, y2, x5, x19, x20] Kt := by
  have h1 := v.lo
  have h8 := v.hi
  obtain ⟨r, t, rfl⟩ : ∃ r t, rs = r :: t := by
    cases rs with
    | nil => simp at h1
    | cons r t => exact ⟨r, t, rfl⟩
  have ok := v.ok r (List.mem_cons_self ..)
  have v' : vR ((r.1, 9, 8) :: t) := by
    refine ⟨h1, h8, fun q hq => ?_, v.nd, fun q hq => ?_⟩
    · rcases List.mem_cons.mp hq with rfl | h
      · exact ⟨(v.row r (List.mem_cons_self ..)).1, by simp, by simp⟩
      · exact v.row q (List.mem_cons_of_mem _ h)
    · rcases List.mem_cons.mp hq with rfl | h
      · exact ok
      · exact v.ok q (List.mem_cons_of_mem _ h)
  have nme : ∀ k : Nat, nmT (r :: t) = .tup (.str r.1 :: t.map fun r => D.str r.1) := fun _ => rfl
  have tle : tl (r :: t) = .tup [.tup (rD r :: t.map rD)] := rfl
  have ie : idxB (.str r.1) ((r :: t).map fun r => D.str r.1) = some 0 := by simp [idxB, eqD]
  simp [t_law_19, nme 0, tle]
  refine show (_ ∧ _) ∧ m_Turns_with_share K [tD K (r :: t), _, _, _] _ _ from ⟨⟨rfl, rfl⟩, ?_⟩
  rw [ws_eq, names_eq, in_names, rowOf_of v (List.mem_cons_self ..)]
  refine ⟨⟨rfl, rfl, rfl⟩, ⟨by rw [ok_str 50 40]; exact ok, rfl, rfl, v.okN, okD_mono 2 60 _ (by decide) (ok_rowsN v 0), by rw [List.length_map]; omega⟩, fun z => (by cases z), fun _ => ?_⟩
  rw [ie, optQ_s]
  refine mk_ok v' ?_
  rw [List.length_cons] at h8
  refine ⟨⟨by decide, by rw [List.length_cons, List.length_map]; omega⟩, ?_⟩
  refine mk_ok v' ?_
  have o : Ok (.tup [.tup (((r.1, 9, 8) :: t).map rD)]) := okD_mono 3 60 _ (by decide) (ok_tl v' 0)
  refine ⟨rfl, ⟨rfl, rfl, o⟩, ⟨rfl, rfl, o⟩, ?_⟩
  rw [eqD_refl 60 _ o]
  exact q
end
theorem s_law (K : PySem.W.Frag) (sa : Addr) : t_law K sa (startD N_law [.adr sa]) (kt (fun d => d = .bl true) fun _ => False) := by
  unfold t_law
  simp only [sSeq]
  show t_law_0 K sa [some (.dat (.adr sa)), none, none, none, none, none, none, none, none, none, none, none, none, none, none, none, none, none, none, none, none] _
  refine l_0 (K := K) (sa := sa) ?_
  refine l_1 (K := K) (sa := sa) fun rs v h5 => ?_
  refine l_2 (K := K) (sa := sa) v ?_
  refine l_3 (K := K) (sa := sa) v ?_
  refine l_4 (K := K) (sa := sa) v ?_
  refine l_5 (K := K) (sa := sa) v ?_
  refine l_6 (K := K) (sa := sa) v ?_
  refine l_7 (K := K) (sa := sa) v ?_
  refine l_8 (K := K) (sa := sa) v ?_
  refine l_9 (K := K) (sa := sa) (x5 := none) v ?_
  refine l_10 (K := K) (sa := sa) v ?_
  refine l_11 (K := K) (sa := sa) v ?_
  refine l_12 (K := K) (sa := sa) v rfl rfl rfl rfl rfl rfl fun x8 x9 x12 x13 x14 x15 d8 d9 d12 d13 d14 d15 => ?_
  refine l_13 (K := K) (sa := sa) v fun o x a ho hn hx h0 ha => ?_
  refine l_14 (K := K) (sa := sa) v fun p hp => ?_
  refine l_15 (K := K) (sa := sa) v h5 ho hx hn ⟨h0, ha⟩ hp (by simp only [allDat_c, d8, d9, d12, d13, d14, d15]; rfl) ?_
  refine l_16 (K := K) (sa := sa) ?_
  refine l_17 (K := K) (sa := sa) ?_
  refine l_18 (K := K) (sa := sa) v ho hn ⟨h0, by omega⟩ ?_
  exact l_19 (K := K) (sa := sa) v rfl
end K16
namespace K16
open L2 PySem PySem.Spec WL
def N_unfair_hours : List Str := ["turns", "rows", "row", "hours"]
def P_unfair_hours : List Str := ["turns"]
def t_unfair_hours (K : PySem.W.Frag) : SM :=
  (sSeq (sSet (mNew (m2F zpL (mAttr (He.ga K "Turns") ks_Turns 1 (mVar 0)) (mCall 1 (m_fair_hours K) (mCons (mVar 0) mNil)))) 1)
  (sRet (m1 sumM (mNew (mLc (miL (mVar 1)) [2, 3] (.tp [(.nm 2), (.nm 3)]) mYes (m2 max2M (mK (.int 0)) (m2 subM (m2 ixM (mVar 2) (mK (.int 2))) (mVar 3))))))))
theorem s_unfair_hours (K : PySem.W.Frag) : ∀ ds Q E, ds.length = 1 → m_unfair_hours K ds Q E → t_unfair_hours K (startD N_unfair_hours ds) (kt Q E) := by
  rintro ds Q E hl ⟨rs, v, rfl, q⟩
  have h8 := v.hi
  have ld : (inTurn (wts rs) (hrsL rs).sum.toNat).length = rs.length := (inTurn_length _ _).trans (List.length_map _)
  unfold unfairL at q
  simp [t_unfair_hours, N_unfair_hours]
  refine ⟨rs, v, rfl, ?_⟩
  generalize inTurn (wts rs) (hrsL rs).sum.toNat = du at ld q ⊢
  simp
  have pe : paird (rs.map rD) (du.map D.int) = (rs.zip du).map fun p => D.tup [rD p.1, .int p.2] := by
    rw [paird, List.zip_map, List.map_map]
    rfl
  rw [pe]
  refine ⟨⟨by omega, by omega⟩, by rw [List.length_map, List.length_zip]; omega, lc_map (fun d => match d with | .tup [.tup [_, _, .int h], .int x] => .int (max 0 (h - x)) | _ => .non) (fun d hd R hR => ?_) ?_⟩
  · obtain ⟨p, hp, rfl⟩ := List.mem_map.mp hd
    simp [rD]
    simp only [rD] at hR
    rw [show (if p.2 < p.1.2.2 then p.1.2.2 - p.2 else 0) = max 0 (p.1.2.2 - p.2) by split <;> omega]
    exact hR
  · have e : (((rs.zip du).map fun p => D.tup [rD p.1, .int p.2]).map fun d => match d with | .tup [.tup [_, _, .int h], .int x] => D.int (max 0 (h - x)) | _ => .non) = (rs.zip du).map fun p => D.int (max 0 (p.1.2.2 - p.2)) := by
      rw [List.map_map]
      rfl
    rw [e, intsOf_f, optQ_s]
    have e2 : ((rs.zip du).map fun p => max 0 (p.1.2.2 - p.2)) = (List.range rs.length).map fun k => max 0 ((hrsL rs).getD k 0 - du.getD k 0) := by
      refine List.ext_getElem (by simp [ld]) fun i h1 h2 => ?_
      have hi : i < rs.length := by simpa using h2
      simp [hrsL, List.getD_eq_getElem?_getD, hi, show i < du.length by omega]
    rw [e2]
    exact q
end K16
namespace K16
open L2 PySem PySem.Spec WL
theorem d__law_taken {P : Program} {w : World} {K : PySem.W.Frag} {mg : Str → Option Value} {base : Heap} (G : Facts K mg)  {f : Addr} (cdv : Value) (A : Around) (outer : List Env) (s : Shared) (H : Hp) (E : XK) (Y : Yx) (a sa : Addr) (ns : List Int) (c : Cok 0 (cxOf (L2.CX P w) P w K mg base N__law_taken "_law_taken" (defScope (top 46)) f cdv A outer s H E) Y) (hs : ScrAt K Y.A0 Y.H0 sa ns) :
  PSrs (cxOf (L2.CX P w) P w K mg base N__law_taken "_law_taken" (defScope (top 46)) f cdv A outer s H E) Y a (defBody (top 46)) (t__law_taken K sa ns) :=
  (psrs_cons (psr_if (ptd_cmp opb_gt (pq (pd_ix (pq_own (i := 0)) pd_int)) (pq pd_int) (nomark _))
  (psrs_cons (psr_set (i := 1) (pd_op opd_mod (pq (pd_t1 c1_int (G.nb _ (by decide)) bb_int (pq (pd_ix (pq_own (i := 0)) pd_int)))) (pq (pd_var (i := 1)))) c.nd)
  (psrs_cons (psr_sto (i := 0) (pd_op opd_fdv (pq (pd_ix (pq_own (i := 0)) pd_int)) (pq (pd_var (i := 1)))) pd_int)
  (psrs_one (psr_ret (pd_var (i := 2))))))
  psrs_nil)
  (psrs_cons (psr_sto (i := 0) (pd_op opd_add (pq (pd_ix (pq_own (i := 0)) pd_int)) (pq pd_int)) pd_int)
  (psrs_cons (psr_if (ptd_cmp opb_gt (pq (pd_ix (pq_own (i := 0)) pd_int)) (pq (pd_lenS hs (G.nb _ (by decide)) (pq (pd_ix (pq_own (i := 0)) pd_int)))) (nomark _))
  (psrs_cons (psr_sto (i := 0) (pd_op opd_mod (pq (pd_t1 c1_int (G.nb _ (by decide)) bb_int (pq (pd_op opd_add (pq (pd_op opd_mul (pq (pd_ix (pq_own (i := 0)) pd_int)) (pq pd_int))) (pq pd_int))))) (pq pd_int)) pd_int)
  (psrs_one (psr_ret (pd_op opd_mod (pq (pd_t1 c1_int (G.nb _ (by decide)) bb_int (pq (pd_op opd_fdv (pq (pd_ix (pq_own (i := 0)) pd_int)) (pq pd_int))))) (pq (pd_var (i := 1)))))))
  psrs_nil)
  (psrs_cons (psr_set (i := 2) (pd_ixS hs (pq (pd_ix (pq_own (i := 0)) pd_int)) (pd_op opd_sub (pq (pd_ix (pq_own (i := 0)) pd_int)) (pq pd_int))) c.nd)
  (psrs_cons (psr_sto (i := 0) (pd_op opd_mod (pq (pd_t1 c1_int (G.nb _ (by decide)) bb_int (pq (pd_op opd_add (pq (pd_op opd_add (pq (pd_op opd_mul (pq (pd_ix (pq_own (i := 0)) pd_int)) (pq pd_int))) (pq (pd_var (i := 3))))) (pq pd_int))))) (pq pd_int)) pd_int)
  (psrs_cons (psr_if (ptd_cmp opb_ge (pq (pd_var (i := 3))) (pq (pd_op opd_pow (pq pd_int) (pq pd_int))) (nomark _))
  (psrs_cons (psr_sto (i := 0) (pd_op opd_fdv (pq (pd_var (i := 3))) (pq (pd_var (i := 1)))) pd_int)
  (psrs_one (psr_ret (pd_op opd_mod (pq (pd_t1 c1_int (G.nb _ (by decide)) bb_int (pq (pd_var (i := 3))))) (pq (pd_var (i := 1)))))))
  psrs_nil)
  (psrs_one (psr_ret (pd_op opd_mod (pq (pd_t1 c1_int (G.nb _ (by decide)) bb_int (pq (pd_op opd_add (pq (pd_op opd_mul (pq (pd_op opd_mod (pq (pd_t1 c1_int (G.nb _ (by decide)) bb_int (pq (pd_var (i := 3))))) (pq pd_int))) (pq pd_int))) (pq (pd_op opd_fdv (pq (pd_ix (pq_own (i := 0)) pd_int)) (pq pd_int))))))) (pq (pd_var (i := 1))))))))))))
theorem d__law_refusal {P : Program} {w : World} {K : PySem.W.Frag} {mg : Str → Option Value} {base : Heap} (G : Facts K mg) {kk : Nat} {f : Addr} (cdv : Value) (A : Around) (outer : List Env) (s : Shared) (H : Hp) (E : XK) (Y : Yx) (p : Addr × Obj) (xn : Xn) (bf : Str → Bool) (c : CokZ kk (L2H.cxH (L2.CX P w) P w K mg base N__law_refusal "_law_refusal" (defScope (top 52)) f cdv A outer s H E p)) (hok : AOk Y.A0 Y.H0) (hx : ErrO K Y.A0 Y.H0 p xn) (B : ErrF K mg errNames xn bf) :
  PSsd (L2H.cxH (L2.CX P w) P w K mg base N__law_refusal "_law_refusal" (defScope (top 52)) f cdv A outer s H E p) Y (defBody (top 52)) (t__law_refusal K p.1 xn bf) :=
  have hp : p ∈ (L2H.cxH (L2.CX P w) P w K mg base N__law_refusal "_law_refusal" (defScope (top 52)) f cdv A outer s H E p).pn := List.mem_singleton.mpr rfl
  (pssd_cons (psd_set (i := 1) (pd_new (pf_lst (pad_cons pd_str (pad_cons pd_str (pad_cons pd_str (pad_cons pd_str (pad_cons pd_str (pad_cons pd_str (pad_cons pd_str (pad_cons pd_str (pad_cons pd_str pad_nil))))))))))) c.nd)
  (pssd_cons (psd_set (i := 2) (pd_new (pf_lst (pad_cons (pd_isEx hp hx B (G.nb _ (by decide))) (pad_cons (pd_isEx hp hx B (G.nb _ (by decide))) (pad_cons (pd_isEx hp hx B (G.nb _ (by decide))) (pad_cons (pd_isEx hp hx B (G.nb _ (by decide))) (pad_cons (pd_isEx hp hx B (G.nb _ (by decide))) (pad_cons (pd_isEx hp hx B (G.nb _ (by decide))) (pad_cons (pd_isEx hp hx B (G.nb _ (by decide))) (pad_cons (pd_isEx hp hx B (G.nb _ (by decide))) (pad_cons (pd_isEx hp hx B (G.nb _ (by decide))) pad_nil))))))))))) c.nd)
  (pssd_cons (psd_if (pwd_pt (pwd_or (ptd_cmp (opb_ne c.ru) (pq (pd_cntL c.ru (pq (pd_var (i := 2))) (pq pd_bl))) (pq pd_int) (nomark _)) (pwd_or1 (ptd_not (ptd_tru (pq (pd_isEV hp hx B (G.nb _ (by decide)))))))))
  (pssd_one (psd_ret (pd_tup (pad_cons pd_str pad_nil))))
  pssd_nil)
  (pssd_cons (psd_set (i := 3) (pd_ix (pq (pd_var (i := 1))) (pd_idxL c.ru (pq (pd_var (i := 2))) (pq pd_bl))) c.nd)
  (pssd_cons (psd_if (ptd_cmp (opb_eq c.ru) (pq (pd_var (i := 3))) (pq pd_str) (nomark _))
  (pssd_one (psd_ret (pd_tup (pad_cons (pd_var (i := 3)) (pad_cons (pd_xfO hp hok hx B) (pad_cons (pd_xfO hp hok hx B) pad_nil))))))
  pssd_nil)
  (pssd_cons (psd_if (ptd_cmp (opb_eq c.ru) (pq (pd_var (i := 3))) (pq pd_str) (nomark _))
  (pssd_one (psd_ret (pd_tup (pad_cons (pd_var (i := 3)) (pad_cons (pd_xfO hp hok hx B) pad_nil)))))
  pssd_nil)
  (pssd_cons (psd_if (ptd_cmp (opb_eq c.ru) (pq (pd_var (i := 3))) (pq pd_str) (nomark _))
  (pssd_one (psd_ret (pd_tup (pad_cons (pd_var (i := 3)) (pad_cons (pd_xfO hp hok hx B) pad_nil)))))
  pssd_nil)
  (pssd_cons (psd_if (ptd_cmp (opb_in c.ru) (pq (pd_var (i := 3))) (pq (pd_tup (pad_cons pd_str (pad_cons pd_str pad_nil)))) (by with_unfolding_all rfl))
  (pssd_one (psd_ret (pd_tup (pad_cons (pd_var (i := 3)) (pad_cons (pd_xfO hp hok hx B) pad_nil)))))
  pssd_nil)
  (pssd_cons (psd_if (ptd_cmp (opb_in c.ru) (pq (pd_var (i := 3))) (pq (pd_tup (pad_cons pd_str (pad_cons pd_str pad_nil)))) (by with_unfolding_all rfl))
  (pssd_one (psd_ret (pd_tup (pad_cons (pd_var (i := 3)) pad_nil))))
  pssd_nil)
  (pssd_one (psd_ret (pd_tup (pad_cons (pd_var (i := 3)) (pad_cons (pd_xfO hp hok hx B) pad_nil))))))))))))))
end K16
namespace K16
open L2 PySem PySem.Spec WL
def N_is_share : List Str := ["row", "ahead"]
def P_is_share : List Str := ["row", "ahead"]
def t_is_share (K : PySem.W.Frag) : SM :=
  (sSeq (sIf (mOr (mNot (mTru (mCall 2 (m_is_row K) (mCons (mVar 0) (mCons (mK (.int 3)) mNil))))) (mOr (mNot (mTru (mCall 1 (m_is_name K) (mCons (m2 ixM (mVar 0) (mK (.int 0))) mNil)))) (m2t inM (m2 ixM (mVar 0) (mK (.int 0))) (mUn (mCall 1 (m_names_in K) (mCons (mVar 1) mNil))))))
  (sRet (mK (.bl false)))
  sNext)
  (sRet (mAndV (mCall 3 (m_is_within K) (mCons (m2 ixM (mVar 0) (mK (.int 1))) (mCons (mK (.int 1)) (mCons (mK (.int 99)) mNil)))) (mCall 3 (m_is_within K) (mCons (m2 ixM (mVar 0) (mK (.int 2))) (mCons (mK (.int 0)) (mCons (mK (.int 60)) mNil)))))))
def N_wrong_place : List Str := ["parts", "place"]
def P_wrong_place : List Str := ["parts", "place"]
def t_wrong_place (K : PySem.W.Frag) : SM :=
  (sRet (mCall 4 (m_first_wrong K) (mCons (m2 ixM (mVar 0) (mK (.int 0))) (mCons (mK (.int 1)) (mCons (mK (.int 8)) (mCons (mK (.adr (He.ga K "is_share"))) mNil))))))
def N_Turns_init : List Str := ["self", "parts", "row"]
def P_Turns_init : List Str := ["self", "parts"]
def t_Turns_init (K : PySem.W.Frag) : SM :=
  (sSeq (sDrop (mCall 4 (m_require_parts K) (mCons (mK (.str "turns")) (mCons (mK (.tpn d_PARTS)) (mCons (mVar 1) (mCons (mK (.adr (He.ga K "wrong_place"))) mNil))))))
  (sSeq (sFldC (He.ga K "Turns") 0 "parts" (mVar 1))
  (sSeq (sFldC (He.ga K "Turns") 0 "rows" (m2 ixM (mVar 1) (mK (.int 0))))
  (sSeq (sFldC (He.ga K "Turns") 0 "names" (mCall 1 (m_names_in K) (mCons (mAttrO 0 (He.ga K "Turns") "rows") mNil)))
  (sFldC (He.ga K "Turns") 0 "hours" (m1 sumM (mNew (mLc (miT (mAttrO 0 (He.ga K "Turns") "rows")) [2] (.nm 2) mYes (m2 ixM (mVar 2) (mK (.int 2)))))))))))
def N_Turns_with_part : List Str := ["self", "word", "value"]
def P_Turns_with_part : List Str := ["self", "word", "value"]
def t_Turns_with_part (K : PySem.W.Frag) : SM :=
  (sRet (mMake (He.ga K "Turns") ks_Turns 1 (m_Turns K) (mCons (mCall 3 (m_replaced K) (mCons (mAttr (He.ga K "Turns") ks_Turns 0 (mVar 0)) (mCons (mCall 3 (m_place_of K) (mCons (mK (.tpn d_PARTS)) (mCons (mVar 1) (mCons (mK (.str "turns")) mNil)))) (mCons (mVar 2) mNil)))) mNil)))
def N_Turns_with_share : List Str := ["self", "name", "weight", "hours"]
def P_Turns_with_share : List Str := ["self", "name", "weight", "hours"]
def t_Turns_with_share (K : PySem.W.Frag) : SM :=
  (sSeq (sIf (m2t notInM (mVar 1) (mUn (mAttr (He.ga K "Turns") ks_Turns 2 (mVar 0))))
  (sRaise (He.ga K "Unknown") ks_Unknown 1 (mCons (mVar 1) mNil))
  sNext)
  (sRet (mMeth (He.ga K "Turns") ks_Turns 2 (m_Turns_with_part K) (mVar 0) (mCons (mK (.str "rows")) (mCons (mCall 3 (m_replaced K) (mCons (mAttr (He.ga K "Turns") ks_Turns 1 (mVar 0)) (mCons (mMtN idxTM (mAttr (He.ga K "Turns") ks_Turns 2 (mVar 0)) (mVar 1)) (mCons (mTup (mCons (mVar 1) (mCons (mVar 2) (mCons (mVar 3) mNil)))) mNil)))) mNil)))))
def N_Turns_eq : List Str := ["self", "other"]
def P_Turns_eq : List Str := ["self", "other"]
def t_Turns_eq (K : PySem.W.Frag) : SM :=
  (sRet (mAndV (mB1 (isOwnM (He.ga K "Turns")) (mVar 1)) (m2v eqM (mAttr (He.ga K "Turns") ks_Turns 0 (mVar 0)) (mAttr (He.ga K "Turns") ks_Turns 0 (mVar 1)))))
def N_are_turns : List Str := ["value"]
def P_are_turns : List Str := ["value"]
def t_are_turns (K : PySem.W.Frag) : SM :=
  (sRet (mB1 (isOwnM (He.ga K "Turns")) (mVar 0)))
theorem ok_names {ahead : List D} (o : Ok (.tup ahead)) (hr : ∀ r ∈ ahead, ∃ n t, r = .tup (n :: t)) : Ok (.tup (ahead.map row0)) := okDs_of (n := 59) fun d hd => by
  obtain ⟨r, h1, rfl⟩ := List.mem_map.mp hd
  have q : okD 60 r = true := o.mem h1
  obtain ⟨n, t, rfl⟩ := hr r h1
  have q2 : okDs 60 (n :: t) = true := q
  rw [okDs, Bool.and_eq_true] at q2
  exact q2.1
theorem s_is_share (K : PySem.W.Frag) : ∀ ds Q E, ds.length = 2 → m_is_share K ds Q E → t_is_share K (startD N_is_share ds) (kt Q E) := by
  intro ds Q E hl h
  unfold m_is_share at h
  split at h
  · rename_i row ahead
    obtain ⟨⟨o1, o2, l, hr⟩, q⟩ := h
    have hn : ∀ r ∈ ahead, ∃ n t, r = .tup (n :: t) := fun r h => by
      obtain ⟨n, w, h, rfl⟩ := hr r h
      exact ⟨n, _, rfl⟩
    have on : Ok (.tup (ahead.map row0)) := ok_names o2 hn
    cases row with
    | tup xs =>
      match xs, o1, q with
      | [n, w, h], o1, q =>
        have on1 : Ok n := o1.mem (by simp)
        have on2 : Ok w := o1.mem (by simp)
        have on3 : Ok h := o1.mem (by simp)
        simp [t_is_share, N_is_share, m_is_row, m_is_name, m_names_in, m_is_within, rwB, L2.atI, L2.ixN, l, hn, on, o1, on1, on2, on3]
        simp only [shareB] at q
        split
        · rename_i h1
          refine ⟨hn, ?_⟩
          split
          · rename_i h2
            simpa [h1, h2] using q
          · rename_i h2
            split
            · rename_i h3
              simpa [h1, h2, h3] using q
            · rename_i h3
              simpa [h1, h2, h3] using q
        · rename_i h1
          simpa [h1] using q
      | [], o1, q => simp [t_is_share, N_is_share, m_is_row, rwB, shareB, o1] at q ⊢; exact q
      | [_], o1, q => simp [t_is_share, N_is_share, m_is_row, rwB, shareB, o1] at q ⊢; exact q
      | [_, _], o1, q => simp [t_is_share, N_is_share, m_is_row, rwB, shareB, o1] at q ⊢; exact q
      | a :: b :: c :: d :: e, o1, q =>
        have e4 : ¬ ((((a :: b :: c :: d :: e).length : Nat) : Int) = 3) := by simp; omega
        have e5 : rwB (.tup (a :: b :: c :: d :: e)) 3 = false := by
          unfold rwB
          simpa using e4
        simp [t_is_share, N_is_share, m_is_row, e5, shareB, o1] at q ⊢
        exact q
    | _ => first | exact (Bool.noConfusion o1) | (simp [t_is_share, N_is_share, m_is_row, rwB, shareB] at q ⊢; exact ⟨o1, q⟩)
  · exact h.elim
theorem jdg_share {K : PySem.W.Frag} : Jdg shareB (m_is_share K) := fun row ahead Q E o1 o2 l hp q => ⟨⟨o1, o2, l, fun r hr => by
  obtain ⟨i, hi⟩ := List.getElem?_of_mem hr
  have h := hp i r hi
  unfold shareB at h
  split at h
  · exact ⟨_, _, _, rfl⟩
  · cases h⟩, q⟩
theorem s_wrong_place (K : PySem.W.Frag) : ∀ ds Q E, ds.length = 2 → m_wrong_place K ds Q E → t_wrong_place K (startD N_wrong_place ds) (kt Q E) := by
  intro ds Q E hl h
  unfold m_wrong_place at h
  split at h
  · rename_i v i
    obtain ⟨o, q⟩ := h
    simp [t_wrong_place, N_wrong_place, L2.atI, L2.ixN, m_first_wrong, mG_first_wrong]
    exact ⟨o, q⟩
  · exact h.elim
theorem jdp_wrong {K : PySem.W.Frag} : Jdp wrongD 1 (m_wrong_place K) := fun parts i Q E o hr hi q => by
  cases parts with
  | tup xs =>
    match xs, o, hr, q with
    | [v], o, hr, q =>
      have e : i = 0 := by omega
      subst e
      exact ⟨o.mem (by simp), q⟩
    | [], _, hr, _ => exact absurd hr (by simp [rwB])
    | _ :: _ :: _, _, hr, _ => exact absurd hr (by simp [rwB]; omega)
  | _ => exact absurd hr (by simp [rwB])
end K16
namespace K16
open L2 PySem PySem.Spec WL
theorem fwGo_ok {P : D → List D → Bool} {all : List D} : ∀ {r : List D} {i : Nat}, (∀ j, r[j]? = all[i + j]?) → fwGo P all i r = .non → ∀ j d, r[j]? = some d → P d (all.take (i + j)) = true
  | [], _, _, _, j, d, h => by simp at h
  | x :: r, i, he, h, j, d, hj => by
    unfold fwGo at h
    split at h
    · rename_i hp
      cases j with
      | zero => cases hj; simpa using hp
      | succ j =>
        have q := fwGo_ok (i := i + 1) (fun j => by
          have q := he (j + 1)
          rw [List.getElem?_cons_succ] at q
          rw [q]
          congr 1
          omega) h j d (by simpa using hj)
        rw [show i + 1 + j = i + (j + 1) by omega] at q
        exact q
    · cases h
theorem fwD_ok {v : D} {lo hi : Int} (h : fwD shareB v lo hi = .non) : ∃ rs, v = .tup rs ∧ (lo ≤ ((rs.length : Nat) : Int) ∧ ((rs.length : Nat) : Int) ≤ hi) ∧ ∀ i r, rs[i]? = some r → shareB r (rs.take i) = true := by
  cases v with
  | tup rs =>
    unfold fwD at h
    simp only at h
    split at h
    · rename_i hl
      refine ⟨rs, rfl, hl, fun i r hr => ?_⟩
      have q := fwGo_ok (P := shareB) (all := rs) (i := 0) (fun j => by rw [Nat.zero_add]) h i r hr
      rwa [Nat.zero_add] at q
    · cases h
  | _ => cases h
theorem share_row {r : D} {ah : List D} (o : Ok r) (h : shareB r ah = true) : ∃ x w y, r = rD (x, w, y) := by
  unfold shareB at h
  split at h
  · rename_i n w y
    simp only [Bool.and_eq_true] at h
    obtain ⟨⟨h1, h2⟩, h3, h4⟩ := h
    cases n with
    | str x =>
      cases w with
      | int w =>
        cases y with
        | int y => exact ⟨x, w, y, rfl⟩
        | _ => exact absurd h4 (by simp [wiB])
      | _ => exact absurd h3 (by simp [wiB])
    | _ => exact absurd h1 (by simp [nmB])
  · cases h
theorem ok_fwD {v : D} {lo hi : Int} : Ok (fwD shareB v lo hi) := by
  unfold fwD
  split
  · split
    · rcases fwGo_nat shareB _ _ 0 with h | ⟨j, h⟩ <;> rw [h] <;> rfl
    · rfl
  · rfl
theorem badT_bad {v : D} (h : fwD shareB v 1 8 ≠ .non) : badT (.tup [v]) = some (plD (fwD shareB v 1 8), .str "rows") := by
  unfold badT
  split
  · rename_i e
    cases e
    split
    · rename_i h2
      exact absurd h2 h
    · rfl
  · rename_i h2
    exact absurd rfl (h2 v)
theorem s_Turns_init (K : PySem.W.Frag) : ∀ ds Q E, ds.length = 1 → m_Turns K ds Q E → t_Turns_init K (startI (He.ga K "Turns") N_Turns_init ds) (ktI (He.ga K "Turns") ks_Turns Q E) := by
  intro ds Q E hl h
  unfold m_Turns at h
  split at h
  · rename_i parts
    obtain ⟨ok, h1, h2⟩ := h
    simp [t_Turns_init, N_Turns_init, m_require_parts, mG_require_parts, d_PARTS]
    refine ⟨ok, fun hr => ?_, fun hr => ?_⟩
    · refine h1 (.non, .str "turns") ?_
      unfold badT
      split
      · exact absurd hr (by simp [rwB])
      · rfl
    · cases parts with
      | tup xs =>
        match xs, ok, hr, h1, h2 with
        | [v], ok, hr, h1, h2 =>
          have okv : Ok v := ok.mem (by simp)
          simp only [rpGo, wrongD]
          refine ⟨?_, fun hw => ?_, fun hw => ?_⟩
          · exact ok_fwD
          · have hb : badT (.tup [v]) = none := by
              unfold badT
              simp only
              rw [hw]
            obtain ⟨rs, e, q⟩ := h2 hb
            cases e
            obtain ⟨rs', e, hl2, hs⟩ := fwD_ok hw
            cases e
            have hrow : ∀ r ∈ rs, ∃ x w y, r = rD (x, w, y) := fun r hr => by
              obtain ⟨i, hi⟩ := List.getElem?_of_mem hr
              exact share_row (okv.mem hr) (hs i r hi)
            simp (decide := true) [ixF, L2.atI, L2.ixN, m_names_in, ks_Turns]
            refine ⟨⟨by omega, fun r hr => ?_⟩, by omega, lc_map (fun r => .int (hrs r)) (fun r hr R hR => ?_) ?_⟩
            · obtain ⟨x, w, y, rfl⟩ := hrow r hr
              exact ⟨_, _, rfl⟩
            · obtain ⟨x, w, y, rfl⟩ := hrow r hr
              simpa [rD, L2.atI, L2.ixN, hrs] using hR
            · rw [intsOf_f]
              exact q
          · refine h1 (plD (fwD shareB v 1 8), .str "rows") ?_
            exact badT_bad hw
        | [], _, hr, _, _ => exact absurd hr (by simp [rwB])
        | _ :: _ :: _, _, hr, _, _ => exact absurd hr (by simp [rwB]; omega)
      | _ => exact absurd hr (by simp [rwB])
  · exact h.elim
theorem strIn_rows (d : D) : strIn d d_PARTS = eqD (.str "rows") d := by
  unfold strIn
  cases d <;> simp [d_PARTS, inB, eqD]
theorem idx_rows {d : D} (h : eqD (.str "rows") d = true) : idxB d d_PARTS = some 0 := by
  simp [d_PARTS, idxB, h]
theorem s_Turns_with_part (K : PySem.W.Frag) : ∀ ds Q E, ds.length = 3 → m_Turns_with_part K ds Q E → t_Turns_with_part K (startD N_Turns_with_part ds) (kt Q E) := by
  intro ds Q E hl h
  unfold m_Turns_with_part at h
  split at h
  · rename_i C ks ps v nm hs word value
    obtain ⟨⟨e1, e2, e3⟩, ⟨o1, o2⟩, q1, q2⟩ := h
    subst e1
    subst e2
    have oP : Ok (.tup d_PARTS) := by show okD 60 _ = true; decide +kernel
    match ps, e3 with
    | [p], _ =>
    simp [t_Turns_with_part, N_Turns_with_part, m_replaced, m_place_of, strIn_rows]
    refine ⟨⟨o1, oP⟩, q1, fun hb => ?_⟩
    rw [idx_rows hb]
    simpa [tI] using q2 hb
  · exact h.elim
end K16
namespace K16
open L2 PySem PySem.Spec WL
theorem okDs_item {n : Nat} : ∀ {ds : List D} {d : D}, okDs (n + 1) ds = true → d ∈ ds → okD n d = true
  | [], _, _, h => by cases h
  | e :: r, d, h, hm => by
    rw [okDs, Bool.and_eq_true] at h
    rcases List.mem_cons.mp hm with q | q
    · rw [q]; exact h.1
    · exact okDs_item h.2 q
theorem s_Turns_eq (K : PySem.W.Frag) : ∀ ds Q E, ds.length = 2 → m_Turns_eq K ds Q E → t_Turns_eq K (startD N_Turns_eq ds) (kt Q E) := by
  intro ds Q E hl h
  unfold m_Turns_eq at h
  split at h
  · rename_i C ks p v nm hs other
    obtain ⟨⟨e1, e2, o1⟩, h⟩ := h
    subst e1
    subst e2
    split at h
    · rename_i C' ks' p' v' nm' hs'
      obtain ⟨⟨e1, e2, o2⟩, q⟩ := h
      subst e1
      subst e2
      simp [t_Turns_eq, N_Turns_eq]
      exact ⟨⟨o1, o2⟩, q⟩
    · exact h.elim
    · rename_i hn
      obtain ⟨o, q⟩ := h
      cases other <;> first | exact (Bool.noConfusion o) | (simp [t_Turns_eq, N_Turns_eq]; exact q)
  · exact h.elim
theorem s_are_turns (K : PySem.W.Frag) : ∀ ds Q E, ds.length = 1 → m_are_turns K ds Q E → t_are_turns K (startD N_are_turns ds) (kt Q E) := by
  intro ds Q E hl h
  unfold m_are_turns at h
  split at h
  · obtain ⟨e, q⟩ := h
    subst e
    simpa [t_are_turns, N_are_turns] using q
  · rename_i d hn
    obtain ⟨o, q⟩ := h
    cases d <;> first | exact (Bool.noConfusion o) | (simp [t_are_turns, N_are_turns]; exact q)
  · exact h.elim
theorem s_Turns_with_share (K : PySem.W.Frag) : ∀ ds Q E, ds.length = 4 → m_Turns_with_share K ds Q E → t_Turns_with_share K (startD N_Turns_with_share ds) (kt Q E) := by
  intro ds Q E hl h
  unfold m_Turns_with_share at h
  split at h
  · rename_i C ks ps rs nm hs name weight hours
    obtain ⟨⟨e1, e2, e3⟩, ⟨o1, o2, o3, o4, o5, l⟩, q1, q2⟩ := h
    subst e1
    subst e2
    simp [t_Turns_with_share, N_Turns_with_share]
    have o1' : Ok name := okD_mono 50 60 _ (by decide) o1
    refine ⟨⟨o1', o4⟩, ?_⟩
    cases hb : inB name nm with
    | false => simpa using q1 hb
    | true =>
      obtain ⟨j, hj, q⟩ := optQ_some (q2 hb)
      simp [hj, m_replaced, m_Turns_with_part]
      have oR : Ok (.str "rows") := by show okD 60 _ = true; decide +kernel
      refine ⟨⟨o1', o4⟩, l, e3, ⟨oR, ?_⟩, fun z => absurd z (by simp [eqD]), fun _ => q⟩
      have o5' : okDs 60 rs = true := o5
      refine okDs_of (n := 59) fun d hd => ?_
      rcases List.mem_append.mp hd with h | h
      · exact okDs_item o5' (List.mem_of_mem_take h)
      · rcases List.mem_cons.mp h with h | h
        · subst h
          exact okDs_of (n := 58) fun d hd => by
            simp at hd
            rcases hd with rfl | rfl | rfl
            · exact okD_mono 50 58 _ (by decide) o1
            · exact okD_mono 50 58 _ (by decide) o2
            · exact okD_mono 50 58 _ (by decide) o3
        · exact okDs_item o5' (List.mem_of_mem_drop h)
  · exact h.elim
end K16
namespace K16
open L2 PySem PySem.Spec WL
theorem d_is_whole {P : Program} {w : World} {K : PySem.W.Frag} {mg : Str → Option Value} {base : Heap} (G : Facts K mg)  {f : Addr} (cdv : Value) (A : Around) (outer : List Env) (s : Shared) (H : Hp) (E : XK) (Y : Yx) (c : Cok 0 (cxOf (L2.CX P w) P w K mg base N_is_whole "is_whole" (defScope (top 14)) f cdv A outer s H E) Y) :
  PSsd (cxOf (L2.CX P w) P w K mg base N_is_whole "is_whole" (defScope (top 14)) f cdv A outer s H E) Y (defBody (top 14)) (t_is_whole K) :=
  (pssd_one (psd_ret (pd_and (pd_isi (T := "int") (G.nb _ (by decide)) (G.nb _ (by decide)) (pq (pd_var (i := 0))) bb_int) (pd_one (pd_not (pd_isi (T := "bool") (G.nb _ (by decide)) (G.nb _ (by decide)) (pq (pd_var (i := 0))) bb_bool))))))
theorem d_is_within {P : Program} {w : World} {K : PySem.W.Frag} {mg : Str → Option Value} {base : Heap} (G : Facts K mg) (F_is_whole : FnAt P w K mg base 1 "is_whole" 1 (m_is_whole K)) {f : Addr} (cdv : Value) (A : Around) (outer : List Env) (s : Shared) (H : Hp) (E : XK) (Y : Yx) (c : Cok 1 (cxOf (L2.CX P w) P w K mg base N_is_within "is_within" (defScope (top 15)) f cdv A outer s H E) Y) :
  PSsd (cxOf (L2.CX P w) P w K mg base N_is_within "is_within" (defScope (top 15)) f cdv A outer s H E) Y (defBody (top 15)) (t_is_within K) :=
  (pssd_one (psd_ret (pd_and (pd_call c F_is_whole (pad_cons (pd_var (i := 0)) pad_nil)) (pd_one (pd_chain opb_le opb_le (pq (pd_var (i := 1))) (pq (pd_var (i := 0))) (pq (pd_var (i := 2))))))))
theorem d_is_name {P : Program} {w : World} {K : PySem.W.Frag} {mg : Str → Option Value} {base : Heap} (G : Facts K mg)  {f : Addr} (cdv : Value) (A : Around) (outer : List Env) (s : Shared) (H : Hp) (E : XK) (Y : Yx) (c : Cok 0 (cxOf (L2.CX P w) P w K mg base N_is_name "is_name" (defScope (top 16)) f cdv A outer s H E) Y) :
  PSsd (cxOf (L2.CX P w) P w K mg base N_is_name "is_name" (defScope (top 16)) f cdv A outer s H E) Y (defBody (top 16)) (t_is_name K) :=
  (pssd_cons (psd_if (pwd_pt (pwd_or (ptd_not (ptd_tru (pq (pd_isi (T := "str") (G.nb _ (by decide)) (G.nb _ (by decide)) (pq (pd_var (i := 0))) bb_str)))) (pwd_or1 (ptd_not (ptd_chain opb_le opb_le (pq pd_int) (pq (pd_b1 c1_len (G.nb _ (by decide)) bb_len (pq (pd_var (i := 0))))) (pq (pd_globInt rfl G.c_LONGEST)))))))
  (pssd_one (psd_ret pd_bl))
  pssd_nil)
  (pssd_one (psd_ret (pd_b1 (c1_all c.calm) (G.nb _ (by decide)) bb_all (pq (pd_new (pf_lc c.calm c.nd (pid_str (pd_var (i := 0))) (blkOk_by (own := [("sign", 1)]) (by kernel_rfl)) (fun _ _ _ _ _ => (pgd_name c.blk.nd (i := 1))) (fun _ _ _ _ _ => ptsd_nil) (fun _ _ _ _ _ => (pd_cmp (opb_in c.blk.ru) (pq (pd_var (i := 1))) (pq (pd_globStr rfl G.c_LETTERS)) (by with_unfolding_all rfl))))))))))
theorem d_is_row {P : Program} {w : World} {K : PySem.W.Frag} {mg : Str → Option Value} {base : Heap} (G : Facts K mg)  {f : Addr} (cdv : Value) (A : Around) (outer : List Env) (s : Shared) (H : Hp) (E : XK) (Y : Yx) (c : Cok 0 (cxOf (L2.CX P w) P w K mg base N_is_row "is_row" (defScope (top 17)) f cdv A outer s H E) Y) :
  PSsd (cxOf (L2.CX P w) P w K mg base N_is_row "is_row" (defScope (top 17)) f cdv A outer s H E) Y (defBody (top 17)) (t_is_row K) :=
  (pssd_one (psd_ret (pd_and (pd_isi (T := "tuple") (G.nb _ (by decide)) (G.nb _ (by decide)) (pq (pd_var (i := 0))) bb_tuple) (pd_one (pd_cmp (opb_eq c.ru) (pq (pd_b1 c1_len (G.nb _ (by decide)) bb_len (pq (pd_var (i := 0))))) (pq (pd_var (i := 1))) (nomark _))))))
theorem d_first_wrong {P : Program} {w : World} {K : PySem.W.Frag} {mg : Str → Option Value} {base : Heap} (G : Facts K mg) {a_judge : Addr} {m_judge : List D → M} (V_judge : FnAdr P w K mg base 3 a_judge 2 m_judge) {f : Addr} (cdv : Value) (A : Around) (outer : List Env) (s : Shared) (H : Hp) (E : XK) (Y : Yx) (c : Cok 3 (cxOf (L2.CX P w) P w K mg base N_first_wrong "first_wrong" (defScope (top 18)) f cdv A outer s H E) Y) :
  PSsd (cxOf (L2.CX P w) P w K mg base N_first_wrong "first_wrong" (defScope (top 18)) f cdv A outer s H E) Y (defBody (top 18)) (t_first_wrong K a_judge m_judge) :=
  (pssd_cons (psd_if (pwd_pt (pwd_or (ptd_not (ptd_tru (pq (pd_isi (T := "tuple") (G.nb _ (by decide)) (G.nb _ (by decide)) (pq (pd_var (i := 0))) bb_tuple)))) (pwd_or1 (ptd_not (ptd_chain opb_le opb_le (pq (pd_var (i := 1))) (pq (pd_b1 c1_len (G.nb _ (by decide)) bb_len (pq (pd_var (i := 0))))) (pq (pd_var (i := 2))))))))
  (pssd_one (psd_ret (pd_neg pd_int)))
  pssd_nil)
  (pssd_cons (psd_for owns_def c.calm (pid_enum (G.nb _ (by decide)) (pd_var (i := 0))) (pgd_tup c.calm (pgsd_cons (pgd_name c.nd (i := 4)) (pgsd_cons (pgd_name c.nd (i := 5)) pgsd_nil)))
  (pssd_one (psd_if (ptd_not (ptd_tru (pq (pd_callV (i := 3) c V_judge (pad_cons (pd_var (i := 5)) (pad_cons (pd_slice (pq (pd_var (i := 0))) pod_none (pod_some (pd_var (i := 4)))) pad_nil))))))
  (pssd_one (psd_ret (pd_var (i := 4))))
  pssd_nil)))
  (pssd_one (psd_ret pd_non))))
theorem d_require_part {P : Program} {w : World} {K : PySem.W.Frag} {mg : Str → Option Value} {base : Heap} (G : Facts K mg) (X_BadPart : ExAt P w K mg base 1 "BadPart" (He.ga K "BadPart") ks_BadPart 2) {f : Addr} (cdv : Value) (A : Around) (outer : List Env) (s : Shared) (H : Hp) (E : XK) (Y : Yx) (c : Cok 2 (cxOf (L2.CX P w) P w K mg base N_require_part "require_part" (defScope (top 19)) f cdv A outer s H E) Y) :
  PSsd (cxOf (L2.CX P w) P w K mg base N_require_part "require_part" (defScope (top 19)) f cdv A outer s H E) Y (defBody (top 19)) (t_require_part K) :=
  (pssd_one (psd_if (ptd_cmp opb_isNot (pq (pd_var (i := 1))) (pq pd_non) (nomark _))
  (pssd_one (psd_raise c X_BadPart (pad_cons (pd_var (i := 0)) (pad_cons (pd_if (ptd_cmp (opb_eq c.ru) (pq (pd_var (i := 1))) (pq (pd_neg pd_int)) (nomark _)) pd_non (pd_var (i := 1))) pad_nil))))
  pssd_nil))
theorem d_require_parts {P : Program} {w : World} {K : PySem.W.Frag} {mg : Str → Option Value} {base : Heap} (G : Facts K mg) {a_judge : Addr} {m_judge : List D → M} (V_judge : FnAdr P w K mg base 5 a_judge 2 m_judge) (F_is_row : FnAt P w K mg base 1 "is_row" 2 (m_is_row K)) (F_require_part : FnAt P w K mg base 3 "require_part" 2 (m_require_part K)) {f : Addr} (cdv : Value) (A : Around) (outer : List Env) (s : Shared) (H : Hp) (E : XK) (Y : Yx) (c : Cok 5 (cxOf (L2.CX P w) P w K mg base N_require_parts "require_parts" (defScope (top 20)) f cdv A outer s H E) Y) :
  PSsd (cxOf (L2.CX P w) P w K mg base N_require_parts "require_parts" (defScope (top 20)) f cdv A outer s H E) Y (defBody (top 20)) (t_require_parts K a_judge m_judge) :=
  (pssd_cons (psd_if (ptd_not (ptd_tru (pq (pd_call c F_is_row (pad_cons (pd_var (i := 2)) (pad_cons (pd_b1 c1_len (G.nb _ (by decide)) bb_len (pq (pd_un (pd_var (i := 1))))) pad_nil))))))
  (pssd_one (psd_drop (pd_call c F_require_part (pad_cons (pd_var (i := 0)) (pad_cons (pd_neg pd_int) pad_nil)))))
  pssd_nil)
  (pssd_one (psd_for owns_def c.calm (pid_enum (G.nb _ (by decide)) (pd_un (pd_var (i := 1)))) (pgd_tup c.calm (pgsd_cons (pgd_name c.nd (i := 4)) (pgsd_cons (pgd_name c.nd (i := 5)) pgsd_nil)))
  (pssd_one (psd_drop (pd_call c F_require_part (pad_cons (pd_var (i := 5)) (pad_cons (pd_callV (i := 3) c V_judge (pad_cons (pd_var (i := 2)) (pad_cons (pd_var (i := 4)) pad_nil))) pad_nil))))))))
theorem d_replaced {P : Program} {w : World} {K : PySem.W.Frag} {mg : Str → Option Value} {base : Heap} (G : Facts K mg)  {f : Addr} (cdv : Value) (A : Around) (outer : List Env) (s : Shared) (H : Hp) (E : XK) (Y : Yx) (c : Cok 0 (cxOf (L2.CX P w) P w K mg base N_replaced "replaced" (defScope (top 21)) f cdv A outer s H E) Y) :
  PSsd (cxOf (L2.CX P w) P w K mg base N_replaced "replaced" (defScope (top 21)) f cdv A outer s H E) Y (defBody (top 21)) (t_replaced K) :=
  (pssd_one (psd_ret (pd_op opd_add (pq (pd_op opd_add (pq (pd_slice (pq (pd_var (i := 0))) pod_none (pod_some (pd_var (i := 1))))) (pq (pd_tup (pad_cons (pd_var (i := 2)) pad_nil))))) (pq (pd_slice (pq (pd_var (i := 0))) (pod_some (pd_op opd_add (pq (pd_var (i := 1))) (pq pd_int))) pod_none)))))
theorem d_place_of {P : Program} {w : World} {K : PySem.W.Frag} {mg : Str → Option Value} {base : Heap} (G : Facts K mg) (F_require_part : FnAt P w K mg base 3 "require_part" 2 (m_require_part K)) {f : Addr} (cdv : Value) (A : Around) (outer : List Env) (s : Shared) (H : Hp) (E : XK) (Y : Yx) (c : Cok 3 (cxOf (L2.CX P w) P w K mg base N_place_of "place_of" (defScope (top 22)) f cdv A outer s H E) Y) :
  PSsd (cxOf (L2.CX P w) P w K mg base N_place_of "place_of" (defScope (top 22)) f cdv A outer s H E) Y (defBody (top 22)) (t_place_of K) :=
  (pssd_cons (psd_if (pwd_pt (pwd_or (ptd_not (ptd_tru (pq (pd_isi (T := "str") (G.nb _ (by decide)) (G.nb _ (by decide)) (pq (pd_var (i := 1))) bb_str)))) (pwd_or1 (ptd_cmp (opb_notIn c.ru) (pq (pd_var (i := 1))) (pq (pd_un (pd_var (i := 0)))) (by with_unfolding_all rfl)))))
  (pssd_one (psd_drop (pd_call c F_require_part (pad_cons (pd_var (i := 2)) (pad_cons (pd_neg pd_int) pad_nil)))))
  pssd_nil)
  (pssd_one (psd_ret (pd_idxN c.ru (pq (pd_var (i := 0))) (pq (pd_var (i := 1)))))))
theorem d_names_in {P : Program} {w : World} {K : PySem.W.Frag} {mg : Str → Option Value} {base : Heap} (G : Facts K mg)  {f : Addr} (cdv : Value) (A : Around) (outer : List Env) (s : Shared) (H : Hp) (E : XK) (Y : Yx) (c : Cok 0 (cxOf (L2.CX P w) P w K mg base N_names_in "names_in" (defScope (top 23)) f cdv A outer s H E) Y) :
  PSsd (cxOf (L2.CX P w) P w K mg base N_names_in "names_in" (defScope (top 23)) f cdv A outer s H E) Y (defBody (top 23)) (t_names_in K) :=
  (pssd_one (psd_ret (pd_t1 c1_tpn (G.nb _ (by decide)) bb_tuple (pq (pd_new (pf_lc c.calm c.nd (pid_tup (pd_var (i := 0))) (blkOk_by (own := [("row", 1)]) (by kernel_rfl)) (fun _ _ _ _ _ => (pgd_name c.blk.nd (i := 1))) (fun _ _ _ _ _ => ptsd_nil) (fun _ _ _ _ _ => (pd_ix (pq (pd_var (i := 1))) pd_int))))))))
theorem d_is_share {P : Program} {w : World} {K : PySem.W.Frag} {mg : Str → Option Value} {base : Heap} (G : Facts K mg) (F_is_within : FnAt P w K mg base 2 "is_within" 3 (m_is_within K)) (F_is_row : FnAt P w K mg base 1 "is_row" 2 (m_is_row K)) (F_is_name : FnAt P w K mg base 1 "is_name" 1 (m_is_name K)) (F_names_in : FnAt P w K mg base 1 "names_in" 1 (m_names_in K)) {f : Addr} (cdv : Value) (A : Around) (outer : List Env) (s : Shared) (H : Hp) (E : XK) (Y : Yx) (c : Cok 2 (cxOf (L2.CX P w) P w K mg base N_is_share "is_share" (defScope (top 30)) f cdv A outer s H E) Y) :
  PSsd (cxOf (L2.CX P w) P w K mg base N_is_share "is_share" (defScope (top 30)) f cdv A outer s H E) Y (defBody (top 30)) (t_is_share K) :=
  (pssd_cons (psd_if (pwd_pt (pwd_or (ptd_not (ptd_tru (pq (pd_call c F_is_row (pad_cons (pd_var (i := 0)) (pad_cons pd_int pad_nil)))))) (pwd_or (ptd_not (ptd_tru (pq (pd_call c F_is_name (pad_cons (pd_ix (pq (pd_var (i := 0))) pd_int) pad_nil))))) (pwd_or1 (ptd_cmp (opb_in c.ru) (pq (pd_ix (pq (pd_var (i := 0))) pd_int)) (pq (pd_un (pd_call c F_names_in (pad_cons (pd_var (i := 1)) pad_nil)))) (by with_unfolding_all rfl))))))
  (pssd_one (psd_ret pd_bl))
  pssd_nil)
  (pssd_one (psd_ret (pd_and (pd_call c F_is_within (pad_cons (pd_ix (pq (pd_var (i := 0))) pd_int) (pad_cons pd_int (pad_cons (pd_globInt rfl G.c_MOST_WEIGHT) pad_nil)))) (pd_one (pd_call c F_is_within (pad_cons (pd_ix (pq (pd_var (i := 0))) pd_int) (pad_cons pd_int (pad_cons (pd_globInt rfl G.c_MOST_HOURS) pad_nil)))))))))
theorem d_wrong_place {P : Program} {w : World} {K : PySem.W.Frag} {mg : Str → Option Value} {base : Heap} (G : Facts K mg) (F_first_wrong : FnAt P w K mg base 4 "first_wrong" 4 (m_first_wrong K)) {f : Addr} (cdv : Value) (A : Around) (outer : List Env) (s : Shared) (H : Hp) (E : XK) (Y : Yx) (c : Cok 4 (cxOf (L2.CX P w) P w K mg base N_wrong_place "wrong_place" (defScope (top 31)) f cdv A outer s H E) Y) :
  PSsd (cxOf (L2.CX P w) P w K mg base N_wrong_place "wrong_place" (defScope (top 31)) f cdv A outer s H E) Y (defBody (top 31)) (t_wrong_place K) :=
  (pssd_one (psd_ret (pd_call c F_first_wrong (pad_cons (pd_ix (pq (pd_var (i := 0))) pd_int) (pad_cons pd_int (pad_cons (pd_globInt rfl G.c_MOST_ROWS) (pad_cons (pd_fn G.f_is_share) pad_nil)))))))
theorem d_Turns_init {P : Program} {w : World} {K : PySem.W.Frag} {mg : Str → Option Value} {base : Heap} (G : Facts K mg) (F_require_parts : FnAt P w K mg base 6 "require_parts" 4 (m_require_parts K)) (F_names_in : FnAt P w K mg base 1 "names_in" 1 (m_names_in K)) {f : Addr} (cdv : Value) (A : Around) (outer : List Env) (s : Shared) (H : Hp) (E : XK) (Y : Yx) (c : Cok 6 (cxOf (L2.CX P w) P w K mg base N_Turns_init "Turns.__init__" (defScope (meth (top 32) 0)) f cdv A outer s H E) Y) :
  PSsd (cxOf (L2.CX P w) P w K mg base N_Turns_init "Turns.__init__" (defScope (meth (top 32) 0)) f cdv A outer s H E) Y (defBody (meth (top 32) 0)) (t_Turns_init K) :=
  (pssd_cons (psd_drop (pd_call c F_require_parts (pad_cons pd_str (pad_cons (pd_globN G.g_PARTS G.o_PARTS G.s_PARTS (fun _ _ => G.r_PARTS)) (pad_cons (pd_var (i := 1)) (pad_cons (pd_fn G.f_wrong_place) pad_nil))))))
  (pssd_cons (psd_fld (i := 0) (C := He.ga K "Turns") G.cls_Turns (G.noat_Turns _ (by decide)) (pd_var (i := 1)))
  (pssd_cons (psd_fld (i := 0) (C := He.ga K "Turns") G.cls_Turns (G.noat_Turns _ (by decide)) (pd_ix (pq (pd_var (i := 1))) pd_int))
  (pssd_cons (psd_fld (i := 0) (C := He.ga K "Turns") G.cls_Turns (G.noat_Turns _ (by decide)) (pd_call c F_names_in (pad_cons (pd_attrO (i := 0) (C := He.ga K "Turns") G.cls_Turns (G.noat_Turns _ (by decide))) pad_nil)))
  (pssd_one (psd_fld (i := 0) (C := He.ga K "Turns") G.cls_Turns (G.noat_Turns _ (by decide)) (pd_b1 (c1_sum c.calm) (G.nb _ (by decide)) bb_sum (pq (pd_new (pf_lc c.calm c.nd (pid_tup (pd_attrO (i := 0) (C := He.ga K "Turns") G.cls_Turns (G.noat_Turns _ (by decide)))) (blkOk_by (own := [("row", 2)]) (by kernel_rfl)) (fun _ _ _ _ _ => (pgd_name c.blk.nd (i := 2))) (fun _ _ _ _ _ => ptsd_nil) (fun _ _ _ _ _ => (pd_ix (pq (pd_var (i := 2))) pd_int))))))))))))
theorem d_Turns_with_part {P : Program} {w : World} {K : PySem.W.Frag} {mg : Str → Option Value} {base : Heap} (G : Facts K mg) (M_Turns : MkAt P w K mg base 7 "Turns" (He.ga K "Turns") ks_Turns 1 (m_Turns K)) (F_replaced : FnAt P w K mg base 1 "replaced" 3 (m_replaced K)) (F_place_of : FnAt P w K mg base 4 "place_of" 3 (m_place_of K)) {f : Addr} (cdv : Value) (A : Around) (outer : List Env) (s : Shared) (H : Hp) (E : XK) (Y : Yx) (c : Cok 8 (cxOf (L2.CX P w) P w K mg base N_Turns_with_part "Turns.with_part" (defScope (meth (top 32) 1)) f cdv A outer s H E) Y) :
  PSsd (cxOf (L2.CX P w) P w K mg base N_Turns_with_part "Turns.with_part" (defScope (meth (top 32) 1)) f cdv A outer s H E) Y (defBody (meth (top 32) 1)) (t_Turns_with_part K) :=
  (pssd_one (psd_ret (pd_make c M_Turns (pad_cons (pd_call c F_replaced (pad_cons (pd_attr (C := He.ga K "Turns") (ks := ks_Turns) (j := 0) (pd_var (i := 0)) G.cls_Turns (G.noat_Turns _ (by decide))) (pad_cons (pd_call c F_place_of (pad_cons (pd_globN G.g_PARTS G.o_PARTS G.s_PARTS (fun _ _ => G.r_PARTS)) (pad_cons (pd_var (i := 1)) (pad_cons pd_str pad_nil)))) (pad_cons (pd_var (i := 2)) pad_nil)))) pad_nil))))
theorem d_Turns_with_share {P : Program} {w : World} {K : PySem.W.Frag} {mg : Str → Option Value} {base : Heap} (G : Facts K mg) (X_Unknown : ExAt P w K mg base 1 "Unknown" (He.ga K "Unknown") ks_Unknown 1) (W_Turns_with_part : MtAt P w K mg base 9 (He.ga K "Turns") "with_part" 2 (m_Turns_with_part K)) (F_replaced : FnAt P w K mg base 1 "replaced" 3 (m_replaced K)) {f : Addr} (cdv : Value) (A : Around) (outer : List Env) (s : Shared) (H : Hp) (E : XK) (Y : Yx) (c : Cok 9 (cxOf (L2.CX P w) P w K mg base N_Turns_with_share "Turns.with_share" (defScope (meth (top 32) 2)) f cdv A outer s H E) Y) :
  PSsd (cxOf (L2.CX P w) P w K mg base N_Turns_with_share "Turns.with_share" (defScope (meth (top 32) 2)) f cdv A outer s H E) Y (defBody (meth (top 32) 2)) (t_Turns_with_share K) :=
  (pssd_cons (psd_if (ptd_cmp (opb_notIn c.ru) (pq (pd_var (i := 1))) (pq (pd_un (pd_attr (C := He.ga K "Turns") (ks := ks_Turns) (j := 2) (pd_var (i := 0)) G.cls_Turns (G.noat_Turns _ (by decide))))) (by with_unfolding_all rfl))
  (pssd_one (psd_raise c X_Unknown (pad_cons (pd_var (i := 1)) pad_nil)))
  pssd_nil)
  (pssd_one (psd_ret (pd_meth (ks := ks_Turns) c W_Turns_with_part (pd_var (i := 0)) (pad_cons pd_str (pad_cons (pd_call c F_replaced (pad_cons (pd_attr (C := He.ga K "Turns") (ks := ks_Turns) (j := 1) (pd_var (i := 0)) G.cls_Turns (G.noat_Turns _ (by decide))) (pad_cons (pd_idxN c.ru (pq (pd_attr (C := He.ga K "Turns") (ks := ks_Turns) (j := 2) (pd_var (i := 0)) G.cls_Turns (G.noat_Turns _ (by decide)))) (pq (pd_var (i := 1)))) (pad_cons (pd_tup (pad_cons (pd_var (i := 1)) (pad_cons (pd_var (i := 2)) (pad_cons (pd_var (i := 3)) pad_nil)))) pad_nil)))) pad_nil))))))
theorem d_Turns_eq {P : Program} {w : World} {K : PySem.W.Frag} {mg : Str → Option Value} {base : Heap} (G : Facts K mg)  {f : Addr} (cdv : Value) (A : Around) (outer : List Env) (s : Shared) (H : Hp) (E : XK) (Y : Yx) (c : Cok 0 (cxOf (L2.CX P w) P w K mg base N_Turns_eq "Turns.__eq__" (defScope (meth (top 32) 3)) f cdv A outer s H E) Y) :
  PSsd (cxOf (L2.CX P w) P w K mg base N_Turns_eq "Turns.__eq__" (defScope (meth (top 32) 3)) f cdv A outer s H E) Y (defBody (meth (top 32) 3)) (t_Turns_eq K) :=
  (pssd_one (psd_ret (pd_and (pd_isOwn (G.nb _ (by decide)) G.g_Turns G.insC_Turns G.kn_Turns (pq (pd_var (i := 1)))) (pd_one (pd_cmp (opb_eq c.ru) (pq (pd_attr (C := He.ga K "Turns") (ks := ks_Turns) (j := 0) (pd_var (i := 0)) G.cls_Turns (G.noat_Turns _ (by decide)))) (pq (pd_attr (C := He.ga K "Turns") (ks := ks_Turns) (j := 0) (pd_var (i := 1)) G.cls_Turns (G.noat_Turns _ (by decide)))) (nomark _))))))
theorem d_are_turns {P : Program} {w : World} {K : PySem.W.Frag} {mg : Str → Option Value} {base : Heap} (G : Facts K mg)  {f : Addr} (cdv : Value) (A : Around) (outer : List Env) (s : Shared) (H : Hp) (E : XK) (Y : Yx) (c : Cok 0 (cxOf (L2.CX P w) P w K mg base N_are_turns "are_turns" (defScope (top 33)) f cdv A outer s H E) Y) :
  PSsd (cxOf (L2.CX P w) P w K mg base N_are_turns "are_turns" (defScope (top 33)) f cdv A outer s H E) Y (defBody (top 33)) (t_are_turns K) :=
  (pssd_one (psd_ret (pd_isOwn (G.nb _ (by decide)) G.g_Turns G.insC_Turns G.kn_Turns (pq (pd_var (i := 0))))))
theorem d_fair_hours {P : Program} {w : World} {K : PySem.W.Frag} {mg : Str → Option Value} {base : Heap} (G : Facts K mg)  {f : Addr} (cdv : Value) (A : Around) (outer : List Env) (s : Shared) (H : Hp) (E : XK) (Y : Yx) (c : Cok 0 (cxOf (L2.CX P w) P w K mg base N_fair_hours "fair_hours" (defScope (top 34)) f cdv A outer s H E) Y) :
  PSsd (cxOf (L2.CX P w) P w K mg base N_fair_hours "fair_hours" (defScope (top 34)) f cdv A outer s H E) Y (defBody (top 34)) (t_fair_hours K) :=
  (pssd_cons (psd_own (i := 1) (pf_mul (pq (pd_new (pf_lst (pad_cons pd_int pad_nil)))) (pq (pd_b1 c1_len (G.nb _ (by decide)) bb_len (pq (pd_attr (C := He.ga K "Turns") (ks := ks_Turns) (j := 1) (pd_var (i := 0)) G.cls_Turns (G.noat_Turns _ (by decide))))))) c.nd)
  (pssd_cons (psd_for owns_def c.calm (pid_range1 (G.nb _ (by decide)) (pd_attr (C := He.ga K "Turns") (ks := ks_Turns) (j := 3) (pd_var (i := 0)) G.cls_Turns (G.noat_Turns _ (by decide)))) (pgd_name c.nd (i := 2))
  (pssd_cons (psd_set (i := 3) pd_int c.nd)
  (pssd_cons (psd_for owns_def c.calm (pid_enum (G.nb _ (by decide)) (pd_attr (C := He.ga K "Turns") (ks := ks_Turns) (j := 1) (pd_var (i := 0)) G.cls_Turns (G.noat_Turns _ (by decide)))) (pgd_tup c.calm (pgsd_cons (pgd_name c.nd (i := 4)) (pgsd_cons (pgd_name c.nd (i := 5)) pgsd_nil)))
  (pssd_one (psd_if (ptd_cmp opb_lt (pq (pd_op opd_mul (pq (pd_op opd_add (pq (pd_ix (pq_own (i := 1)) (pd_var (i := 4)))) (pq pd_int))) (pq (pd_ix (pq (pd_ix (pq (pd_attr (C := He.ga K "Turns") (ks := ks_Turns) (j := 1) (pd_var (i := 0)) G.cls_Turns (G.noat_Turns _ (by decide)))) (pd_var (i := 3)))) pd_int)))) (pq (pd_op opd_mul (pq (pd_op opd_add (pq (pd_ix (pq_own (i := 1)) (pd_var (i := 3)))) (pq pd_int))) (pq (pd_ix (pq (pd_var (i := 5))) pd_int)))) (nomark _))
  (pssd_one (psd_set (i := 3) (pd_var (i := 4)) c.nd))
  pssd_nil)))
  (pssd_one (psd_augS (i := 1) (pd_var (i := 3)) pd_int ipd_add)))))
  (pssd_one (psd_ret (pd_t1 c1_tup (G.nb _ (by decide)) bb_tuple (pq_own (i := 1)))))))
theorem d_is_envy {P : Program} {w : World} {K : PySem.W.Frag} {mg : Str → Option Value} {base : Heap} (G : Facts K mg) (F_is_row : FnAt P w K mg base 1 "is_row" 2 (m_is_row K)) {f : Addr} (cdv : Value) (A : Around) (outer : List Env) (s : Shared) (H : Hp) (E : XK) (Y : Yx) (c : Cok 1 (cxOf (L2.CX P w) P w K mg base N_is_envy "is_envy" (defScope (top 35)) f cdv A outer s H E) Y) :
  PSsd (cxOf (L2.CX P w) P w K mg base N_is_envy "is_envy" (defScope (top 35)) f cdv A outer s H E) Y (defBody (top 35)) (t_is_envy K) :=
  (pssd_cons (psd_if (pwd_pt (pwd_or (ptd_not (ptd_tru (pq (pd_call c F_is_row (pad_cons (pd_var (i := 1)) (pad_cons pd_int pad_nil)))))) (pwd_or1 (ptd_not (ptd_tru (pq (pd_b1 (c1_all c.calm) (G.nb _ (by decide)) bb_all (pq (pd_new (pf_lc c.calm c.nd (pid_tup (pd_var (i := 1))) (blkOk_by (own := [("name", 2)]) (by kernel_rfl)) (fun _ _ _ _ _ => (pgd_name c.blk.nd (i := 2))) (fun _ _ _ _ _ => ptsd_nil) (fun _ _ _ _ _ => (pd_and (pd_isi (T := "str") (G.nb _ (by decide)) (G.nb _ (by decide)) (pq (pd_var (i := 2))) bb_str) (pd_one (pd_cmp (opb_in c.blk.ru) (pq (pd_var (i := 2))) (pq (pd_un (pd_attr (C := He.ga K "Turns") (ks := ks_Turns) (j := 2) (pd_var (i := 0)) G.cls_Turns (G.noat_Turns _ (by decide))))) (by with_unfolding_all rfl)))))))))))))))
  (pssd_one (psd_ret pd_bl))
  pssd_nil)
  (pssd_cons (psd_set (i := 3) (pd_t1 (c1_dict c.calm) (G.nb _ (by decide)) bb_dict (pq (pd_new (pf_lc c.calm c.nd (pid_tup (pd_attr (C := He.ga K "Turns") (ks := ks_Turns) (j := 1) (pd_var (i := 0)) G.cls_Turns (G.noat_Turns _ (by decide)))) (blkOk_by (own := [("row", 4)]) (by kernel_rfl)) (fun _ _ _ _ _ => (pgd_name c.blk.nd (i := 4))) (fun _ _ _ _ _ => ptsd_nil) (fun _ _ _ _ _ => (pd_tup (pad_cons (pd_ix (pq (pd_var (i := 4))) pd_int) (pad_cons (pd_var (i := 4)) pad_nil)))))))) c.nd)
  (pssd_cons (psd_par (i := 5) (j := 6) c.calm c.nd (psl_dat (pd_dget c.ru (pq (pd_var (i := 3))) (pd_ix (pq (pd_var (i := 1))) pd_int)) (psl_dat (pd_dget c.ru (pq (pd_var (i := 3))) (pd_ix (pq (pd_var (i := 1))) pd_int)) psl_nil)))
  (pssd_one (psd_ret (pd_cmp opb_lt (pq (pd_op opd_mul (pq (pd_op opd_add (pq (pd_ix (pq (pd_var (i := 5))) pd_int)) (pq pd_int))) (pq (pd_ix (pq (pd_var (i := 6))) pd_int)))) (pq (pd_op opd_mul (pq (pd_ix (pq (pd_var (i := 6))) pd_int)) (pq (pd_ix (pq (pd_var (i := 5))) pd_int)))) (nomark _)))))))
theorem d_envy_of {P : Program} {w : World} {K : PySem.W.Frag} {mg : Str → Option Value} {base : Heap} (G : Facts K mg) (F_is_envy : FnAt P w K mg base 2 "is_envy" 2 (m_is_envy K)) {f : Addr} (cdv : Value) (A : Around) (outer : List Env) (s : Shared) (H : Hp) (E : XK) (Y : Yx) (c : Cok 2 (cxOf (L2.CX P w) P w K mg base N_envy_of "envy_of" (defScope (top 36)) f cdv A outer s H E) Y) :
  PSsd (cxOf (L2.CX P w) P w K mg base N_envy_of "envy_of" (defScope (top 36)) f cdv A outer s H E) Y (defBody (top 36)) (t_envy_of K) :=
  (pssd_cons (psd_for owns_def c.calm (pid_tup (pd_un (pd_attr (C := He.ga K "Turns") (ks := ks_Turns) (j := 2) (pd_var (i := 0)) G.cls_Turns (G.noat_Turns _ (by decide))))) (pgd_name c.nd (i := 1))
  (pssd_one (psd_for owns_def c.calm (pid_tup (pd_un (pd_attr (C := He.ga K "Turns") (ks := ks_Turns) (j := 2) (pd_var (i := 0)) G.cls_Turns (G.noat_Turns _ (by decide))))) (pgd_name c.nd (i := 2))
  (pssd_one (psd_if (ptd_tru (pq (pd_call c F_is_envy (pad_cons (pd_var (i := 0)) (pad_cons (pd_tup (pad_cons (pd_var (i := 1)) (pad_cons (pd_var (i := 2)) pad_nil))) pad_nil)))))
  (pssd_one (psd_ret (pd_tup (pad_cons (pd_var (i := 1)) (pad_cons (pd_var (i := 2)) pad_nil)))))
  pssd_nil)))))
  (pssd_one (psd_ret pd_non)))
theorem d_are_fair {P : Program} {w : World} {K : PySem.W.Frag} {mg : Str → Option Value} {base : Heap} (G : Facts K mg) (F_envy_of : FnAt P w K mg base 3 "envy_of" 1 (m_envy_of K)) {f : Addr} (cdv : Value) (A : Around) (outer : List Env) (s : Shared) (H : Hp) (E : XK) (Y : Yx) (c : Cok 3 (cxOf (L2.CX P w) P w K mg base N_are_fair "are_fair" (defScope (top 37)) f cdv A outer s H E) Y) :
  PSsd (cxOf (L2.CX P w) P w K mg base N_are_fair "are_fair" (defScope (top 37)) f cdv A outer s H E) Y (defBody (top 37)) (t_are_fair K) :=
  (pssd_one (psd_ret (pd_cmp opb_is (pq (pd_call c F_envy_of (pad_cons (pd_var (i := 0)) pad_nil))) (pq pd_non) (nomark _))))
theorem d_is_price {P : Program} {w : World} {K : PySem.W.Frag} {mg : Str → Option Value} {base : Heap} (G : Facts K mg) (F_is_row : FnAt P w K mg base 1 "is_row" 2 (m_is_row K)) (F_is_within : FnAt P w K mg base 2 "is_within" 3 (m_is_within K)) {f : Addr} (cdv : Value) (A : Around) (outer : List Env) (s : Shared) (H : Hp) (E : XK) (Y : Yx) (c : Cok 2 (cxOf (L2.CX P w) P w K mg base N_is_price "is_price" (defScope (top 38)) f cdv A outer s H E) Y) :
  PSsd (cxOf (L2.CX P w) P w K mg base N_is_price "is_price" (defScope (top 38)) f cdv A outer s H E) Y (defBody (top 38)) (t_is_price K) :=
  (pssd_cons (psd_if (pwd_pt (pwd_or (ptd_not (ptd_tru (pq (pd_call c F_is_row (pad_cons (pd_var (i := 1)) (pad_cons pd_int pad_nil)))))) (pwd_or (ptd_not (ptd_tru (pq (pd_call c F_is_within (pad_cons (pd_ix (pq (pd_var (i := 1))) pd_int) (pad_cons pd_int (pad_cons (pd_globInt rfl G.c_MOST_PRICE) pad_nil))))))) (pwd_or1 (ptd_not (ptd_tru (pq (pd_call c F_is_within (pad_cons (pd_ix (pq (pd_var (i := 1))) pd_int) (pad_cons pd_int (pad_cons (pd_globInt rfl G.c_MOST_PRICE) pad_nil)))))))))))
  (pssd_one (psd_ret pd_bl))
  pssd_nil)
  (pssd_one (psd_ret (pd_b1 (c1_all c.calm) (G.nb _ (by decide)) bb_all (pq (pd_new (pf_lc c.calm c.nd (pid_tup (pd_attr (C := He.ga K "Turns") (ks := ks_Turns) (j := 1) (pd_var (i := 0)) G.cls_Turns (G.noat_Turns _ (by decide)))) (blkOk_by (own := [("row", 2)]) (by kernel_rfl)) (fun _ _ _ _ _ => (pgd_name c.blk.nd (i := 2))) (fun _ _ _ _ _ => ptsd_nil) (fun _ _ _ _ _ => (pd_chain opb_le opb_le (pq (pd_op opd_mul (pq (pd_ix (pq (pd_var (i := 2))) pd_int)) (pq (pd_ix (pq (pd_var (i := 1))) pd_int)))) (pq (pd_op opd_mul (pq (pd_ix (pq (pd_var (i := 1))) pd_int)) (pq (pd_ix (pq (pd_var (i := 2))) pd_int)))) (pq (pd_op opd_mul (pq (pd_op opd_add (pq (pd_ix (pq (pd_var (i := 2))) pd_int)) (pq pd_int))) (pq (pd_ix (pq (pd_var (i := 1))) pd_int)))))))))))))
theorem d_price_of {P : Program} {w : World} {K : PySem.W.Frag} {mg : Str → Option Value} {base : Heap} (G : Facts K mg) (F_are_fair : FnAt P w K mg base 4 "are_fair" 1 (m_are_fair K)) {f : Addr} (cdv : Value) (A : Around) (outer : List Env) (s : Shared) (H : Hp) (E : XK) (Y : Yx) (c : Cok 4 (cxOf (L2.CX P w) P w K mg base N_price_of "price_of" (defScope (top 39)) f cdv A outer s H E) Y) :
  PSsd (cxOf (L2.CX P w) P w K mg base N_price_of "price_of" (defScope (top 39)) f cdv A outer s H E) Y (defBody (top 39)) (t_price_of K) :=
  (pssd_cons (psd_if (ptd_not (ptd_tru (pq (pd_call c F_are_fair (pad_cons (pd_var (i := 0)) pad_nil)))))
  (pssd_one (psd_ret pd_non))
  pssd_nil)
  (pssd_cons (psd_set (i := 1) (pd_ix (pq (pd_attr (C := He.ga K "Turns") (ks := ks_Turns) (j := 1) (pd_var (i := 0)) G.cls_Turns (G.noat_Turns _ (by decide)))) pd_int) c.nd)
  (pssd_cons (psd_for owns_def c.calm (pid_tup (pd_attr (C := He.ga K "Turns") (ks := ks_Turns) (j := 1) (pd_var (i := 0)) G.cls_Turns (G.noat_Turns _ (by decide)))) (pgd_name c.nd (i := 2))
  (pssd_one (psd_set (i := 1) (pd_if (ptd_cmp opb_gt (pq (pd_op opd_mul (pq (pd_ix (pq (pd_var (i := 2))) pd_int)) (pq (pd_ix (pq (pd_var (i := 1))) pd_int)))) (pq (pd_op opd_mul (pq (pd_ix (pq (pd_var (i := 1))) pd_int)) (pq (pd_ix (pq (pd_var (i := 2))) pd_int)))) (nomark _)) (pd_var (i := 2)) (pd_var (i := 1))) c.nd)))
  (pssd_one (psd_ret (pd_tup (pad_cons (pd_ix (pq (pd_var (i := 1))) pd_int) (pad_cons (pd_ix (pq (pd_var (i := 1))) pd_int) pad_nil))))))))
theorem d_share_at {P : Program} {w : World} {K : PySem.W.Frag} {mg : Str → Option Value} {base : Heap} (G : Facts K mg) (X_Unknown : ExAt P w K mg base 1 "Unknown" (He.ga K "Unknown") ks_Unknown 1) {f : Addr} (cdv : Value) (A : Around) (outer : List Env) (s : Shared) (H : Hp) (E : XK) (Y : Yx) (c : Cok 2 (cxOf (L2.CX P w) P w K mg base N_share_at "share_at" (defScope (top 41)) f cdv A outer s H E) Y) :
  PSsd (cxOf (L2.CX P w) P w K mg base N_share_at "share_at" (defScope (top 41)) f cdv A outer s H E) Y (defBody (top 41)) (t_share_at K) :=
  (pssd_cons (psd_if (ptd_cmp (opb_notIn c.ru) (pq (pd_var (i := 1))) (pq (pd_un (pd_attr (C := He.ga K "Turns") (ks := ks_Turns) (j := 2) (pd_var (i := 0)) G.cls_Turns (G.noat_Turns _ (by decide))))) (by with_unfolding_all rfl))
  (pssd_one (psd_raise c X_Unknown (pad_cons (pd_var (i := 1)) pad_nil)))
  pssd_nil)
  (pssd_one (psd_ret (pd_slice (pq (pd_ix (pq (pd_attr (C := He.ga K "Turns") (ks := ks_Turns) (j := 1) (pd_var (i := 0)) G.cls_Turns (G.noat_Turns _ (by decide)))) (pd_idxN c.ru (pq (pd_attr (C := He.ga K "Turns") (ks := ks_Turns) (j := 2) (pd_var (i := 0)) G.cls_Turns (G.noat_Turns _ (by decide)))) (pq (pd_var (i := 1)))))) (pod_some pd_int) pod_none))))
theorem d_most_for {P : Program} {w : World} {K : PySem.W.Frag} {mg : Str → Option Value} {base : Heap} (G : Facts K mg) (X_BadNumber : ExAt P w K mg base 1 "BadNumber" (He.ga K "BadNumber") ks_BadNumber 1) (F_is_row : FnAt P w K mg base 1 "is_row" 2 (m_is_row K)) (F_is_within : FnAt P w K mg base 2 "is_within" 3 (m_is_within K)) {f : Addr} (cdv : Value) (A : Around) (outer : List Env) (s : Shared) (H : Hp) (E : XK) (Y : Yx) (c : Cok 2 (cxOf (L2.CX P w) P w K mg base N_most_for "most_for" (defScope (top 42)) f cdv A outer s H E) Y) :
  PSsd (cxOf (L2.CX P w) P w K mg base N_most_for "most_for" (defScope (top 42)) f cdv A outer s H E) Y (defBody (top 42)) (t_most_for K) :=
  (pssd_cons (psd_if (pwd_pt (pwd_or (ptd_not (ptd_tru (pq (pd_call c F_is_row (pad_cons (pd_var (i := 1)) (pad_cons pd_int pad_nil)))))) (pwd_or (ptd_not (ptd_tru (pq (pd_call c F_is_within (pad_cons (pd_ix (pq (pd_var (i := 1))) pd_int) (pad_cons pd_int (pad_cons (pd_globInt rfl G.c_MOST_PRICE) pad_nil))))))) (pwd_or1 (ptd_not (ptd_tru (pq (pd_call c F_is_within (pad_cons (pd_ix (pq (pd_var (i := 1))) pd_int) (pad_cons pd_int (pad_cons (pd_globInt rfl G.c_MOST_PRICE) pad_nil)))))))))))
  (pssd_one (psd_raise c X_BadNumber (pad_cons (pd_var (i := 1)) pad_nil)))
  pssd_nil)
  (pssd_one (psd_ret (pd_t1 c1_tup (G.nb _ (by decide)) bb_tuple (pq (pd_new (pf_lc c.calm c.nd (pid_tup (pd_attr (C := He.ga K "Turns") (ks := ks_Turns) (j := 1) (pd_var (i := 0)) G.cls_Turns (G.noat_Turns _ (by decide)))) (blkOk_by (own := [("row", 2)]) (by kernel_rfl)) (fun _ _ _ _ _ => (pgd_name c.blk.nd (i := 2))) (fun _ _ _ _ _ => ptsd_nil) (fun _ _ _ _ _ => (pd_op opd_fdv (pq (pd_op opd_mul (pq (pd_ix (pq (pd_var (i := 1))) pd_int)) (pq (pd_ix (pq (pd_var (i := 2))) pd_int)))) (pq (pd_ix (pq (pd_var (i := 1))) pd_int)))))))))))
theorem d_turns_paper {P : Program} {w : World} {K : PySem.W.Frag} {mg : Str → Option Value} {base : Heap} (G : Facts K mg) (F_price_of : FnAt P w K mg base 5 "price_of" 1 (m_price_of K)) (F_envy_of : FnAt P w K mg base 3 "envy_of" 1 (m_envy_of K)) {f : Addr} (cdv : Value) (A : Around) (outer : List Env) (s : Shared) (H : Hp) (E : XK) (Y : Yx) (c : Cok 5 (cxOf (L2.CX P w) P w K mg base N_turns_paper "turns_paper" (defScope (top 43)) f cdv A outer s H E) Y) :
  PSsd (cxOf (L2.CX P w) P w K mg base N_turns_paper "turns_paper" (defScope (top 43)) f cdv A outer s H E) Y (defBody (top 43)) (t_turns_paper K) :=
  (pssd_cons (psd_set (i := 1) (pd_call c F_price_of (pad_cons (pd_var (i := 0)) pad_nil)) c.nd)
  (pssd_one (psd_ret (pd_if (ptd_cmp opb_isNot (pq (pd_var (i := 1))) (pq pd_non) (nomark _)) (pd_tup (pad_cons pd_bl (pad_cons (pd_var (i := 1)) pad_nil))) (pd_tup (pad_cons pd_bl (pad_cons (pd_call c F_envy_of (pad_cons (pd_var (i := 0)) pad_nil)) pad_nil)))))))
theorem d_is_turns_paper {P : Program} {w : World} {K : PySem.W.Frag} {mg : Str → Option Value} {base : Heap} (G : Facts K mg) (F_is_price : FnAt P w K mg base 3 "is_price" 2 (m_is_price K)) (F_is_envy : FnAt P w K mg base 2 "is_envy" 2 (m_is_envy K)) (F_is_row : FnAt P w K mg base 1 "is_row" 2 (m_is_row K)) {f : Addr} (cdv : Value) (A : Around) (outer : List Env) (s : Shared) (H : Hp) (E : XK) (Y : Yx) (c : Cok 3 (cxOf (L2.CX P w) P w K mg base N_is_turns_paper "is_turns_paper" (defScope (top 44)) f cdv A outer s H E) Y) :
  PSsd (cxOf (L2.CX P w) P w K mg base N_is_turns_paper "is_turns_paper" (defScope (top 44)) f cdv A outer s H E) Y (defBody (top 44)) (t_is_turns_paper K) :=
  (pssd_cons (psd_if (pwd_pt (pwd_or (ptd_not (ptd_tru (pq (pd_call c F_is_row (pad_cons (pd_var (i := 1)) (pad_cons pd_int pad_nil)))))) (pwd_or1 (ptd_not (ptd_tru (pq (pd_isi (T := "bool") (G.nb _ (by decide)) (G.nb _ (by decide)) (pq (pd_ix (pq (pd_var (i := 1))) pd_int)) bb_bool)))))))
  (pssd_one (psd_ret pd_bl))
  pssd_nil)
  (pssd_one (psd_ret (pd_if (ptd_tru (pq (pd_ix (pq (pd_var (i := 1))) pd_int))) (pd_call c F_is_price (pad_cons (pd_var (i := 0)) (pad_cons (pd_ix (pq (pd_var (i := 1))) pd_int) pad_nil))) (pd_call c F_is_envy (pad_cons (pd_var (i := 0)) (pad_cons (pd_ix (pq (pd_var (i := 1))) pd_int) pad_nil)))))))
theorem d__law_pick {P : Program} {w : World} {K : PySem.W.Frag} {mg : Str → Option Value} {base : Heap} (G : Facts K mg) (F__law_taken : FnAt P w K mg base 1 "_law_taken" 2 (m__law_taken K)) {f : Addr} (cdv : Value) (A : Around) (outer : List Env) (s : Shared) (H : Hp) (E : XK) (Y : Yx) (c : Cok 1 (cxOf (L2.CX P w) P w K mg base N__law_pick "_law_pick" (defScope (top 47)) f cdv A outer s H E) Y) :
  PSsd (cxOf (L2.CX P w) P w K mg base N__law_pick "_law_pick" (defScope (top 47)) f cdv A outer s H E) Y (defBody (top 47)) (t__law_pick K) :=
  (pssd_one (psd_ret (pd_ix (pq (pd_var (i := 1))) (pd_call c F__law_taken (pad_cons (pd_var (i := 0)) (pad_cons (pd_b1 c1_len (G.nb _ (by decide)) bb_len (pq (pd_var (i := 1)))) pad_nil))))))
theorem d__law_alike {P : Program} {w : World} {K : PySem.W.Frag} {mg : Str → Option Value} {base : Heap} (G : Facts K mg) {kk : Nat} {m__law_alike : List D → M} (F__law_alike : FnAt P w K mg base kk "_law_alike" 2 m__law_alike) {f : Addr} (cdv : Value) (A : Around) (outer : List Env) (s : Shared) (H : Hp) (E : XK) (Y : Yx) (c : Cok kk (cxOf (L2.CX P w) P w K mg base N__law_alike "_law_alike" (defScope (top 48)) f cdv A outer s H E) Y) :
  PSsd (cxOf (L2.CX P w) P w K mg base N__law_alike "_law_alike" (defScope (top 48)) f cdv A outer s H E) Y (defBody (top 48)) (t__law_alike K m__law_alike) :=
  (pssd_cons (psd_if (ptd_tru (pq (pd_isi2 (T := "tuple") (T2 := "list") (G.nb _ (by decide)) (G.nb _ (by decide)) (G.nb _ (by decide)) (pq (pd_var (i := 1))) bb_tuple bb_list)))
  (pssd_cons (psd_if (pwd_pt (pwd_or (ptd_not (ptd_tru (pq (pd_isi2 (T := "tuple") (T2 := "list") (G.nb _ (by decide)) (G.nb _ (by decide)) (G.nb _ (by decide)) (pq (pd_var (i := 0))) bb_tuple bb_list)))) (pwd_or1 (ptd_cmp (opb_ne c.ru) (pq (pd_isi (T := "list") (G.nb _ (by decide)) (G.nb _ (by decide)) (pq (pd_var (i := 0))) bb_list)) (pq (pd_isi (T := "list") (G.nb _ (by decide)) (G.nb _ (by decide)) (pq (pd_var (i := 1))) bb_list)) (nomark _)))))
  (pssd_one (psd_ret pd_bl))
  pssd_nil)
  (pssd_cons (psd_if (ptd_cmp (opb_ne c.ru) (pq (pd_b1 c1_len (G.nb _ (by decide)) bb_len (pq (pd_var (i := 0))))) (pq (pd_b1 c1_len (G.nb _ (by decide)) bb_len (pq (pd_var (i := 1))))) (nomark _))
  (pssd_one (psd_ret pd_bl))
  pssd_nil)
  (pssd_one (psd_ret (pd_cmp (opb_eq c.ru) (pq (pd_new (pf_lc c.calm c.nd (pid_range1 (G.nb _ (by decide)) (pd_b1 c1_len (G.nb _ (by decide)) bb_len (pq (pd_var (i := 1))))) (blkOk_by (own := [("k", 2)]) (by kernel_rfl)) (fun _ _ _ _ _ => (pgd_name c.blk.nd (i := 2))) (fun _ _ _ _ _ => (ptsd_one (ptd_not (ptd_tru (pq (pd_call c.blk F__law_alike (pad_cons (pd_ix (pq (pd_var (i := 0))) (pd_var (i := 2))) (pad_cons (pd_ix (pq (pd_var (i := 1))) (pd_var (i := 2))) pad_nil)) (Nat.le_refl _))))))) (fun _ _ _ _ _ => (pd_var (i := 2)))))) (pq (pd_new (pf_lst pad_nil))) (nomark _))))))
  pssd_nil)
  (pssd_cons (psd_if (pwd_pt (pwd_or (ptd_cmp opb_is (pq (pd_var (i := 1))) (pq pd_non) (nomark _)) (pwd_or1 (ptd_tru (pq (pd_isi (T := "str") (G.nb _ (by decide)) (G.nb _ (by decide)) (pq (pd_var (i := 1))) bb_str))))))
  (pssd_one (psd_ret (pd_and (pd_cmp (opb_eq c.ru) (pq (pd_var (i := 0))) (pq (pd_var (i := 1))) (nomark _)) (pd_one (pd_cmp (opb_eq c.ru) (pq (pd_isi (T := "str") (G.nb _ (by decide)) (G.nb _ (by decide)) (pq (pd_var (i := 0))) bb_str)) (pq (pd_isi (T := "str") (G.nb _ (by decide)) (G.nb _ (by decide)) (pq (pd_var (i := 1))) bb_str)) (nomark _))))))
  pssd_nil)
  (pssd_one (psd_ret (pd_and (pd_isi (T := "int") (G.nb _ (by decide)) (G.nb _ (by decide)) (pq (pd_var (i := 0))) bb_int) (pd_and (pd_cmp (opb_eq c.ru) (pq (pd_isi (T := "bool") (G.nb _ (by decide)) (G.nb _ (by decide)) (pq (pd_var (i := 0))) bb_bool)) (pq (pd_isi (T := "bool") (G.nb _ (by decide)) (G.nb _ (by decide)) (pq (pd_var (i := 1))) bb_bool)) (nomark _)) (pd_one (pd_cmp (opb_eq c.ru) (pq (pd_var (i := 0))) (pq (pd_var (i := 1))) (nomark _)))))))))
theorem d__law_names {P : Program} {w : World} {K : PySem.W.Frag} {mg : Str → Option Value} {base : Heap} (G : Facts K mg) (F__law_taken : FnAt P w K mg base 1 "_law_taken" 2 (m__law_taken K)) {f : Addr} (cdv : Value) (A : Around) (outer : List Env) (s : Shared) (H : Hp) (E : XK) (Y : Yx) (c : Cok 1 (cxOf (L2.CX P w) P w K mg base N__law_names "_law_names" (defScope (top 50)) f cdv A outer s H E) Y) :
  PSsd (cxOf (L2.CX P w) P w K mg base N__law_names "_law_names" (defScope (top 50)) f cdv A outer s H E) Y (defBody (top 50)) (t__law_names K) :=
  (pssd_cons (psd_set (i := 2) pd_str c.nd)
  (pssd_cons (psd_par (i := 3) (j := 4) c.calm c.nd (psl_dat (pd_call c F__law_taken (pad_cons (pd_var (i := 0)) (pad_cons pd_int pad_nil))) (psl_own (pf_lst pad_nil) psl_nil)))
  (pssd_cons (psd_set (i := 5) (pd_op opd_mul (pq (pd_ix (pq (pd_var (i := 2))) (pd_call c F__law_taken (pad_cons (pd_var (i := 0)) (pad_cons pd_int pad_nil))))) (pq (pd_call c F__law_taken (pad_cons (pd_var (i := 0)) (pad_cons pd_int pad_nil))))) c.nd)
  (pssd_cons (psd_set (i := 6) (pd_op opd_mul (pq (pd_ix (pq (pd_var (i := 2))) (pd_call c F__law_taken (pad_cons (pd_var (i := 0)) (pad_cons pd_int pad_nil))))) (pq (pd_call c F__law_taken (pad_cons (pd_var (i := 0)) (pad_cons pd_int pad_nil))))) c.nd)
  (pssd_cons (psd_set (i := 7) (pd_call c F__law_taken (pad_cons (pd_var (i := 0)) (pad_cons pd_int pad_nil))) c.nd)
  (pssd_cons (psd_for owns_def c.calm (pid_range1 (G.nb _ (by decide)) (pd_var (i := 1))) (pgd_name c.nd (i := 8))
  (pssd_cons (psd_set (i := 9) (pd_ix (pq (pd_var (i := 2))) (pd_op opd_mod (pq (pd_t1 c1_int (G.nb _ (by decide)) bb_int (pq (pd_op opd_add (pq (pd_var (i := 3))) (pq (pd_op opd_mul (pq pd_int) (pq (pd_var (i := 8))))))))) (pq pd_int))) c.nd)
  (pssd_one (psd_app (i := 4) (pd_if (ptd_cmp (opb_eq c.ru) (pq (pd_var (i := 7))) (pq pd_int) (nomark _)) (pd_op opd_add (pq (pd_op opd_add (pq (pd_var (i := 5))) (pq (pd_var (i := 9))))) (pq (pd_var (i := 6)))) (pd_op opd_add (pq (pd_var (i := 9))) (pq (pd_op opd_mul (pq (pd_ix (pq (pd_var (i := 2))) (pd_call c F__law_taken (pad_cons (pd_var (i := 0)) (pad_cons pd_int pad_nil))))) (pq (pd_call c F__law_taken (pad_cons (pd_var (i := 0)) (pad_cons pd_int pad_nil))))))))))))
  (pssd_one (psd_retO (i := 4)))))))))
theorem d__law_fresh {P : Program} {w : World} {K : PySem.W.Frag} {mg : Str → Option Value} {base : Heap} (G : Facts K mg)  {f : Addr} (cdv : Value) (A : Around) (outer : List Env) (s : Shared) (H : Hp) (E : XK) (Y : Yx) (c : Cok 0 (cxOf (L2.CX P w) P w K mg base N__law_fresh "_law_fresh" (defScope (top 51)) f cdv A outer s H E) Y) :
  PSsd (cxOf (L2.CX P w) P w K mg base N__law_fresh "_law_fresh" (defScope (top 51)) f cdv A outer s H E) Y (defBody (top 51)) (t__law_fresh K) :=
  (pssd_one (psd_ret (pd_ix (pq (pd_new (pf_lc c.calm c.nd (pid_str pd_str) (blkOk_by (own := [("sign", 1)]) (by kernel_rfl)) (fun _ _ _ _ _ => (pgd_name c.blk.nd (i := 1))) (fun _ _ _ _ _ => (ptsd_one (ptd_cmp (opb_notIn c.blk.ru) (pq (pd_op opd_mul (pq (pd_var (i := 1))) (pq pd_int))) (pq (pd_var (i := 0))) (by with_unfolding_all rfl)))) (fun _ _ _ _ _ => (pd_op opd_mul (pq (pd_var (i := 1))) (pq pd_int)))))) pd_int)))
theorem d__law_spoiled {P : Program} {w : World} {K : PySem.W.Frag} {mg : Str → Option Value} {base : Heap} (G : Facts K mg) {kk : Nat} (hk : 2 ≤ kk) (F__law_taken : FnAt P w K mg base 1 "_law_taken" 2 (m__law_taken K)) (F__law_pick : FnAt P w K mg base 2 "_law_pick" 2 (m__law_pick K)) {m__law_spoiled : List D → M} (F__law_spoiled : FnAt P w K mg base kk "_law_spoiled" 2 m__law_spoiled) {f : Addr} (cdv : Value) (A : Around) (outer : List Env) (s : Shared) (H : Hp) (E : XK) (Y : Yx) (c : Cok kk (cxOf (L2.CX P w) P w K mg base N__law_spoiled "_law_spoiled" (defScope (top 54)) f cdv A outer s H E) Y) :
  PSsd (cxOf (L2.CX P w) P w K mg base N__law_spoiled "_law_spoiled" (defScope (top 54)) f cdv A outer s H E) Y (defBody (top 54)) (t__law_spoiled K m__law_spoiled) :=
  (pssd_cons (psd_if (ptd_not (ptd_tru (pq (pd_isi (T := "tuple") (G.nb _ (by decide)) (G.nb _ (by decide)) (pq (pd_var (i := 1))) bb_tuple))))
  (pssd_one (psd_ret (pd_if (ptd_tru (pq (pd_isi (T := "int") (G.nb _ (by decide)) (G.nb _ (by decide)) (pq (pd_var (i := 1))) bb_int))) (pd_call (hj := by omega) c F__law_pick (pad_cons (pd_var (i := 0)) (pad_cons (pd_new (pf_lst (pad_cons (pd_op opd_add (pq (pd_var (i := 1))) (pq pd_int)) (pad_cons (pd_op opd_sub (pq (pd_var (i := 1))) (pq pd_int)) (pad_cons pd_int (pad_cons pd_non (pad_cons pd_bl (pad_cons (pd_new (pf_lst (pad_cons (pd_var (i := 1)) pad_nil))) (pad_cons (pd_neg pd_int) pad_nil))))))))) pad_nil))) (pd_call (hj := by omega) c F__law_pick (pad_cons (pd_var (i := 0)) (pad_cons (pd_new (pf_lst (pad_cons pd_non (pad_cons pd_str (pad_cons pd_str (pad_cons pd_int (pad_cons (pd_var (i := 1)) pad_nil))))))) pad_nil))))))
  pssd_nil)
  (pssd_cons (psd_if (pwd_pt (pwd_or (ptd_cmp (opb_eq c.ru) (pq (pd_b1 c1_len (G.nb _ (by decide)) bb_len (pq (pd_var (i := 1))))) (pq pd_int) (nomark _)) (pwd_or1 (ptd_cmp (opb_eq c.ru) (pq (pd_call (hj := by omega) c F__law_taken (pad_cons (pd_var (i := 0)) (pad_cons pd_int pad_nil)))) (pq pd_int) (nomark _)))))
  (pssd_one (psd_ret (pd_call (hj := by omega) c F__law_pick (pad_cons (pd_var (i := 0)) (pad_cons (pd_new (pf_lst (pad_cons (pd_op opd_add (pq (pd_var (i := 1))) (pq (pd_tup (pad_cons pd_int pad_nil)))) (pad_cons (pd_slice (pq (pd_var (i := 1))) (pod_some pd_int) pod_none) (pad_cons (pd_slice (pq (pd_var (i := 1))) pod_none (pod_some (pd_neg pd_int))) (pad_cons (pd_new (pf_t1 c1_list (G.nb _ (by decide)) bb_list (pq (pd_var (i := 1))))) (pad_cons (pd_op opd_add (pq (pd_var (i := 1))) (pq (pd_slice (pq (pd_var (i := 1))) pod_none (pod_some pd_int)))) (pad_cons (pd_rev (pd_var (i := 1))) (pad_cons (pd_tup pad_nil) pad_nil))))))))) pad_nil)))))
  pssd_nil)
  (pssd_cons (psd_set (i := 2) (pd_call (hj := by omega) c F__law_taken (pad_cons (pd_var (i := 0)) (pad_cons (pd_b1 c1_len (G.nb _ (by decide)) bb_len (pq (pd_var (i := 1)))) pad_nil))) c.nd)
  (pssd_one (psd_ret (pd_op opd_add (pq (pd_op opd_add (pq (pd_slice (pq (pd_var (i := 1))) pod_none (pod_some (pd_var (i := 2))))) (pq (pd_tup (pad_cons (pd_call c F__law_spoiled (pad_cons (pd_var (i := 0)) (pad_cons (pd_ix (pq (pd_var (i := 1))) (pd_var (i := 2))) pad_nil)) (Nat.le_refl _)) pad_nil))))) (pq (pd_slice (pq (pd_var (i := 1))) (pod_some (pd_op opd_add (pq (pd_var (i := 2))) (pq pd_int))) pod_none))))))))
theorem d__law_at {P : Program} {w : World} {K : PySem.W.Frag} {mg : Str → Option Value} {base : Heap} (G : Facts K mg)  {f : Addr} (cdv : Value) (A : Around) (outer : List Env) (s : Shared) (H : Hp) (E : XK) (Y : Yx) (c : Cok 0 (cxOf (L2.CX P w) P w K mg base N__law_at "_law_at" (defScope (top 55)) f cdv A outer s H E) Y) :
  PSsd (cxOf (L2.CX P w) P w K mg base N__law_at "_law_at" (defScope (top 55)) f cdv A outer s H E) Y (defBody (top 55)) (t__law_at K) :=
  (pssd_one (psd_ret (pd_op opd_add (pq (pd_op opd_add (pq (pd_slice (pq (pd_var (i := 0))) pod_none (pod_some (pd_op opd_sub (pq (pd_var (i := 1))) (pq pd_int))))) (pq (pd_tup (pad_cons (pd_var (i := 2)) pad_nil))))) (pq (pd_slice (pq (pd_var (i := 0))) (pod_some (pd_var (i := 1))) pod_none)))))
theorem d__law_flat {P : Program} {w : World} {K : PySem.W.Frag} {mg : Str → Option Value} {base : Heap} (G : Facts K mg)  {f : Addr} (cdv : Value) (A : Around) (outer : List Env) (s : Shared) (H : Hp) (E : XK) (Y : Yx) (c : Cok 0 (cxOf (L2.CX P w) P w K mg base N__law_flat "_law_flat" (defScope (top 56)) f cdv A outer s H E) Y) :
  PSsd (cxOf (L2.CX P w) P w K mg base N__law_flat "_law_flat" (defScope (top 56)) f cdv A outer s H E) Y (defBody (top 56)) (t__law_flat K) :=
  (pssd_cons (psd_set (i := 1) (pd_new (pf_lst pad_nil)) c.nd)
  (pssd_cons (psd_for owns_def c.calm (pid_list (pd_var (i := 0))) (pgd_name c.nd (i := 2))
  (pssd_one (psd_set (i := 1) (pd_op opd_add (pq (pd_var (i := 1))) (pq (pd_new (pf_t1 c1_list (G.nb _ (by decide)) bb_list (pq (pd_var (i := 2))))))) c.nd)))
  (pssd_one (psd_ret (pd_var (i := 1))))))
theorem d__law_whole {P : Program} {w : World} {K : PySem.W.Frag} {mg : Str → Option Value} {base : Heap} (G : Facts K mg)  {f : Addr} (cdv : Value) (A : Around) (outer : List Env) (s : Shared) (H : Hp) (E : XK) (Y : Yx) (c : Cok 0 (cxOf (L2.CX P w) P w K mg base N__law_whole "_law_whole" (defScope (top 57)) f cdv A outer s H E) Y) :
  PSsd (cxOf (L2.CX P w) P w K mg base N__law_whole "_law_whole" (defScope (top 57)) f cdv A outer s H E) Y (defBody (top 57)) (t__law_whole K) :=
  (pssd_one (psd_ret (pd_and (pd_isi (T := "int") (G.nb _ (by decide)) (G.nb _ (by decide)) (pq (pd_var (i := 0))) bb_int) (pd_and (pd_not (pd_isi (T := "bool") (G.nb _ (by decide)) (G.nb _ (by decide)) (pq (pd_var (i := 0))) bb_bool)) (pd_one (pd_chain opb_le opb_le (pq (pd_var (i := 1))) (pq (pd_var (i := 0))) (pq (pd_var (i := 2)))))))))
theorem d__law_in_turn {P : Program} {w : World} {K : PySem.W.Frag} {mg : Str → Option Value} {base : Heap} (G : Facts K mg)  {f : Addr} (cdv : Value) (A : Around) (outer : List Env) (s : Shared) (H : Hp) (E : XK) (Y : Yx) (c : Cok 0 (cxOf (L2.CX P w) P w K mg base N__law_in_turn "_law_in_turn" (defScope (top 59)) f cdv A outer s H E) Y) :
  PSsd (cxOf (L2.CX P w) P w K mg base N__law_in_turn "_law_in_turn" (defScope (top 59)) f cdv A outer s H E) Y (defBody (top 59)) (t__law_in_turn K) :=
  (pssd_cons (psd_own (i := 2) (pf_lc c.calm c.nd (pid_list (pd_var (i := 0))) (blkOk_by (own := [("weight", 3)]) (by kernel_rfl)) (fun _ _ _ _ _ => (pgd_name c.blk.nd (i := 3))) (fun _ _ _ _ _ => ptsd_nil) (fun _ _ _ _ _ => pd_int)) c.nd)
  (pssd_cons (psd_for owns_def c.calm (pid_range1 (G.nb _ (by decide)) (pd_var (i := 1))) (pgd_name c.nd (i := 4))
  (pssd_cons (psd_setLc (i := 5) c.calm c.nd (pid_range1 (G.nb _ (by decide)) (pd_b1 c1_len (G.nb _ (by decide)) bb_len (pq (pd_var (i := 0))))) (blkOk_by (own := [("k", 6)]) (by kernel_rfl)) (fun _ _ _ _ _ => (pgd_name c.blk.nd (i := 6))) (fun _ _ _ _ _ => (ptsd_one (ptd_cmp (opb_eq c.blk.ru) (pq (pd_new (pf_lc c.blk.calm c.blk.nd (pid_range1 (G.nb _ (by decide)) (pd_b1 c1_len (G.nb _ (by decide)) bb_len (pq (pd_var (i := 0))))) (blkOk_by (own := [("j", 7)]) (by kernel_rfl)) (fun _ _ _ _ _ => (pgd_name c.blk.blk.nd (i := 7))) (fun _ _ _ _ _ => (ptsd_one (ptd_cmp opb_lt (pq (pd_op opd_mul (pq (pd_op opd_add (pq (pd_ix (pq_own (i := 2)) (pd_var (i := 7)))) (pq pd_int))) (pq (pd_ix (pq (pd_var (i := 0))) (pd_var (i := 6)))))) (pq (pd_op opd_mul (pq (pd_op opd_add (pq (pd_ix (pq_own (i := 2)) (pd_var (i := 6)))) (pq pd_int))) (pq (pd_ix (pq (pd_var (i := 0))) (pd_var (i := 7)))))) (nomark _)))) (fun _ _ _ _ _ => (pd_var (i := 7)))))) (pq (pd_new (pf_lst pad_nil))) (nomark _)))) (fun _ _ _ _ _ => (pd_var (i := 6))))
  (pssd_one (psd_sto (i := 2) (pd_op opd_add (pq (pd_ix (pq_own (i := 2)) (pd_ix (pq (pd_var (i := 5))) pd_int))) (pq pd_int)) (pd_ix (pq (pd_var (i := 5))) pd_int)))))
  (pssd_one (psd_retO (i := 2)))))
theorem d__law_turns {P : Program} {w : World} {K : PySem.W.Frag} {mg : Str → Option Value} {base : Heap} (G : Facts K mg) (F__law_names : FnAt P w K mg base 3 "_law_names" 2 (m__law_names K)) (F__law_taken : FnAt P w K mg base 1 "_law_taken" 2 (m__law_taken K)) (F__law_in_turn : FnAtF P w K mg base 1 "_law_in_turn" 2 (m__law_in_turn K)) (F__law_pick : FnAt P w K mg base 2 "_law_pick" 2 (m__law_pick K)) {f : Addr} (cdv : Value) (A : Around) (outer : List Env) (s : Shared) (H : Hp) (E : XK) (Y : Yx) (c : Cok 3 (cxOf (L2.CX P w) P w K mg base N__law_turns "_law_turns" (defScope (top 58)) f cdv A outer s H E) Y) :
  PSsd (cxOf (L2.CX P w) P w K mg base N__law_turns "_law_turns" (defScope (top 58)) f cdv A outer s H E) Y (defBody (top 58)) (t__law_turns K) :=
  (pssd_cons (psd_set (i := 1) (pd_call c F__law_names (pad_cons (pd_var (i := 0)) (pad_cons (pd_op opd_add (pq pd_int) (pq (pd_call c F__law_taken (pad_cons (pd_var (i := 0)) (pad_cons pd_int pad_nil))))) pad_nil))) c.nd)
  (pssd_cons (psd_set (i := 2) (pd_new (pf_lc c.calm c.nd (pid_list (pd_var (i := 1))) (blkOk_by (own := [("name", 3)]) (by kernel_rfl)) (fun _ _ _ _ _ => (pgd_name c.blk.nd (i := 3))) (fun _ _ _ _ _ => ptsd_nil) (fun _ _ _ _ _ => (pd_op opd_add (pq pd_int) (pq (pd_call c.blk F__law_taken (pad_cons (pd_var (i := 0)) (pad_cons (pd_call c.blk F__law_pick (pad_cons (pd_var (i := 0)) (pad_cons (pd_new (pf_lst (pad_cons pd_int (pad_cons pd_int (pad_cons pd_int pad_nil))))) pad_nil))) pad_nil)))))))) c.nd)
  (pssd_cons (psd_parT c.calm (psl_own (pf_lc c.calm c.nd (pid_list (pd_var (i := 1))) (blkOk_by (own := [("name", 3)]) (by kernel_rfl)) (fun _ _ _ _ _ => (pgd_name c.blk.nd (i := 3))) (fun _ _ _ _ _ => ptsd_nil) (fun _ _ _ _ _ => (pd_call c.blk F__law_taken (pad_cons (pd_var (i := 0)) (pad_cons pd_int pad_nil))))) (psl_dat (pd_call c F__law_taken (pad_cons (pd_var (i := 0)) (pad_cons pd_int pad_nil))) psl_nil)) (pgn_cons c.nd (i := 4) (pgn_cons c.nd (i := 5) pgn_nil)))
  (pssd_cons (psd_if (ptd_cmp opb_gt (pq (pd_var (i := 5))) (pq pd_int) (nomark _))
  (pssd_one (psd_own (i := 4) (pf_call c F__law_in_turn (pad_cons (pd_var (i := 2)) (pad_cons (pd_call c F__law_taken (pad_cons (pd_var (i := 0)) (pad_cons pd_int pad_nil))) pad_nil))) c.nd))
  pssd_nil)
  (pssd_cons (psd_if (ptd_cmp (opb_eq c.ru) (pq (pd_var (i := 5))) (pq pd_int) (nomark _))
  (pssd_one (psd_sto (i := 4) (pd_call c F__law_taken (pad_cons (pd_var (i := 0)) (pad_cons pd_int pad_nil))) (pd_call c F__law_taken (pad_cons (pd_var (i := 0)) (pad_cons (pd_b1 c1_len (G.nb _ (by decide)) bb_len (pq_own (i := 4))) pad_nil)))))
  pssd_nil)
  (pssd_one (psd_ret (pd_tup (pad_cons (pd_t1 c1_tup (G.nb _ (by decide)) bb_tuple (pq (pd_new (pf_lc c.calm c.nd (pid_range1 (G.nb _ (by decide)) (pd_b1 c1_len (G.nb _ (by decide)) bb_len (pq (pd_var (i := 1))))) (blkOk_by (own := [("k", 6)]) (by kernel_rfl)) (fun _ _ _ _ _ => (pgd_name c.blk.nd (i := 6))) (fun _ _ _ _ _ => ptsd_nil) (fun _ _ _ _ _ => (pd_tup (pad_cons (pd_ix (pq (pd_var (i := 1))) (pd_var (i := 6))) (pad_cons (pd_ix (pq (pd_var (i := 2))) (pd_var (i := 6))) (pad_cons (pd_ix (pq_own (i := 4)) (pd_var (i := 6))) pad_nil))))))))) pad_nil)))))))))
theorem d__law_envies {P : Program} {w : World} {K : PySem.W.Frag} {mg : Str → Option Value} {base : Heap} (G : Facts K mg) (F__law_flat : FnAt P w K mg base 1 "_law_flat" 1 (m__law_flat K)) {f : Addr} (cdv : Value) (A : Around) (outer : List Env) (s : Shared) (H : Hp) (E : XK) (Y : Yx) (c : Cok 1 (cxOf (L2.CX P w) P w K mg base N__law_envies "_law_envies" (defScope (top 60)) f cdv A outer s H E) Y) :
  PSsd (cxOf (L2.CX P w) P w K mg base N__law_envies "_law_envies" (defScope (top 60)) f cdv A outer s H E) Y (defBody (top 60)) (t__law_envies K) :=
  (pssd_cons (psd_set (i := 1) (pd_ix (pq (pd_var (i := 0))) pd_int) c.nd)
  (pssd_one (psd_ret (pd_call c F__law_flat (pad_cons (pd_new (pf_lc c.calm c.nd (pid_tup (pd_var (i := 1))) (blkOk_by (own := [("one", 3)]) (by kernel_rfl)) (fun _ _ _ _ _ => (pgd_name c.blk.nd (i := 3))) (fun _ _ _ _ _ => ptsd_nil) (fun _ _ _ _ _ => (pd_new (pf_lc c.blk.calm c.blk.nd (pid_tup (pd_var (i := 1))) (blkOk_by (own := [("other", 2)]) (by kernel_rfl)) (fun _ _ _ _ _ => (pgd_name c.blk.blk.nd (i := 2))) (fun _ _ _ _ _ => (ptsd_one (ptd_cmp opb_lt (pq (pd_op opd_mul (pq (pd_op opd_add (pq (pd_ix (pq (pd_var (i := 3))) pd_int)) (pq pd_int))) (pq (pd_ix (pq (pd_var (i := 2))) pd_int)))) (pq (pd_op opd_mul (pq (pd_ix (pq (pd_var (i := 2))) pd_int)) (pq (pd_ix (pq (pd_var (i := 3))) pd_int)))) (nomark _)))) (fun _ _ _ _ _ => (pd_tup (pad_cons (pd_ix (pq (pd_var (i := 3))) pd_int) (pad_cons (pd_ix (pq (pd_var (i := 2))) pd_int) pad_nil))))))))) pad_nil)))))
theorem d__law_priced {P : Program} {w : World} {K : PySem.W.Frag} {mg : Str → Option Value} {base : Heap} (G : Facts K mg) (F__law_whole : FnAt P w K mg base 1 "_law_whole" 3 (m__law_whole K)) {f : Addr} (cdv : Value) (A : Around) (outer : List Env) (s : Shared) (H : Hp) (E : XK) (Y : Yx) (c : Cok 1 (cxOf (L2.CX P w) P w K mg base N__law_priced "_law_priced" (defScope (top 61)) f cdv A outer s H E) Y) :
  PSsd (cxOf (L2.CX P w) P w K mg base N__law_priced "_law_priced" (defScope (top 61)) f cdv A outer s H E) Y (defBody (top 61)) (t__law_priced K) :=
  (pssd_cons (psd_if (pwd_pt (pwd_or (ptd_not (ptd_tru (pq (pd_isi (T := "tuple") (G.nb _ (by decide)) (G.nb _ (by decide)) (pq (pd_var (i := 1))) bb_tuple)))) (pwd_or (ptd_cmp (opb_ne c.ru) (pq (pd_b1 c1_len (G.nb _ (by decide)) bb_len (pq (pd_var (i := 1))))) (pq pd_int) (nomark _)) (pwd_or (ptd_not (ptd_tru (pq (pd_call c F__law_whole (pad_cons (pd_ix (pq (pd_var (i := 1))) pd_int) (pad_cons pd_int (pad_cons pd_int pad_nil))))))) (pwd_or1 (ptd_not (ptd_tru (pq (pd_call c F__law_whole (pad_cons (pd_ix (pq (pd_var (i := 1))) pd_int) (pad_cons pd_int (pad_cons pd_int pad_nil))))))))))))
  (pssd_one (psd_ret pd_bl))
  pssd_nil)
  (pssd_one (psd_ret (pd_cmp (opb_eq c.ru) (pq (pd_new (pf_lc c.calm c.nd (pid_tup (pd_ix (pq (pd_var (i := 0))) pd_int)) (blkOk_by (own := [("one", 2)]) (by kernel_rfl)) (fun _ _ _ _ _ => (pgd_name c.blk.nd (i := 2))) (fun _ _ _ _ _ => (ptsd_one (ptd_not (ptd_chain opb_le opb_le (pq (pd_op opd_mul (pq (pd_ix (pq (pd_var (i := 2))) pd_int)) (pq (pd_ix (pq (pd_var (i := 1))) pd_int)))) (pq (pd_op opd_mul (pq (pd_ix (pq (pd_var (i := 1))) pd_int)) (pq (pd_ix (pq (pd_var (i := 2))) pd_int)))) (pq (pd_op opd_mul (pq (pd_op opd_add (pq (pd_ix (pq (pd_var (i := 2))) pd_int)) (pq pd_int))) (pq (pd_ix (pq (pd_var (i := 1))) pd_int)))))))) (fun _ _ _ _ _ => (pd_var (i := 2)))))) (pq (pd_new (pf_lst pad_nil))) (nomark _)))))
theorem d_unfair_hours {P : Program} {w : World} {K : PySem.W.Frag} {mg : Str → Option Value} {base : Heap} (G : Facts K mg) (F_fair_hours : FnAt P w K mg base 1 "fair_hours" 1 (m_fair_hours K)) {f : Addr} (cdv : Value) (A : Around) (outer : List Env) (s : Shared) (H : Hp) (E : XK) (Y : Yx) (c : Cok 1 (cxOf (L2.CX P w) P w K mg base N_unfair_hours "unfair_hours" (defScope (top 40)) f cdv A outer s H E) Y) :
  PSsd (cxOf (L2.CX P w) P w K mg base N_unfair_hours "unfair_hours" (defScope (top 40)) f cdv A outer s H E) Y (defBody (top 40)) (t_unfair_hours K) :=
  (pssd_cons (psd_set (i := 1) (pd_new (pf_lzip c.calm (G.nb _ (by decide)) (G.nb _ (by decide)) (pd_attr (C := He.ga K "Turns") (ks := ks_Turns) (j := 1) (pd_var (i := 0)) G.cls_Turns (G.noat_Turns _ (by decide))) (pd_call c F_fair_hours (pad_cons (pd_var (i := 0)) pad_nil)))) c.nd)
  (pssd_one (psd_ret (pd_b1 (c1_sum c.calm) (G.nb _ (by decide)) bb_sum (pq (pd_new (pf_lc c.calm c.nd (pid_list (pd_var (i := 1))) (blkOk_by (own := [("row", 2), ("hours", 3)]) (by kernel_rfl)) (fun _ _ _ _ _ => (pgd_tup c.blk.calm (pgsd_cons (pgd_name c.blk.nd (i := 2)) (pgsd_cons (pgd_name c.blk.nd (i := 3)) pgsd_nil)))) (fun _ _ _ _ _ => ptsd_nil) (fun _ _ _ _ _ => (pd_b2 (c2_max c.blk.calm) (G.nb _ (by decide)) bb_max (pq pd_int) (pq (pd_op opd_sub (pq (pd_ix (pq (pd_var (i := 2))) pd_int)) (pq (pd_var (i := 3))))))))))))))
end K16
namespace WL
open L2 PySem PySem.Spec PyProof.Rows
/-! ### what the written part says, as Bools -/
theorem and2 {a b : Bool} (h : (a && b) = true) : a = true ∧ b = true := Bool.and_eq_true_iff.mp h
/-- an own error's class -/
def oexB (K : PySem.W.Frag) (C : Addr) : Bool := (match K.lookup C with
  | some ⟨.type "type", _, .cls ⟨_, _, .ref C' :: bm, _, _, true, _, _, _, _, false⟩, ⟨[_, _, _, _, some (.builtin n), _]⟩⟩ => decide (C' = C) && (decide (n = "ValueError.__new__") && PySem.HandSPX.refsVE bm)
  | _ => false) && (decide (PySem.W.findIn K (.ref C) "__setattr__" = some (some (.builtin "object.__setattr__"))) && (decide (PySem.W.subIn K (.ref C) (.type "BaseException") = some true) && (decide (PySem.W.typeIn K (.ref C) = some (.type "type")) && PySem.W.keepIn K (.ref C))))
theorem oexB_ok {K : PySem.W.Frag} {C : Addr} (h : oexB K C = true) : OexC K C := by
  obtain ⟨h0, h⟩ := and2 h
  obtain ⟨h1, h⟩ := and2 h
  obtain ⟨h2, h⟩ := and2 h
  obtain ⟨h3, h4⟩ := and2 h
  refine ⟨?_, of_decide_eq_true h1, of_decide_eq_true h2, of_decide_eq_true h3, h4⟩
  split at h0
  · rename_i e
    obtain ⟨a1, a2⟩ := and2 h0
    obtain ⟨a3, a4⟩ := and2 a2
    have b1 := of_decide_eq_true a1
    have b2 := of_decide_eq_true a3
    subst b1
    subst b2
    exact ⟨_, _, _, _, _, _, _, _, _, _, _, _, _, _, _, e, a4⟩
  · cases h0
/-- .. of an error in hand -/
def excB (K : PySem.W.Frag) (D : Addr) : Bool := decide (PySem.W.findIn K (.ref D) "__getattribute__" = some (some (.builtin "BaseException.__getattribute__"))) && (decide (PySem.W.findIn K (.ref D) "__getattr__" = some none) && (decide (PySem.W.subIn K (.ref D) (.type "BaseException") = some true) && (PySem.W.hasDictIn K D &&
  (decide (PySem.W.findIn K (.ref D) "__class__" = some (some (.builtin "object.__class__"))) && (decide (PySem.W.specialIn K (.builtin "object.__class__") "__get__" = some (some (.builtin "getset_descriptor.__get__"))) && (decide (PySem.W.takesIn K (.builtin "object.__class__") = some true) && decide (PySem.W.mroIn K D (.type "object") = some true)))))))
theorem excB_ok {K : PySem.W.Frag} {D : Addr} (h : excB K D = true) : L2.ExcC K D ∧ XfC K D := by
  obtain ⟨h1, h⟩ := and2 h
  obtain ⟨h2, h⟩ := and2 h
  obtain ⟨h3, h⟩ := and2 h
  obtain ⟨h4, h⟩ := and2 h
  obtain ⟨h5, h⟩ := and2 h
  obtain ⟨h6, h⟩ := and2 h
  obtain ⟨h7, h8⟩ := and2 h
  have e1 := of_decide_eq_true h1
  have e2 := of_decide_eq_true h2
  have e3 := of_decide_eq_true h3
  exact ⟨⟨e1, e2, e3, h4, of_decide_eq_true h5, of_decide_eq_true h6, of_decide_eq_true h7, of_decide_eq_true h8⟩, ⟨e1, e2, e3, h4⟩⟩
/-- an own class's instances -/
def insB (K : PySem.W.Frag) (C : Addr) : Bool := decide (PySem.W.findIn K (.ref C) "__class__" = some (some (.builtin "object.__class__"))) && (decide (PySem.W.specialIn K (.builtin "object.__class__") "__get__" = some (some (.builtin "getset_descriptor.__get__"))) &&
  (decide (PySem.W.takesIn K (.builtin "object.__class__") = some true) && (decide (PySem.W.mroIn K C (.type "object") = some true) && (decide (PySem.W.kitOne K (.ref C) (.ref C) = some true) && (plainTs.all fun T => decide (PySem.W.kitOne K (.type T) (.ref C) = some false))))))
theorem insB_ok {K : PySem.W.Frag} {C : Addr} (c : Cls K C) (h : insB K C = true) : C8.InsC K C ∧ ∀ T ∈ plainTs, PySem.W.kitOne K (.type T) (.ref C) = some false := by
  obtain ⟨h1, h⟩ := and2 h
  obtain ⟨h2, h⟩ := and2 h
  obtain ⟨h3, h⟩ := and2 h
  obtain ⟨h4, h⟩ := and2 h
  obtain ⟨h5, h6⟩ := and2 h
  exact ⟨⟨c, of_decide_eq_true h1, of_decide_eq_true h2, of_decide_eq_true h3, of_decide_eq_true h4, of_decide_eq_true h5⟩, fun T hT => of_decide_eq_true (List.all_eq_true.mp h6 T hT)⟩
def eqfB (K : PySem.W.Frag) (C : Addr) : Bool := plainTs.all fun T => PySem.W.notFirst K C (.type T)
/-- a tuple without dict -/
def ndtB (K : PySem.W.Frag) (a : Addr) : Bool := match K.lookup a with
  | some ⟨.type "tuple", none, _, _⟩ => true
  | _ => false
theorem ndtB_ok {K : PySem.W.Frag} {a : Addr} (h : ndtB K a = true) : ∃ o : Obj, K.lookup a = some o ∧ o.cls = .type "tuple" ∧ o.dict = none := by
  unfold ndtB at h
  split at h
  · rename_i e; exact ⟨_, e, rfl, rfl⟩
  · cases h
/-! ### an error's own __init__, which calls super().__init__ -/
structure SupX where
  cls : Str
  qual : Str
  params : Arguments
  body : List Stmt
  scope : Scope
abbrev FnS : Type := Option (Str × Str × Arguments × FuncBody × Scope × Addr × List Str × Addr)
def SupX.at_ (K : PySem.W.Frag) (d : SupX) : Addr := He.ma K (He.ga K d.cls) "__init__"
def supW (K : PySem.W.Frag) (d : SupX) : FnS := match K.lookup (d.at_ K) with
  | some ⟨_, _, .func fd, _⟩ => some (fd.name, fd.qualname, fd.params, fd.body, fd.scope, fd.globals, fd.closure.map (·.1), fd.builtins)
  | _ => none
def SupX.val (d : SupX) : FnS := some ("__init__", d.qual, d.params, .stmts d.body, d.scope, mainGlobals, ["__class__"], builtinsNs)
def fileB (K : PySem.W.Frag) (cd : Value) (f : Str) : Bool := match cd with
  | .ref c => (match K.lookup c with
    | some ⟨_, _, .fields vs, _⟩ => (match (vs[2]? : Option Value) with
      | some (.str g _) => f == g
      | _ => false)
    | _ => false)
  | _ => false
def cellB (K : PySem.W.Frag) (cl : List (Str × Addr)) (C : Addr) : Bool := match cl with
  | [q] => (match K.lookup q.2 with
    | some ⟨_, _, .cell (some (.ref D)), _⟩ => decide (D = C)
    | _ => false)
  | _ => false
def nonB : Value → Bool
  | .none => true
  | _ => false
theorem nonB_ok {v : Value} (h : nonB v = true) : v = .none := by
  cases v with
  | none => rfl
  | _ => cases h
theorem fileB_ok {K : PySem.W.Frag} {cd : Value} {f : Str} (h : fileB K cd f = true) : ∃ (c : Addr) (ccl : Value) (cdd : Option Addr) (vs : Array Value) (ccs : Array (Option Value)) (g : Str) (t : Tok), cd = .ref c ∧ K.lookup c = some ⟨ccl, cdd, .fields vs, ccs⟩ ∧ vs[2]? = some (.str g t) ∧ (f == g) = true := by
  unfold fileB at h
  split at h
  · rename_i c
    split at h
    · rename_i e
      split at h
      · rename_i e2
        exact ⟨c, _, _, _, _, _, _, rfl, e, e2, h⟩
      · cases h
    · cases h
  · cases h
theorem cellB_ok {K : PySem.W.Frag} {cl : List (Str × Addr)} {C : Addr} (h : cellB K cl C = true) : ∃ (q : Str × Addr) (a : Value) (b : Option Addr) (s : Array (Option Value)), cl = [q] ∧ K.lookup q.2 = some ⟨a, b, .cell (some (.ref C)), s⟩ := by
  unfold cellB at h
  split at h
  · rename_i q
    split at h
    · rename_i e
      have := of_decide_eq_true h
      subst this
      exact ⟨q, _, _, _, rfl, e⟩
    · cases h
  · cases h
def supF (file : Str) (K : PySem.W.Frag) (d : SupX) : Bool := match K.lookup (d.at_ K) with
  | some ⟨_, _, .func fd, _⟩ => PySem.W.codeIn K fd.code d.qual && (fileB K fd.code file && (cellB K fd.closure (He.ga K d.cls) && nonB fd.defaults))
  | _ => false
def supB (file : Str) (K : PySem.W.Frag) (d : SupX) : Bool := supF file K d && ((PySem.W.clsIn K (He.ga K d.cls)).isSome && (decide (PySem.W.mroIn K (He.ga K d.cls) (.ref (He.ga K d.cls)) = some true) && (decide (PySem.W.nsIn K cStatics "thirdparty.any" = some none) &&
  (decide (PySem.W.ks_superIn K (He.ga K d.cls) (He.ga K d.cls) "__init__" = some (some (.builtin "ValueError.__init__"))) && decide (PySem.W.subIn K (.ref (He.ga K d.cls)) (.type "ValueError") = some true)))))
theorem supD_of {P : Program} {K : PySem.W.Frag} {mg : Str → Option Value} {d : SupX} {file : Str} (ef : P.main.file = file) (e : supW K d = d.val) (c : supB file K d = true) (hs : mg "super" = none) (ht : (P.main.scope.names.lookup ("super" : Str)).isSome = false) :
    ∃ fd, SupD P K mg (He.ga K d.cls) (d.at_ K) d.qual d.params d.body d.scope fd ∧ fd.defaults = .none := by
  obtain ⟨c0, c⟩ := and2 c
  obtain ⟨c1, c⟩ := and2 c
  obtain ⟨c2, c⟩ := and2 c
  obtain ⟨c3, c⟩ := and2 c
  obtain ⟨c4, c5⟩ := and2 c
  unfold supF at c0
  unfold supW at e
  cases q : K.lookup (d.at_ K) with
  | none =>
    rw [q] at c0
    cases c0
  | some o =>
    obtain ⟨oc, od, dt, osl⟩ := o
    rw [q] at c0 e
    cases dt with
    | func fd =>
      obtain ⟨a1, c0⟩ := and2 (show (PySem.W.codeIn K fd.code d.qual && (fileB K fd.code file && (cellB K fd.closure (He.ga K d.cls) && nonB fd.defaults))) = true from c0)
      obtain ⟨a2, c0⟩ := and2 c0
      obtain ⟨a3, a4⟩ := and2 c0
      obtain ⟨n1, n2, n3, n4, n5, n6, n7, n8, n9, n10, n11, n12, n13, n14, n15⟩ := fd
      have e2 : (some (n1, n2, n3, n4, n5, n6, n7.map (·.1), n15) : FnS) = some (("__init__" : Str), d.qual, d.params, FuncBody.stmts d.body, d.scope, mainGlobals, [("__class__" : Str)], builtinsNs) := e
      simp only [Option.some.injEq, Prod.mk.injEq] at e2
      obtain ⟨h1, h2, h3, h4, h5, h6, h7, h8⟩ := e2
      subst h1 h2 h3 h4 h5 h6 h8
      obtain ⟨cda, ccl, cdd, vs, ccs, g, t, b1, b2, b3, b4⟩ := fileB_ok a2
      obtain ⟨qq, x1, x2, x3, d1, d2⟩ := cellB_ok a3
      have b1' : n13 = .ref cda := b1
      have d1' : n7 = [qq] := d1
      have a4' : n8 = .none := nonB_ok a4
      subst b1' d1' a4'
      obtain ⟨qn, qa⟩ := qq
      have h7' : qn = ("__class__" : Str) := by simpa using h7
      subst h7'
      exact ⟨_, ⟨⟨oc, od, _, n9, n10, n11, n12, cda, n14, osl, qa, rfl, q, a1, ⟨ccl, cdd, vs, ccs, g, t, b2, b3, by rw [ef]; exact b4⟩, x1, x2, x3, d2⟩, c1, of_decide_eq_true c2, hs, of_decide_eq_true c3, of_decide_eq_true c4, of_decide_eq_true c5, ht⟩, rfl⟩
    | _ => cases c0
theorem SupD.binds {P : Program} {K : PySem.W.Frag} {mg : Str → Option Value} {C f : Addr} {qual : Str} {params : Arguments} {body : List Stmt} {scope : Scope} {fd : FuncData} {ps : List Str} (D : SupD P K mg C f qual params body scope fd) (hd : fd.defaults = .none)
    (h : ∀ (kV doc pm : Value) (an : Option Addr) (cdv ct : Value) (cc : Addr) (us : List Value), us.length = ps.length → bindArgs (PySem.W.ksFn "__init__" qual params body scope .none kV doc pm an cdv ct cc) ⟨us, []⟩ = pure (ps.zip us)) : Binds K fd ps [] := by
  obtain ⟨oc, od, dV, kV, doc, pm, an, cda, ct, osl, cc, e, _⟩ := D.ex
  subst e
  have e : dV = .none := hd
  subst e
  exact .all (h kV doc pm an (.ref cda) ct cc)
/-! ### the Hook -/
def frY (n : Nat) (g : Addr → Option Obj) : PySem.W.Frag := He.frT g (He5.asA g n)
structure SaysY (fa : List He.Fa) (fn : List He.DefD) (sx : List SupX) (tf : List He.Defn) (ex : PySem.W.Frag → Bool) (h : Heap) (K : PySem.W.Frag) : Prop where
  d : He.SaysD fa fn K
  s : ∀ d ∈ sx, supW K d = d.val
  more : ex K = true
  hd : ∀ p ∈ tf, PySem.W.codeHdIn K (He.cT K p).1 (He.cT K p).2 = true
  out : ∀ p ∈ tf, K.lookup (He.cT K p).2 = none
  empty : ∀ p ∈ tf, h.get? (He.cT K p).2 = some { cls := .none, data := .fields #[] }
abbrev AlY : Type := (He.AlD × List FnS) × Bool
def obsY (n : Nat) (fa : List He.Fa) (fn : List He.DefD) (sx : List SupX) (tf : List He.Defn) (ex : PySem.W.Frag → Bool) (g : Addr → Option Obj) : AlY := ((He.obsD fa fn (frY n g), sx.map (supW (frY n g))), ex (frY n g) && He.tabsB g tf (frY n g))
def valY (fn : List He.DefD) (sx : List SupX) : AlY := ((He.valD fn, sx.map SupX.val), true)
theorem saysY_of {n : Nat} {fa : List He.Fa} {fn : List He.DefD} {sx : List SupX} {tf : List He.Defn} {ex : PySem.W.Frag → Bool} {h : Heap} (e : obsY n fa fn sx tf ex h.get? = valY fn sx) : SaysY fa fn sx tf ex h (frY n h.get?) := by
  have e1 : He.obsD fa fn (frY n h.get?) = He.valD fn := congrArg (fun z : AlY => z.1.1) e
  have e2 : sx.map (supW (frY n h.get?)) = sx.map SupX.val := congrArg (fun z : AlY => z.1.2) e
  have e3 : (ex (frY n h.get?) && He.tabsB h.get? tf (frY n h.get?)) = true := congrArg (fun z : AlY => z.2) e
  obtain ⟨h1, h2⟩ := and2 e3
  have tb : ∀ p ∈ tf, PySem.W.codeHdIn (frY n h.get?) (He.cT (frY n h.get?) p).1 (He.cT (frY n h.get?) p).2 = true ∧ ∃ o, h.get? (He.cT (frY n h.get?) p).2 = some o ∧ He.emptyTab o = true := fun p hp => by
    obtain ⟨g1, g2⟩ := and2 (List.all_eq_true.mp h2 p hp)
    refine ⟨g1, ?_⟩
    split at g2
    · rename_i o q; exact ⟨o, q, g2⟩
    · cases g2
  exact ⟨e1, fun d hd => by
      obtain ⟨i, hi⟩ := List.mem_iff_getElem?.mp hd
      have q : (sx.map (supW (frY n h.get?)))[i]? = (sx.map SupX.val)[i]? := by rw [e2]
      rw [List.getElem?_map, List.getElem?_map, hi] at q
      exact Option.some.inj q, h1, fun p hp => (tb p hp).1, fun p hp => by
      obtain ⟨_, o, q, z⟩ := tb p hp
      exact He.frT_none q z, fun p hp => by
      obtain ⟨_, o, q, z⟩ := tb p hp
      rw [q, He.emptyTab_eq z]⟩
def hookY (n : Nat) (fa : List He.Fa) (fn : List He.DefD) (sx : List SupX) (tf : List He.Defn) (ex : PySem.W.Frag → Bool) : PySem.W.Hook where
  α := AlY
  obs := fun s => obsY n fa fn sx tf ex s.heap.get?
  val := fun _ => valY fn sx
  says := fun _ h => ∃ K : PySem.W.Frag, K.In h ∧ SaysY fa fn sx tf ex h K
  of := fun _ _ e => ⟨_, He.frT_in, saysY_of e⟩
  keeps := fun _ _ _ ⟨K, hK, c⟩ k => ⟨K, PySem.W.Frag.In.keeps hK k, ⟨c.d, c.s, c.more, c.hd, c.out, fun p hp => k _ _ (c.empty p hp)⟩⟩
theorem obsY_eq {n : Nat} {fa : List He.Fa} {fn : List He.DefD} {sx : List SupX} {tf : List He.Defn} {ex : PySem.W.Frag → Bool} {g : Addr → Option Obj} {s : Shared} (h : ∀ a, g a = s.heap.get? a) : obsY n fa fn sx tf ex g = (hookY n fa fn sx tf ex).obs s := by
  have e : g = s.heap.get? := funext h
  rw [e]
  rfl
end WL
namespace WL
open L2 PySem PySem.Spec PyProof.Rows
/-- an own error: all that is asked of its class -/
def errB (K : PySem.W.Frag) (n : Str) : Bool := (oexB K (He.ga K n) && excB K (He.ga K n)) && (decide (PySem.W.findIn K (.ref (He.ga K n)) "__init__" = some (some (.ref (He.ma K (He.ga K n) "__init__")))) && (decide (PySem.W.typeIn K (.ref (He.ma K (He.ga K n) "__init__")) = some (.type "function")) &&
  ((errNames.all fun T => decide (PySem.W.kitOne K (.ref (He.ga K n)) (.ref (He.ga K T)) = some (bfOf n T))) && decide (PySem.W.kitOne K (.ref (He.ga K n)) (.type "ValueError") = some (bfOf n "ValueError")))))
theorem errB_ok {K : PySem.W.Frag} {n : Str} (h : errB K n = true) : (OexC K (He.ga K n) ∧ (L2.ExcC K (He.ga K n) ∧ XfC K (He.ga K n))) ∧ PySem.W.findIn K (.ref (He.ga K n)) "__init__" = some (some (.ref (He.ma K (He.ga K n) "__init__"))) ∧ PySem.W.typeIn K (.ref (He.ma K (He.ga K n) "__init__")) = some (.type "function") ∧
    (∀ T ∈ errNames, PySem.W.kitOne K (.ref (He.ga K n)) (.ref (He.ga K T)) = some (bfOf n T)) ∧ PySem.W.kitOne K (.ref (He.ga K n)) (.type "ValueError") = some (bfOf n "ValueError") := by
  obtain ⟨h1, h⟩ := and2 h
  obtain ⟨h2, h3⟩ := and2 h1
  obtain ⟨h4, h⟩ := and2 h
  obtain ⟨h5, h⟩ := and2 h
  obtain ⟨h6, h7⟩ := and2 h
  exact ⟨⟨oexB_ok h2, excB_ok h3⟩, of_decide_eq_true h4, of_decide_eq_true h5, fun T hT => of_decide_eq_true (List.all_eq_true.mp h6 T hT), of_decide_eq_true h7⟩
theorem okDs_in {n : Nat} : ∀ {xs : List D} {d : D}, okDs (n + 1) xs = true → d ∈ xs → okD n d = true
  | [], _, _, h => nomatch h
  | e :: r, d, o, h => by
    rw [okDs, Bool.and_eq_true] at o
    rcases List.mem_cons.mp h with q | q
    · rw [q]; exact o.1
    · exact okDs_in o.2 q
/-- a def of which nothing is asked -/
theorem fnNo {P : Program} {w : World} {K : PySem.W.Frag} {mg : Str → Option Value} {base : Heap} {x : Str} {params : Arguments} {body : List Stmt} {scope : Scope} {f : Addr} {fd : FuncData} {ps : List Str} {k n : Nat}
    (F : FunD K x x params body scope [] [] f fd) (hg : mg x = some (.ref f)) (b : Binds K fd ps []) : FnAt P w K mg base k x n (fun _ _ _ => False) :=
  ⟨f, fd, ps, hg, F.kp, b, ⟨fun _ _ _ _ ⟨_, _, _, _, _, _, _, z, _⟩ => z.elim, fun _ _ _ _ _ _ _ _ _ _ _ _ _ ⟨_, _, _, _, _, _, _, z, _⟩ => z.elim⟩⟩
end WL
set_option maxHeartbeats 0
namespace K16
open L2 PySem PySem.Spec WL
def fa : List He.Fa := [.free "len", .free "int", .free "str", .free "bool", .free "list", .free "tuple", .free "dict", .free "abs", .free "sum", .free "max", .free "min", .free "all", .free "any", .free "isinstance", .free "range", .free "enumerate", .free "zip", .free "repr", .free "sorted", .free "set", .free "super", .free "ValueError", .int "LONGEST" 8, .int "MOST_ROWS" 8, .int "MOST_WEIGHT" 99, .int "MOST_HOURS" 60, .int "MOST_PRICE" 9999, .str "LETTERS" "abcdefghijklmnopqrstuvwxyz", .glo "PARTS", .glo "is_whole", .glo "is_within", .glo "is_name", .glo "is_row", .glo "first_wrong", .glo "require_part", .glo "require_parts", .glo "replaced", .glo "place_of", .glo "names_in", .glo "is_share", .glo "wrong_place", .glo "are_turns", .glo "fair_hours", .glo "is_envy", .glo "envy_of", .glo "are_fair", .glo "is_price", .glo "price_of", .glo "unfair_hours", .glo "share_at", .glo "most_for", .glo "turns_paper", .glo "is_turns_paper", .glo "_law_taken", .glo "_law_pick", .glo "_law_alike", .glo "_law_same", .glo "_law_names", .glo "_law_fresh", .glo "_law_refusal", .glo "_law_told", .glo "_law_spoiled", .glo "_law_at", .glo "_law_flat", .glo "_law_whole", .glo "_law_turns", .glo "_law_in_turn", .glo "_law_envies", .glo "_law_priced", .glo "law", .glo "Turns", .glo "ClockError", .glo "BadPart", .glo "BadNumber", .glo "Unknown", .glo "BadCourse", .glo "BadChange", .glo "BadText", .glo "BadLine", .glo "BadClaim", .glo "NothingDone", .cls "Turns", .mkr "Turns", .noat "Turns" "parts", .noat "Turns" "rows", .noat "Turns" "names", .noat "Turns" "hours", .meth "Turns" "with_part", .meth "Turns" "with_share", .meth "Turns" "__eq__", .noat "BadPart" "part", .noat "BadPart" "place", .exm "BadPart" "ClockError" true, .noat "BadNumber" "value", .exm "BadNumber" "ClockError" true, .noat "Unknown" "name", .exm "Unknown" "ClockError" true]
def sX_BadPart : SupX := ⟨"BadPart", "BadPart.__init__", defArgs (meth (top 2) 0), defBody (meth (top 2) 0), defScope (meth (top 2) 0)⟩
def sX_BadNumber : SupX := ⟨"BadNumber", "BadNumber.__init__", defArgs (meth (top 3) 0), defBody (meth (top 3) 0), defScope (meth (top 3) 0)⟩
def sX_Unknown : SupX := ⟨"Unknown", "Unknown.__init__", defArgs (meth (top 4) 0), defBody (meth (top 4) 0), defScope (meth (top 4) 0)⟩
def fD_is_whole : He.DefD := ⟨("is_whole", none), "is_whole", "is_whole", defArgs (top 14), defBody (top 14), defScope (top 14), [], []⟩
def fD_is_within : He.DefD := ⟨("is_within", none), "is_within", "is_within", defArgs (top 15), defBody (top 15), defScope (top 15), [], []⟩
def fD_is_name : He.DefD := ⟨("is_name", none), "is_name", "is_name", defArgs (top 16), defBody (top 16), defScope (top 16), [], []⟩
def fD_is_row : He.DefD := ⟨("is_row", none), "is_row", "is_row", defArgs (top 17), defBody (top 17), defScope (top 17), [], []⟩
def fD_first_wrong : He.DefD := ⟨("first_wrong", none), "first_wrong", "first_wrong", defArgs (top 18), defBody (top 18), defScope (top 18), [], []⟩
def fD_require_part : He.DefD := ⟨("require_part", none), "require_part", "require_part", defArgs (top 19), defBody (top 19), defScope (top 19), [], []⟩
def fD_require_parts : He.DefD := ⟨("require_parts", none), "require_parts", "require_parts", defArgs (top 20), defBody (top 20), defScope (top 20), [], []⟩
def fD_replaced : He.DefD := ⟨("replaced", none), "replaced", "replaced", defArgs (top 21), defBody (top 21), defScope (top 21), [], []⟩
def fD_place_of : He.DefD := ⟨("place_of", none), "place_of", "place_of", defArgs (top 22), defBody (top 22), defScope (top 22), [], []⟩
def fD_names_in : He.DefD := ⟨("names_in", none), "names_in", "names_in", defArgs (top 23), defBody (top 23), defScope (top 23), [], []⟩
def fD_is_share : He.DefD := ⟨("is_share", none), "is_share", "is_share", defArgs (top 30), defBody (top 30), defScope (top 30), [], []⟩
def fD_wrong_place : He.DefD := ⟨("wrong_place", none), "wrong_place", "wrong_place", defArgs (top 31), defBody (top 31), defScope (top 31), [], []⟩
def fD_Turns_init : He.DefD := ⟨("Turns", some "__init__"), "__init__", "Turns.__init__", defArgs (meth (top 32) 0), defBody (meth (top 32) 0), defScope (meth (top 32) 0), [], []⟩
def fD_Turns_with_part : He.DefD := ⟨("Turns", some "with_part"), "with_part", "Turns.with_part", defArgs (meth (top 32) 1), defBody (meth (top 32) 1), defScope (meth (top 32) 1), [], []⟩
def fD_Turns_with_share : He.DefD := ⟨("Turns", some "with_share"), "with_share", "Turns.with_share", defArgs (meth (top 32) 2), defBody (meth (top 32) 2), defScope (meth (top 32) 2), [], []⟩
def fD_Turns_eq : He.DefD := ⟨("Turns", some "__eq__"), "__eq__", "Turns.__eq__", defArgs (meth (top 32) 3), defBody (meth (top 32) 3), defScope (meth (top 32) 3), [], []⟩
def fD_are_turns : He.DefD := ⟨("are_turns", none), "are_turns", "are_turns", defArgs (top 33), defBody (top 33), defScope (top 33), [], []⟩
def fD_fair_hours : He.DefD := ⟨("fair_hours", none), "fair_hours", "fair_hours", defArgs (top 34), defBody (top 34), defScope (top 34), [], []⟩
def fD_is_envy : He.DefD := ⟨("is_envy", none), "is_envy", "is_envy", defArgs (top 35), defBody (top 35), defScope (top 35), [], []⟩
def fD_envy_of : He.DefD := ⟨("envy_of", none), "envy_of", "envy_of", defArgs (top 36), defBody (top 36), defScope (top 36), [], []⟩
def fD_are_fair : He.DefD := ⟨("are_fair", none), "are_fair", "are_fair", defArgs (top 37), defBody (top 37), defScope (top 37), [], []⟩
def fD_is_price : He.DefD := ⟨("is_price", none), "is_price", "is_price", defArgs (top 38), defBody (top 38), defScope (top 38), [], []⟩
def fD_price_of : He.DefD := ⟨("price_of", none), "price_of", "price_of", defArgs (top 39), defBody (top 39), defScope (top 39), [], []⟩
def fD_unfair_hours : He.DefD := ⟨("unfair_hours", none), "unfair_hours", "unfair_hours", defArgs (top 40), defBody (top 40), defScope (top 40), [], []⟩
def fD_share_at : He.DefD := ⟨("share_at", none), "share_at", "share_at", defArgs (top 41), defBody (top 41), defScope (top 41), [], []⟩
def fD_most_for : He.DefD := ⟨("most_for", none), "most_for", "most_for", defArgs (top 42), defBody (top 42), defScope (top 42), [], []⟩
def fD_turns_paper : He.DefD := ⟨("turns_paper", none), "turns_paper", "turns_paper", defArgs (top 43), defBody (top 43), defScope (top 43), [], []⟩
def fD_is_turns_paper : He.DefD := ⟨("is_turns_paper", none), "is_turns_paper", "is_turns_paper", defArgs (top 44), defBody (top 44), defScope (top 44), [], []⟩
def fD__law_taken : He.DefD := ⟨("_law_taken", none), "_law_taken", "_law_taken", defArgs (top 46), defBody (top 46), defScope (top 46), [], []⟩
def fD__law_pick : He.DefD := ⟨("_law_pick", none), "_law_pick", "_law_pick", defArgs (top 47), defBody (top 47), defScope (top 47), [], []⟩
def fD__law_alike : He.DefD := ⟨("_law_alike", none), "_law_alike", "_law_alike", defArgs (top 48), defBody (top 48), defScope (top 48), [], []⟩
def fD__law_same : He.DefD := ⟨("_law_same", none), "_law_same", "_law_same", defArgs (top 49), defBody (top 49), defScope (top 49), [], []⟩
def fD__law_names : He.DefD := ⟨("_law_names", none), "_law_names", "_law_names", defArgs (top 50), defBody (top 50), defScope (top 50), [], []⟩
def fD__law_fresh : He.DefD := ⟨("_law_fresh", none), "_law_fresh", "_law_fresh", defArgs (top 51), defBody (top 51), defScope (top 51), [], []⟩
def fD__law_refusal : He.DefD := ⟨("_law_refusal", none), "_law_refusal", "_law_refusal", defArgs (top 52), defBody (top 52), defScope (top 52), [], []⟩
def fD__law_told : He.DefD := ⟨("_law_told", none), "_law_told", "_law_told", defArgs (top 53), defBody (top 53), defScope (top 53), [], []⟩
def fD__law_spoiled : He.DefD := ⟨("_law_spoiled", none), "_law_spoiled", "_law_spoiled", defArgs (top 54), defBody (top 54), defScope (top 54), [], []⟩
def fD__law_at : He.DefD := ⟨("_law_at", none), "_law_at", "_law_at", defArgs (top 55), defBody (top 55), defScope (top 55), [], []⟩
def fD__law_flat : He.DefD := ⟨("_law_flat", none), "_law_flat", "_law_flat", defArgs (top 56), defBody (top 56), defScope (top 56), [], []⟩
def fD__law_whole : He.DefD := ⟨("_law_whole", none), "_law_whole", "_law_whole", defArgs (top 57), defBody (top 57), defScope (top 57), [], []⟩
def fD__law_turns : He.DefD := ⟨("_law_turns", none), "_law_turns", "_law_turns", defArgs (top 58), defBody (top 58), defScope (top 58), [], []⟩
def fD__law_in_turn : He.DefD := ⟨("_law_in_turn", none), "_law_in_turn", "_law_in_turn", defArgs (top 59), defBody (top 59), defScope (top 59), [], []⟩
def fD__law_envies : He.DefD := ⟨("_law_envies", none), "_law_envies", "_law_envies", defArgs (top 60), defBody (top 60), defScope (top 60), [], []⟩
def fD__law_priced : He.DefD := ⟨("_law_priced", none), "_law_priced", "_law_priced", defArgs (top 61), defBody (top 61), defScope (top 61), [], []⟩
def fD_law : He.DefD := ⟨("law", none), "law", "law", defArgs (top 62), defBody (top 62), defScope (top 62), [], []⟩
def fn : List He.DefD := [fD_is_whole, fD_is_within, fD_is_name, fD_is_row, fD_first_wrong, fD_require_part, fD_require_parts, fD_replaced, fD_place_of, fD_names_in, fD_is_share, fD_wrong_place, fD_Turns_init, fD_Turns_with_part, fD_Turns_with_share, fD_Turns_eq, fD_are_turns, fD_fair_hours, fD_is_envy, fD_envy_of, fD_are_fair, fD_is_price, fD_price_of, fD_unfair_hours, fD_share_at, fD_most_for, fD_turns_paper, fD_is_turns_paper, fD__law_taken, fD__law_pick, fD__law_alike, fD__law_same, fD__law_names, fD__law_fresh, fD__law_refusal, fD__law_told, fD__law_spoiled, fD__law_at, fD__law_flat, fD__law_whole, fD__law_turns, fD__law_in_turn, fD__law_envies, fD__law_priced, fD_law]
def sx : List SupX := [sX_BadPart, sX_BadNumber, sX_Unknown]
def tf : List He.Defn := [("law", none)]
def nm0 : List PySem.Str := ["ClockError", "BadPart", "BadNumber", "Unknown", "BadCourse", "BadChange", "BadText", "BadLine", "BadClaim", "NothingDone", "LETTERS", "LONGEST", "is_whole", "is_within", "is_name", "is_row", "first_wrong", "require_part", "require_parts", "replaced"]
def nm1 : List PySem.Str := ["place_of", "names_in", "PARTS", "MOST_ROWS", "MOST_WEIGHT", "MOST_HOURS", "MOST_PRICE", "is_share", "wrong_place", "Turns", "are_turns", "fair_hours", "is_envy", "envy_of", "are_fair", "is_price", "price_of", "unfair_hours", "share_at", "most_for"]
def nm2 : List PySem.Str := ["turns_paper", "is_turns_paper", "_law_taken", "_law_pick", "_law_alike", "_law_same", "_law_names", "_law_fresh", "_law_refusal", "_law_told", "_law_spoiled", "_law_at", "_law_flat", "_law_whole", "_law_turns", "_law_in_turn", "_law_envies", "_law_priced"]
def names : List PySem.Str := nm0 ++ nm1 ++ nm2
abbrev R : PySem.W.OpenRow := PySem.W.OpenLaw.row PySem.Challenge.rw_waterhours_k16_whole_turns
abbrev qv : Program := PySem.W.view R.prog [62]
def ex (K : PySem.W.Frag) : Bool := (insB K (He.ga K "Turns") && eqfB K (He.ga K "Turns")) && ((He.tupB K "PARTS" [.str "rows"] && ndtB K (He.ga K "PARTS")) && ((["BadPart", "BadNumber", "Unknown"] : List Str).all (errB K) && sx.all (supB PySem.Challenge.pw_waterhours_k16_whole_turns.main.file K)))
abbrev hk : PySem.W.Hook := hookY 5 fa fn sx tf ex
def ob (s : PySem.W.SharedT) : AlY := obsY 5 fa fn sx tf ex (HandSHeadRun.getT s)
theorem ob_eq (s : PySem.W.SharedT) : ob s = hk.obs s.abs := obsY_eq (HandSHeadRun.getT_eq s)
end K16
set_option maxHeartbeats 4000000
namespace K16
open L2 PySem PySem.Spec WL
theorem s__law_same (K : PySem.W.Frag) : ∀ ds Q E, ds.length = 2 → m__law_same K ds Q E → t__law_same K (startD N__law_same ds) (kt Q E) := by
  intro ds Q E hl h
  unfold m__law_same at h
  split at h
  · obtain ⟨⟨h1, h2, rfl⟩, q⟩ := h
    simp [t__law_same, N__law_same]
    exact ⟨⟨h1, h2⟩, q⟩
  · exact h.elim
abbrev LP : Program := (PySem.Challenge.rw_waterhours_k16_whole_turns).prog
structure Sy (K : PySem.W.Frag) (mg : Str → Option Value) (h : Heap) : Prop where
  X : K.In h
  G : h.Ns mainGlobals mg
  c : SaysY fa fn sx tf ex h K
section
variable {K : PySem.W.Frag} {mg : Str → Option Value} {h : Heap} {w : World} {base : Heap}
theorem Sy.exs (S : Sy K mg h) : (insB K (He.ga K "Turns") = true ∧ eqfB K (He.ga K "Turns") = true) ∧ (He.tupB K "PARTS" [.str "rows"] = true ∧ ndtB K (He.ga K "PARTS") = true) ∧ (∀ n ∈ (["BadPart", "BadNumber", "Unknown"] : List Str), errB K n = true) ∧ ∀ d ∈ sx, supB PySem.Challenge.pw_waterhours_k16_whole_turns.main.file K d = true := by
  have m : ex K = true := S.c.more
  unfold ex at m
  obtain ⟨m1, m⟩ := and2 m
  obtain ⟨m2, m⟩ := and2 m
  obtain ⟨m3, m4⟩ := and2 m
  exact ⟨and2 m1, and2 m2, List.all_eq_true.mp m3, List.all_eq_true.mp m4⟩
theorem Sy.facts (S : Sy K mg h) : Facts K mg where
  nb := fun x hx => by
    simp only [bnames, List.mem_cons, List.not_mem_nil, or_false] at hx
    rcases hx with rfl | rfl | rfl | rfl | rfl | rfl | rfl | rfl | rfl | rfl | rfl | rfl | rfl | rfl | rfl | rfl | rfl | rfl | rfl | rfl
    · exact (He.free_ok S.X S.G (S.c.d.fact 0 (f := .free "len") rfl))
    · exact (He.free_ok S.X S.G (S.c.d.fact 1 (f := .free "int") rfl))
    · exact (He.free_ok S.X S.G (S.c.d.fact 2 (f := .free "str") rfl))
    · exact (He.free_ok S.X S.G (S.c.d.fact 3 (f := .free "bool") rfl))
    · exact (He.free_ok S.X S.G (S.c.d.fact 4 (f := .free "list") rfl))
    · exact (He.free_ok S.X S.G (S.c.d.fact 5 (f := .free "tuple") rfl))
    · exact (He.free_ok S.X S.G (S.c.d.fact 6 (f := .free "dict") rfl))
    · exact (He.free_ok S.X S.G (S.c.d.fact 7 (f := .free "abs") rfl))
    · exact (He.free_ok S.X S.G (S.c.d.fact 8 (f := .free "sum") rfl))
    · exact (He.free_ok S.X S.G (S.c.d.fact 9 (f := .free "max") rfl))
    · exact (He.free_ok S.X S.G (S.c.d.fact 10 (f := .free "min") rfl))
    · exact (He.free_ok S.X S.G (S.c.d.fact 11 (f := .free "all") rfl))
    · exact (He.free_ok S.X S.G (S.c.d.fact 12 (f := .free "any") rfl))
    · exact (He.free_ok S.X S.G (S.c.d.fact 13 (f := .free "isinstance") rfl))
    · exact (He.free_ok S.X S.G (S.c.d.fact 14 (f := .free "range") rfl))
    · exact (He.free_ok S.X S.G (S.c.d.fact 15 (f := .free "enumerate") rfl))
    · exact (He.free_ok S.X S.G (S.c.d.fact 16 (f := .free "zip") rfl))
    · exact (He.free_ok S.X S.G (S.c.d.fact 17 (f := .free "repr") rfl))
    · exact (He.free_ok S.X S.G (S.c.d.fact 18 (f := .free "sorted") rfl))
    · exact (He.free_ok S.X S.G (S.c.d.fact 19 (f := .free "set") rfl))
  c_LONGEST := He.int_ok S.X S.G (S.c.d.fact 22 (f := .int "LONGEST" 8) rfl)
  c_MOST_ROWS := He.int_ok S.X S.G (S.c.d.fact 23 (f := .int "MOST_ROWS" 8) rfl)
  c_MOST_WEIGHT := He.int_ok S.X S.G (S.c.d.fact 24 (f := .int "MOST_WEIGHT" 99) rfl)
  c_MOST_HOURS := He.int_ok S.X S.G (S.c.d.fact 25 (f := .int "MOST_HOURS" 60) rfl)
  c_MOST_PRICE := He.int_ok S.X S.G (S.c.d.fact 26 (f := .int "MOST_PRICE" 9999) rfl)
  c_LETTERS := He.str_ok S.X S.G (S.c.d.fact 27 (f := .str "LETTERS" "abcdefghijklmnopqrstuvwxyz") rfl)
  g_PARTS := (He.glo_ok S.X S.G (S.c.d.fact 28 (f := .glo "PARTS") rfl))
  o_PARTS := ndtB_ok S.exs.2.1.2
  s_PARTS := fun H => He.tupB_ok S.exs.2.1.1 H
  f_is_share := (He.glo_ok S.X S.G (S.c.d.fact 39 (f := .glo "is_share") rfl))
  f_wrong_place := (He.glo_ok S.X S.G (S.c.d.fact 40 (f := .glo "wrong_place") rfl))
  g_Turns := (He.glo_ok S.X S.G (S.c.d.fact 70 (f := .glo "Turns") rfl))
  cls_Turns := He.cls_ok (S.c.d.fact 81 (f := .cls "Turns") rfl)
  noat_Turns := fun f hf => by
    simp only [ks_Turns, List.mem_cons, List.not_mem_nil, or_false] at hf
    rcases hf with rfl | rfl | rfl | rfl
    · exact He.noat_ok (S.c.d.fact 83 (f := .noat "Turns" "parts") rfl)
    · exact He.noat_ok (S.c.d.fact 84 (f := .noat "Turns" "rows") rfl)
    · exact He.noat_ok (S.c.d.fact 85 (f := .noat "Turns" "names") rfl)
    · exact He.noat_ok (S.c.d.fact 86 (f := .noat "Turns" "hours") rfl)
  insC_Turns := (insB_ok (He.cls_ok (S.c.d.fact 81 (f := .cls "Turns") rfl)) S.exs.1.1).1
  kn_Turns := (insB_ok (He.cls_ok (S.c.d.fact 81 (f := .cls "Turns") rfl)) S.exs.1.1).2
theorem XX_BadPart (S : Sy K mg h) : ExAt LP w K mg base 1 "BadPart" (He.ga K "BadPart") ks_BadPart 2 := by
  obtain ⟨fd, D, hd⟩ := supD_of (P := LP) (mg := mg) (d := sX_BadPart) (file := PySem.Challenge.pw_waterhours_k16_whole_turns.main.file) rfl (S.c.s _ (by simp [sx])) (S.exs.2.2.2 _ (by simp [sx])) (He.free_ok S.X S.G (S.c.d.fact 20 (f := .free "super") rfl)) (by kernel_rfl)
  obtain ⟨⟨e1, e2⟩, e3⟩ := errB_ok (S.exs.2.2.1 "BadPart" (by simp))
  have T := e1
  exact ⟨⟨_, fd, ["self", "part", "place"], T, e3.1, e3.2.1, D.binds hd (fun _ _ _ _ _ _ _ us hl => match us, hl with | [_, _, _], _ => rfl), (He.glo_ok S.X S.G (S.c.d.fact 72 (f := .glo "BadPart") rfl)), fnOk_sup (N := ["self", "part", "place"]) (ks := ks_BadPart) (n := 2) D T ⟨rfl, rfl, rfl, by decide +kernel, rfl, by decide +kernel, by decide +kernel, by decide +kernel, rfl, rfl⟩ rfl (fun _ _ _ => rfl) (fun _ _ _ => rfl) rfl rfl fun cd cc A outer s H e as Q hl he hq => ⟨_, rest_2 rfl (Or.inl rfl) (Or.inl rfl) (Or.inl rfl) (by decide) (by decide) (by decide) (by decide) (by decide) (by decide) (by rfl) (by rfl), sem_2 T (He.noat_ok (S.c.d.fact 90 (f := .noat "BadPart" "part") rfl)) (He.noat_ok (S.c.d.fact 91 (f := .noat "BadPart" "place") rfl)) hl he hq⟩⟩, rfl⟩
theorem EF_BadPart (S : Sy K mg h) (ds : List D) : ErrF K mg errNames ⟨He.ga K "BadPart", ks_BadPart, ds⟩ (bfOf "BadPart") := by
  obtain ⟨⟨e1, e2⟩, e3, e4, e5, e6⟩ := errB_ok (S.exs.2.2.1 "BadPart" (by simp))
  refine ⟨e2.1, e2.2, fun f hf => ?_, fun T hT => ⟨He.ga K T, ?_, e5 T hT⟩, (He.free_ok S.X S.G (S.c.d.fact 21 (f := .free "ValueError") rfl)), e6⟩
  · simp only [ks_BadPart, List.mem_cons, List.not_mem_nil, or_false] at hf
    rcases hf with rfl | rfl
    · exact He.noat_ok (S.c.d.fact 91 (f := .noat "BadPart" "place") rfl)
    · exact He.noat_ok (S.c.d.fact 90 (f := .noat "BadPart" "part") rfl)
  · simp only [errNames, List.mem_cons, List.not_mem_nil, or_false] at hT
    rcases hT with rfl | rfl | rfl | rfl | rfl | rfl | rfl | rfl | rfl
    · exact (He.glo_ok S.X S.G (S.c.d.fact 72 (f := .glo "BadPart") rfl))
    · exact (He.glo_ok S.X S.G (S.c.d.fact 73 (f := .glo "BadNumber") rfl))
    · exact (He.glo_ok S.X S.G (S.c.d.fact 74 (f := .glo "Unknown") rfl))
    · exact (He.glo_ok S.X S.G (S.c.d.fact 75 (f := .glo "BadCourse") rfl))
    · exact (He.glo_ok S.X S.G (S.c.d.fact 76 (f := .glo "BadChange") rfl))
    · exact (He.glo_ok S.X S.G (S.c.d.fact 77 (f := .glo "BadText") rfl))
    · exact (He.glo_ok S.X S.G (S.c.d.fact 78 (f := .glo "BadLine") rfl))
    · exact (He.glo_ok S.X S.G (S.c.d.fact 79 (f := .glo "BadClaim") rfl))
    · exact (He.glo_ok S.X S.G (S.c.d.fact 80 (f := .glo "NothingDone") rfl))
theorem XX_BadNumber (S : Sy K mg h) : ExAt LP w K mg base 1 "BadNumber" (He.ga K "BadNumber") ks_BadNumber 1 := by
  obtain ⟨fd, D, hd⟩ := supD_of (P := LP) (mg := mg) (d := sX_BadNumber) (file := PySem.Challenge.pw_waterhours_k16_whole_turns.main.file) rfl (S.c.s _ (by simp [sx])) (S.exs.2.2.2 _ (by simp [sx])) (He.free_ok S.X S.G (S.c.d.fact 20 (f := .free "super") rfl)) (by kernel_rfl)
  obtain ⟨⟨e1, e2⟩, e3⟩ := errB_ok (S.exs.2.2.1 "BadNumber" (by simp))
  have T := e1
  exact ⟨⟨_, fd, ["self", "value"], T, e3.1, e3.2.1, D.binds hd (fun _ _ _ _ _ _ _ us hl => match us, hl with | [_, _], _ => rfl), (He.glo_ok S.X S.G (S.c.d.fact 73 (f := .glo "BadNumber") rfl)), fnOk_sup (N := ["self", "value"]) (ks := ks_BadNumber) (n := 1) D T ⟨rfl, rfl, rfl, by decide +kernel, rfl, by decide +kernel, by decide +kernel, by decide +kernel, rfl, rfl⟩ rfl (fun _ _ _ => rfl) (fun _ _ _ => rfl) rfl rfl fun cd cc A outer s H e as Q hl he hq => ⟨_, rest_1 rfl (Or.inl rfl) (Or.inl rfl) (by decide) (by decide) (by decide) (by decide) (by rfl), sem_1 T (He.noat_ok (S.c.d.fact 93 (f := .noat "BadNumber" "value") rfl)) hl he hq⟩⟩, rfl⟩
theorem EF_BadNumber (S : Sy K mg h) (ds : List D) : ErrF K mg errNames ⟨He.ga K "BadNumber", ks_BadNumber, ds⟩ (bfOf "BadNumber") := by
  obtain ⟨⟨e1, e2⟩, e3, e4, e5, e6⟩ := errB_ok (S.exs.2.2.1 "BadNumber" (by simp))
  refine ⟨e2.1, e2.2, fun f hf => ?_, fun T hT => ⟨He.ga K T, ?_, e5 T hT⟩, (He.free_ok S.X S.G (S.c.d.fact 21 (f := .free "ValueError") rfl)), e6⟩
  · simp only [ks_BadNumber, List.mem_cons, List.not_mem_nil, or_false] at hf
    rcases hf with rfl
    · exact He.noat_ok (S.c.d.fact 93 (f := .noat "BadNumber" "value") rfl)
  · simp only [errNames, List.mem_cons, List.not_mem_nil, or_false] at hT
    rcases hT with rfl | rfl | rfl | rfl | rfl | rfl | rfl | rfl | rfl
    · exact (He.glo_ok S.X S.G (S.c.d.fact 72 (f := .glo "BadPart") rfl))
    · exact (He.glo_ok S.X S.G (S.c.d.fact 73 (f := .glo "BadNumber") rfl))
    · exact (He.glo_ok S.X S.G (S.c.d.fact 74 (f := .glo "Unknown") rfl))
    · exact (He.glo_ok S.X S.G (S.c.d.fact 75 (f := .glo "BadCourse") rfl))
    · exact (He.glo_ok S.X S.G (S.c.d.fact 76 (f := .glo "BadChange") rfl))
    · exact (He.glo_ok S.X S.G (S.c.d.fact 77 (f := .glo "BadText") rfl))
    · exact (He.glo_ok S.X S.G (S.c.d.fact 78 (f := .glo "BadLine") rfl))
    · exact (He.glo_ok S.X S.G (S.c.d.fact 79 (f := .glo "BadClaim") rfl))
    · exact (He.glo_ok S.X S.G (S.c.d.fact 80 (f := .glo "NothingDone") rfl))
theorem XX_Unknown (S : Sy K mg h) : ExAt LP w K mg base 1 "Unknown" (He.ga K "Unknown") ks_Unknown 1 := by
  obtain ⟨fd, D, hd⟩ := supD_of (P := LP) (mg := mg) (d := sX_Unknown) (file := PySem.Challenge.pw_waterhours_k16_whole_turns.main.file) rfl (S.c.s _ (by simp [sx])) (S.exs.2.2.2 _ (by simp [sx])) (He.free_ok S.X S.G (S.c.d.fact 20 (f := .free "super") rfl)) (by kernel_rfl)
  obtain ⟨⟨e1, e2⟩, e3⟩ := errB_ok (S.exs.2.2.1 "Unknown" (by simp))
  have T := e1
  exact ⟨⟨_, fd, ["self", "name"], T, e3.1, e3.2.1, D.binds hd (fun _ _ _ _ _ _ _ us hl => match us, hl with | [_, _], _ => rfl), (He.glo_ok S.X S.G (S.c.d.fact 74 (f := .glo "Unknown") rfl)), fnOk_sup (N := ["self", "name"]) (ks := ks_Unknown) (n := 1) D T ⟨rfl, rfl, rfl, by decide +kernel, rfl, by decide +kernel, by decide +kernel, by decide +kernel, rfl, rfl⟩ rfl (fun _ _ _ => rfl) (fun _ _ _ => rfl) rfl rfl fun cd cc A outer s H e as Q hl he hq => ⟨_, rest_1 rfl (Or.inl rfl) (Or.inl rfl) (by decide) (by decide) (by decide) (by decide) (by rfl), sem_1 T (He.noat_ok (S.c.d.fact 95 (f := .noat "Unknown" "name") rfl)) hl he hq⟩⟩, rfl⟩
theorem EF_Unknown (S : Sy K mg h) (ds : List D) : ErrF K mg errNames ⟨He.ga K "Unknown", ks_Unknown, ds⟩ (bfOf "Unknown") := by
  obtain ⟨⟨e1, e2⟩, e3, e4, e5, e6⟩ := errB_ok (S.exs.2.2.1 "Unknown" (by simp))
  refine ⟨e2.1, e2.2, fun f hf => ?_, fun T hT => ⟨He.ga K T, ?_, e5 T hT⟩, (He.free_ok S.X S.G (S.c.d.fact 21 (f := .free "ValueError") rfl)), e6⟩
  · simp only [ks_Unknown, List.mem_cons, List.not_mem_nil, or_false] at hf
    rcases hf with rfl
    · exact He.noat_ok (S.c.d.fact 95 (f := .noat "Unknown" "name") rfl)
  · simp only [errNames, List.mem_cons, List.not_mem_nil, or_false] at hT
    rcases hT with rfl | rfl | rfl | rfl | rfl | rfl | rfl | rfl | rfl
    · exact (He.glo_ok S.X S.G (S.c.d.fact 72 (f := .glo "BadPart") rfl))
    · exact (He.glo_ok S.X S.G (S.c.d.fact 73 (f := .glo "BadNumber") rfl))
    · exact (He.glo_ok S.X S.G (S.c.d.fact 74 (f := .glo "Unknown") rfl))
    · exact (He.glo_ok S.X S.G (S.c.d.fact 75 (f := .glo "BadCourse") rfl))
    · exact (He.glo_ok S.X S.G (S.c.d.fact 76 (f := .glo "BadChange") rfl))
    · exact (He.glo_ok S.X S.G (S.c.d.fact 77 (f := .glo "BadText") rfl))
    · exact (He.glo_ok S.X S.G (S.c.d.fact 78 (f := .glo "BadLine") rfl))
    · exact (He.glo_ok S.X S.G (S.c.d.fact 79 (f := .glo "BadClaim") rfl))
    · exact (He.glo_ok S.X S.G (S.c.d.fact 80 (f := .glo "NothingDone") rfl))
theorem QX_Turns (S : Sy K mg h) : EqAt LP w K mg base 1 (He.ga K "Turns") (m_Turns_eq K) := by
  obtain ⟨fd, F⟩ := S.c.d.def_ 15 (d := fD_Turns_eq) rfl
  have M := He.meth_ok (S.c.d.fact 89 (f := .meth "Turns" "__eq__") rfl)
  exact ⟨⟨_, fd, P_Turns_eq, M.at_, M.fn, F.bindsN (fun _ _ _ _ _ _ us hl => match us, hl with | [_, _], _ => rfl), fnOk_of (N := N_Turns_eq) F ⟨rfl, rfl, rfl, by decide +kernel, rfl, by decide +kernel, by decide +kernel⟩ rfl (fun cdv A outer s H E Y c => d_Turns_eq S.facts  cdv A outer s H E Y c) (s_Turns_eq K)⟩, S.facts.insC_Turns, fun T hT => List.all_eq_true.mp S.exs.1.2 T hT⟩
theorem FX__law_taken (S : Sy K mg h) : FnAt LP w K mg base 1 "_law_taken" 2 (m__law_taken K) := by
  obtain ⟨fd, F⟩ := S.c.d.def_ 28 (d := fD__law_taken) rfl
  exact FnAt.row (N := N__law_taken) (ps := P__law_taken) F (He.glo_ok S.X S.G (S.c.d.fact 53 (f := .glo "_law_taken") rfl)) ⟨rfl, rfl, rfl, by decide +kernel, rfl, by decide +kernel, by decide +kernel⟩ rfl (by decide) (F.bindsN (fun _ _ _ _ _ _ us hl => match us, hl with | [_, _], _ => rfl)) (fun cdv A outer s H E Y a sa ns c hs => d__law_taken S.facts cdv A outer s H E Y a sa ns c hs) (s__law_taken K)
theorem FX__law_names (S : Sy K mg h) : FnAt LP w K mg base 3 "_law_names" 2 (m__law_names K) := by
  obtain ⟨fd, F⟩ := S.c.d.def_ 32 (d := fD__law_names) rfl
  exact (FnAt.of (N := N__law_names) (ps := P__law_names) F (He.glo_ok S.X S.G (S.c.d.fact 57 (f := .glo "_law_names") rfl)) ⟨rfl, rfl, rfl, by decide +kernel, rfl, by decide +kernel, by decide +kernel⟩ rfl (F.bindsN (fun _ _ _ _ _ _ us hl => match us, hl with | [_, _], _ => rfl)) (fun cdv A outer s H E Y c => d__law_names S.facts (FX__law_taken S) cdv A outer s H E Y c) (s__law_names K)).mono (by decide)
theorem FX__law_in_turn (S : Sy K mg h) : FnAtF LP w K mg base 1 "_law_in_turn" 2 (m__law_in_turn K) := by
  obtain ⟨fd, F⟩ := S.c.d.def_ 41 (d := fD__law_in_turn) rfl
  exact (FnAtF.of (N := N__law_in_turn) (ps := P__law_in_turn) F (He.glo_ok S.X S.G (S.c.d.fact 66 (f := .glo "_law_in_turn") rfl)) ⟨rfl, rfl, rfl, by decide +kernel, rfl, by decide +kernel, by decide +kernel⟩ rfl (F.bindsN (fun _ _ _ _ _ _ us hl => match us, hl with | [_, _], _ => rfl)) (fun cdv A outer s H E Y c => d__law_in_turn S.facts  cdv A outer s H E Y c) (s__law_in_turn K))
theorem FX__law_pick (S : Sy K mg h) : FnAt LP w K mg base 2 "_law_pick" 2 (m__law_pick K) := by
  obtain ⟨fd, F⟩ := S.c.d.def_ 29 (d := fD__law_pick) rfl
  exact (FnAt.of (N := N__law_pick) (ps := P__law_pick) F (He.glo_ok S.X S.G (S.c.d.fact 54 (f := .glo "_law_pick") rfl)) ⟨rfl, rfl, rfl, by decide +kernel, rfl, by decide +kernel, by decide +kernel⟩ rfl (F.bindsN (fun _ _ _ _ _ _ us hl => match us, hl with | [_, _], _ => rfl)) (fun cdv A outer s H E Y c => d__law_pick S.facts (FX__law_taken S) cdv A outer s H E Y c) (s__law_pick K)).mono (by decide)
theorem FX__law_turns (S : Sy K mg h) : FnAt LP w K mg base 4 "_law_turns" 1 (m__law_turns K) := by
  obtain ⟨fd, F⟩ := S.c.d.def_ 40 (d := fD__law_turns) rfl
  exact (FnAt.of (N := N__law_turns) (ps := P__law_turns) F (He.glo_ok S.X S.G (S.c.d.fact 65 (f := .glo "_law_turns") rfl)) ⟨rfl, rfl, rfl, by decide +kernel, rfl, by decide +kernel, by decide +kernel⟩ rfl (F.bindsN (fun _ _ _ _ _ _ us hl => match us, hl with | [_], _ => rfl)) (fun cdv A outer s H E Y c => d__law_turns S.facts (FX__law_names S) (FX__law_taken S) (FX__law_in_turn S) (FX__law_pick S) cdv A outer s H E Y c) (s__law_turns K)).mono (by decide)
theorem FX__law_flat (S : Sy K mg h) : FnAt LP w K mg base 1 "_law_flat" 1 (m__law_flat K) := by
  obtain ⟨fd, F⟩ := S.c.d.def_ 38 (d := fD__law_flat) rfl
  exact (FnAt.of (N := N__law_flat) (ps := P__law_flat) F (He.glo_ok S.X S.G (S.c.d.fact 63 (f := .glo "_law_flat") rfl)) ⟨rfl, rfl, rfl, by decide +kernel, rfl, by decide +kernel, by decide +kernel⟩ rfl (F.bindsN (fun _ _ _ _ _ _ us hl => match us, hl with | [_], _ => rfl)) (fun cdv A outer s H E Y c => d__law_flat S.facts  cdv A outer s H E Y c) (s__law_flat K)).mono (by decide)
theorem FX__law_envies (S : Sy K mg h) : FnAt LP w K mg base 2 "_law_envies" 1 (m__law_envies K) := by
  obtain ⟨fd, F⟩ := S.c.d.def_ 42 (d := fD__law_envies) rfl
  exact (FnAt.of (N := N__law_envies) (ps := P__law_envies) F (He.glo_ok S.X S.G (S.c.d.fact 67 (f := .glo "_law_envies") rfl)) ⟨rfl, rfl, rfl, by decide +kernel, rfl, by decide +kernel, by decide +kernel⟩ rfl (F.bindsN (fun _ _ _ _ _ _ us hl => match us, hl with | [_], _ => rfl)) (fun cdv A outer s H E Y c => d__law_envies S.facts (FX__law_flat S) cdv A outer s H E Y c) (s__law_envies K)).mono (by decide)
theorem FX__law_alike_n (S : Sy K mg h) : ∀ n : Nat, FnAt LP w K mg base (n + 1) "_law_alike" 2 (WL.m__law_alike n) := by
  obtain ⟨fd, F⟩ := S.c.d.def_ 30 (d := fD__law_alike) rfl
  have hg := (He.glo_ok S.X S.G (S.c.d.fact 55 (f := .glo "_law_alike") rfl))
  have b : Binds K fd P__law_alike [] := F.bindsN (fun _ _ _ _ _ _ us hl => match us, hl with | [_, _], _ => rfl)
  intro n
  induction n with
  | zero => exact FnAt.of (N := N__law_alike) (ps := P__law_alike) F hg ⟨rfl, rfl, rfl, by decide +kernel, rfl, by decide +kernel, by decide +kernel⟩ rfl b (fun cdv A outer s H E Y c => d__law_alike S.facts (fnNo F hg b) cdv A outer s H E Y c) (s__law_alike K 0 _ fun xs d o hd => by
      cases xs with
      | nil => cases hd
      | cons _ _ => cases o)
  | succ n ih => exact FnAt.of (N := N__law_alike) (ps := P__law_alike) F hg ⟨rfl, rfl, rfl, by decide +kernel, rfl, by decide +kernel, by decide +kernel⟩ rfl b (fun cdv A outer s H E Y c => d__law_alike S.facts ih cdv A outer s H E Y c) (s__law_alike K (n + 1) _ fun xs d o hd sm hn Q E q => ⟨⟨rfl, okDs_in o hd, sm, by omega⟩, q⟩)
theorem FX__law_alike (S : Sy K mg h) : FnAt LP w K mg base 50 "_law_alike" 2 (m__law_alike K) := (FX__law_alike_n S 40).mono (by decide)
theorem FX_are_turns (S : Sy K mg h) : FnAt LP w K mg base 1 "are_turns" 1 (m_are_turns K) := by
  obtain ⟨fd, F⟩ := S.c.d.def_ 16 (d := fD_are_turns) rfl
  exact (FnAt.of (N := N_are_turns) (ps := P_are_turns) F (He.glo_ok S.X S.G (S.c.d.fact 41 (f := .glo "are_turns") rfl)) ⟨rfl, rfl, rfl, by decide +kernel, rfl, by decide +kernel, by decide +kernel⟩ rfl (F.bindsN (fun _ _ _ _ _ _ us hl => match us, hl with | [_], _ => rfl)) (fun cdv A outer s H E Y c => d_are_turns S.facts  cdv A outer s H E Y c) (s_are_turns K)).mono (by decide)
theorem FX_is_row (S : Sy K mg h) : FnAt LP w K mg base 1 "is_row" 2 (m_is_row K) := by
  obtain ⟨fd, F⟩ := S.c.d.def_ 3 (d := fD_is_row) rfl
  exact (FnAt.of (N := N_is_row) (ps := P_is_row) F (He.glo_ok S.X S.G (S.c.d.fact 32 (f := .glo "is_row") rfl)) ⟨rfl, rfl, rfl, by decide +kernel, rfl, by decide +kernel, by decide +kernel⟩ rfl (F.bindsN (fun _ _ _ _ _ _ us hl => match us, hl with | [_, _], _ => rfl)) (fun cdv A outer s H E Y c => d_is_row S.facts  cdv A outer s H E Y c) (s_is_row K)).mono (by decide)
theorem FX_is_envy (S : Sy K mg h) : FnAt LP w K mg base 2 "is_envy" 2 (m_is_envy K) := by
  obtain ⟨fd, F⟩ := S.c.d.def_ 18 (d := fD_is_envy) rfl
  exact (FnAt.of (N := N_is_envy) (ps := P_is_envy) F (He.glo_ok S.X S.G (S.c.d.fact 43 (f := .glo "is_envy") rfl)) ⟨rfl, rfl, rfl, by decide +kernel, rfl, by decide +kernel, by decide +kernel⟩ rfl (F.bindsN (fun _ _ _ _ _ _ us hl => match us, hl with | [_, _], _ => rfl)) (fun cdv A outer s H E Y c => d_is_envy S.facts (FX_is_row S) cdv A outer s H E Y c) (s_is_envy K)).mono (by decide)
theorem FX_envy_of (S : Sy K mg h) : FnAt LP w K mg base 3 "envy_of" 1 (m_envy_of K) := by
  obtain ⟨fd, F⟩ := S.c.d.def_ 19 (d := fD_envy_of) rfl
  exact (FnAt.of (N := N_envy_of) (ps := P_envy_of) F (He.glo_ok S.X S.G (S.c.d.fact 44 (f := .glo "envy_of") rfl)) ⟨rfl, rfl, rfl, by decide +kernel, rfl, by decide +kernel, by decide +kernel⟩ rfl (F.bindsN (fun _ _ _ _ _ _ us hl => match us, hl with | [_], _ => rfl)) (fun cdv A outer s H E Y c => d_envy_of S.facts (FX_is_envy S) cdv A outer s H E Y c) (s_envy_of K)).mono (by decide)
theorem FX_are_fair (S : Sy K mg h) : FnAt LP w K mg base 4 "are_fair" 1 (m_are_fair K) := by
  obtain ⟨fd, F⟩ := S.c.d.def_ 20 (d := fD_are_fair) rfl
  exact (FnAt.of (N := N_are_fair) (ps := P_are_fair) F (He.glo_ok S.X S.G (S.c.d.fact 45 (f := .glo "are_fair") rfl)) ⟨rfl, rfl, rfl, by decide +kernel, rfl, by decide +kernel, by decide +kernel⟩ rfl (F.bindsN (fun _ _ _ _ _ _ us hl => match us, hl with | [_], _ => rfl)) (fun cdv A outer s H E Y c => d_are_fair S.facts (FX_envy_of S) cdv A outer s H E Y c) (s_are_fair K)).mono (by decide)
theorem FX_price_of (S : Sy K mg h) : FnAt LP w K mg base 5 "price_of" 1 (m_price_of K) := by
  obtain ⟨fd, F⟩ := S.c.d.def_ 22 (d := fD_price_of) rfl
  exact (FnAt.of (N := N_price_of) (ps := P_price_of) F (He.glo_ok S.X S.G (S.c.d.fact 47 (f := .glo "price_of") rfl)) ⟨rfl, rfl, rfl, by decide +kernel, rfl, by decide +kernel, by decide +kernel⟩ rfl (F.bindsN (fun _ _ _ _ _ _ us hl => match us, hl with | [_], _ => rfl)) (fun cdv A outer s H E Y c => d_price_of S.facts (FX_are_fair S) cdv A outer s H E Y c) (s_price_of K)).mono (by decide)
theorem FX_turns_paper (S : Sy K mg h) : FnAt LP w K mg base 6 "turns_paper" 1 (m_turns_paper K) := by
  obtain ⟨fd, F⟩ := S.c.d.def_ 26 (d := fD_turns_paper) rfl
  exact (FnAt.of (N := N_turns_paper) (ps := P_turns_paper) F (He.glo_ok S.X S.G (S.c.d.fact 51 (f := .glo "turns_paper") rfl)) ⟨rfl, rfl, rfl, by decide +kernel, rfl, by decide +kernel, by decide +kernel⟩ rfl (F.bindsN (fun _ _ _ _ _ _ us hl => match us, hl with | [_], _ => rfl)) (fun cdv A outer s H E Y c => d_turns_paper S.facts (FX_price_of S) (FX_envy_of S) cdv A outer s H E Y c) (s_turns_paper K)).mono (by decide)
theorem FX__law_fresh (S : Sy K mg h) : FnAt LP w K mg base 1 "_law_fresh" 1 (m__law_fresh K) := by
  obtain ⟨fd, F⟩ := S.c.d.def_ 33 (d := fD__law_fresh) rfl
  exact (FnAt.of (N := N__law_fresh) (ps := P__law_fresh) F (He.glo_ok S.X S.G (S.c.d.fact 58 (f := .glo "_law_fresh") rfl)) ⟨rfl, rfl, rfl, by decide +kernel, rfl, by decide +kernel, by decide +kernel⟩ rfl (F.bindsN (fun _ _ _ _ _ _ us hl => match us, hl with | [_], _ => rfl)) (fun cdv A outer s H E Y c => d__law_fresh S.facts  cdv A outer s H E Y c) (s__law_fresh K)).mono (by decide)
theorem ZX__law_refusal (S : Sy K mg h) (k : Nat) : FnZAt LP w K mg base (k + 1) "_law_refusal" (m__law_refusal K) := by
  obtain ⟨fd, F⟩ := S.c.d.def_ 34 (d := fD__law_refusal) rfl
  refine FnZAt.of (N := N__law_refusal) (ps := P__law_refusal) F (He.glo_ok S.X S.G (S.c.d.fact 59 (f := .glo "_law_refusal") rfl)) ⟨rfl, rfl, rfl, by decide +kernel, rfl, by decide +kernel, by decide +kernel⟩ rfl (F.bindsN (fun _ _ _ _ _ _ us hl => match us, hl with | [_], _ => rfl)) fun cdv A outer s H E Y p xn Qd c ok er hm => ?_
  rcases hm with ⟨v0, v1, rfl, q⟩ | ⟨v0, rfl, q⟩ | ⟨v0, rfl, q⟩
  · exact ⟨t__law_refusal K p.1 ⟨He.ga K "BadPart", ks_BadPart, [v0, v1]⟩ (bfOf "BadPart"), d__law_refusal S.facts cdv A outer s H E Y p _ _ c ok er (EF_BadPart S [v0, v1]), fun E => s__law_refusal_BadPart K p.1 _ v0 v1 _ E q⟩
  · exact ⟨t__law_refusal K p.1 ⟨He.ga K "BadNumber", ks_BadNumber, [v0]⟩ (bfOf "BadNumber"), d__law_refusal S.facts cdv A outer s H E Y p _ _ c ok er (EF_BadNumber S [v0]), fun E => s__law_refusal_BadNumber K p.1 _ v0 _ E q⟩
  · exact ⟨t__law_refusal K p.1 ⟨He.ga K "Unknown", ks_Unknown, [v0]⟩ (bfOf "Unknown"), d__law_refusal S.facts cdv A outer s H E Y p _ _ c ok er (EF_Unknown S [v0]), fun E => s__law_refusal_Unknown K p.1 _ v0 _ E q⟩
theorem TX (S : Sy K mg h) : ToldAt LP w K mg base 60 (top 53) (m__law_refusal K) := by
  obtain ⟨fd, F⟩ := S.c.d.def_ 35 (d := fD__law_told) rfl
  refine ⟨⟨_, He.ga K "ClockError", fd, F, (He.glo_ok S.X S.G (S.c.d.fact 60 (f := .glo "_law_told") rfl)), F.bindsN (fun _ _ _ _ _ _ us hl => match us, hl with | [_], _ => rfl), (He.glo_ok S.X S.G (S.c.d.fact 71 (f := .glo "ClockError") rfl)), fun x Q hm => ?_⟩, ⟨rfl, rfl, rfl, by decide +kernel, rfl, by decide +kernel, by decide +kernel⟩, Or.inl rfl, rfl, rfl, rfl, ZX__law_refusal S 59⟩
  rcases hm with ⟨_, _, rfl, _⟩ | ⟨_, rfl, _⟩ | ⟨_, rfl, _⟩
  · exact He.exm_ok (S.c.d.fact 92 (f := .exm "BadPart" "ClockError" true) rfl)
  · exact He.exm_ok (S.c.d.fact 94 (f := .exm "BadNumber" "ClockError" true) rfl)
  · exact He.exm_ok (S.c.d.fact 96 (f := .exm "Unknown" "ClockError" true) rfl)
theorem FX_is_whole (S : Sy K mg h) : FnAt LP w K mg base 1 "is_whole" 1 (m_is_whole K) := by
  obtain ⟨fd, F⟩ := S.c.d.def_ 0 (d := fD_is_whole) rfl
  exact (FnAt.of (N := N_is_whole) (ps := P_is_whole) F (He.glo_ok S.X S.G (S.c.d.fact 29 (f := .glo "is_whole") rfl)) ⟨rfl, rfl, rfl, by decide +kernel, rfl, by decide +kernel, by decide +kernel⟩ rfl (F.bindsN (fun _ _ _ _ _ _ us hl => match us, hl with | [_], _ => rfl)) (fun cdv A outer s H E Y c => d_is_whole S.facts  cdv A outer s H E Y c) (s_is_whole K)).mono (by decide)
theorem FX_is_within (S : Sy K mg h) : FnAt LP w K mg base 2 "is_within" 3 (m_is_within K) := by
  obtain ⟨fd, F⟩ := S.c.d.def_ 1 (d := fD_is_within) rfl
  exact (FnAt.of (N := N_is_within) (ps := P_is_within) F (He.glo_ok S.X S.G (S.c.d.fact 30 (f := .glo "is_within") rfl)) ⟨rfl, rfl, rfl, by decide +kernel, rfl, by decide +kernel, by decide +kernel⟩ rfl (F.bindsN (fun _ _ _ _ _ _ us hl => match us, hl with | [_, _, _], _ => rfl)) (fun cdv A outer s H E Y c => d_is_within S.facts (FX_is_whole S) cdv A outer s H E Y c) (s_is_within K)).mono (by decide)
theorem FX_is_price (S : Sy K mg h) : FnAt LP w K mg base 3 "is_price" 2 (m_is_price K) := by
  obtain ⟨fd, F⟩ := S.c.d.def_ 21 (d := fD_is_price) rfl
  exact (FnAt.of (N := N_is_price) (ps := P_is_price) F (He.glo_ok S.X S.G (S.c.d.fact 46 (f := .glo "is_price") rfl)) ⟨rfl, rfl, rfl, by decide +kernel, rfl, by decide +kernel, by decide +kernel⟩ rfl (F.bindsN (fun _ _ _ _ _ _ us hl => match us, hl with | [_, _], _ => rfl)) (fun cdv A outer s H E Y c => d_is_price S.facts (FX_is_row S) (FX_is_within S) cdv A outer s H E Y c) (s_is_price K)).mono (by decide)
theorem FX_is_turns_paper (S : Sy K mg h) : FnAt LP w K mg base 4 "is_turns_paper" 2 (m_is_turns_paper K) := by
  obtain ⟨fd, F⟩ := S.c.d.def_ 27 (d := fD_is_turns_paper) rfl
  exact (FnAt.of (N := N_is_turns_paper) (ps := P_is_turns_paper) F (He.glo_ok S.X S.G (S.c.d.fact 52 (f := .glo "is_turns_paper") rfl)) ⟨rfl, rfl, rfl, by decide +kernel, rfl, by decide +kernel, by decide +kernel⟩ rfl (F.bindsN (fun _ _ _ _ _ _ us hl => match us, hl with | [_, _], _ => rfl)) (fun cdv A outer s H E Y c => d_is_turns_paper S.facts (FX_is_price S) (FX_is_envy S) (FX_is_row S) cdv A outer s H E Y c) (s_is_turns_paper K)).mono (by decide)
theorem FX__law_spoiled_n (S : Sy K mg h) : ∀ n : Nat, FnAt LP w K mg base (n + 3) "_law_spoiled" 2 (WL.m__law_spoiled n) := by
  obtain ⟨fd, F⟩ := S.c.d.def_ 36 (d := fD__law_spoiled) rfl
  have hg := (He.glo_ok S.X S.G (S.c.d.fact 61 (f := .glo "_law_spoiled") rfl))
  have b : Binds K fd P__law_spoiled [] := F.bindsN (fun _ _ _ _ _ _ us hl => match us, hl with | [_, _], _ => rfl)
  intro n
  induction n with
  | zero => exact FnAt.of (N := N__law_spoiled) (ps := P__law_spoiled) F hg ⟨rfl, rfl, rfl, by decide +kernel, rfl, by decide +kernel, by decide +kernel⟩ rfl b (fun cdv A outer s H E Y c => d__law_spoiled S.facts (by decide) (FX__law_taken S) (FX__law_pick S) (fnNo F hg b) cdv A outer s H E Y c) (s__law_spoiled K 0 _ fun xs d o hd => by
      cases xs with
      | nil => cases hd
      | cons _ _ => cases o)
  | succ n ih => exact FnAt.of (N := N__law_spoiled) (ps := P__law_spoiled) F hg ⟨rfl, rfl, rfl, by decide +kernel, rfl, by decide +kernel, by decide +kernel⟩ rfl b (fun cdv A outer s H E Y c => d__law_spoiled S.facts (by omega) (FX__law_taken S) (FX__law_pick S) ih cdv A outer s H E Y c) (s__law_spoiled K (n + 1) _ fun xs d o hd sm hn Q E q => ⟨⟨okDs_in o hd, sm, by omega⟩, q⟩)
theorem FX__law_spoiled (S : Sy K mg h) : FnAt LP w K mg base 50 "_law_spoiled" 2 (m__law_spoiled K) := (FX__law_spoiled_n S 40).mono (by decide)
theorem FX__law_whole (S : Sy K mg h) : FnAt LP w K mg base 1 "_law_whole" 3 (m__law_whole K) := by
  obtain ⟨fd, F⟩ := S.c.d.def_ 39 (d := fD__law_whole) rfl
  exact (FnAt.of (N := N__law_whole) (ps := P__law_whole) F (He.glo_ok S.X S.G (S.c.d.fact 64 (f := .glo "_law_whole") rfl)) ⟨rfl, rfl, rfl, by decide +kernel, rfl, by decide +kernel, by decide +kernel⟩ rfl (F.bindsN (fun _ _ _ _ _ _ us hl => match us, hl with | [_, _, _], _ => rfl)) (fun cdv A outer s H E Y c => d__law_whole S.facts  cdv A outer s H E Y c) (s__law_whole K)).mono (by decide)
theorem FX__law_priced (S : Sy K mg h) : FnAt LP w K mg base 4 "_law_priced" 2 (m__law_priced K) := by
  obtain ⟨fd, F⟩ := S.c.d.def_ 43 (d := fD__law_priced) rfl
  exact (FnAt.of (N := N__law_priced) (ps := P__law_priced) F (He.glo_ok S.X S.G (S.c.d.fact 68 (f := .glo "_law_priced") rfl)) ⟨rfl, rfl, rfl, by decide +kernel, rfl, by decide +kernel, by decide +kernel⟩ rfl (F.bindsN (fun _ _ _ _ _ _ us hl => match us, hl with | [_, _], _ => rfl)) (fun cdv A outer s H E Y c => d__law_priced S.facts (FX__law_whole S) cdv A outer s H E Y c) (s__law_priced K)).mono (by decide)
theorem FX__law_same (S : Sy K mg h) : FnGAt LP w K mg base 1 "_law_same" 2 (m__law_same K) := by
  obtain ⟨fd, F⟩ := S.c.d.def_ 31 (d := fD__law_same) rfl
  exact FnGAt.of (N := N__law_same) (ps := P__law_same) F (He.glo_ok S.X S.G (S.c.d.fact 56 (f := .glo "_law_same") rfl)) ⟨rfl, rfl, rfl, by decide +kernel, rfl, by decide +kernel, by decide +kernel⟩ rfl (F.bindsN (fun _ _ _ _ _ _ us hl => match us, hl with | [_, _], _ => rfl)) (fun cdv A outer s H E Y hgd c => d__law_same S.facts cdv A outer s H E Y hgd c) (s__law_same K)
theorem FX_fair_hours (S : Sy K mg h) : FnAt LP w K mg base 1 "fair_hours" 1 (m_fair_hours K) := by
  obtain ⟨fd, F⟩ := S.c.d.def_ 17 (d := fD_fair_hours) rfl
  exact (FnAt.of (N := N_fair_hours) (ps := P_fair_hours) F (He.glo_ok S.X S.G (S.c.d.fact 42 (f := .glo "fair_hours") rfl)) ⟨rfl, rfl, rfl, by decide +kernel, rfl, by decide +kernel, by decide +kernel⟩ rfl (F.bindsN (fun _ _ _ _ _ _ us hl => match us, hl with | [_], _ => rfl)) (fun cdv A outer s H E Y c => d_fair_hours S.facts  cdv A outer s H E Y c) (s_fair_hours K)).mono (by decide)
theorem FX_unfair_hours (S : Sy K mg h) : FnAt LP w K mg base 2 "unfair_hours" 1 (m_unfair_hours K) := by
  obtain ⟨fd, F⟩ := S.c.d.def_ 23 (d := fD_unfair_hours) rfl
  exact (FnAt.of (N := N_unfair_hours) (ps := P_unfair_hours) F (He.glo_ok S.X S.G (S.c.d.fact 48 (f := .glo "unfair_hours") rfl)) ⟨rfl, rfl, rfl, by decide +kernel, rfl, by decide +kernel, by decide +kernel⟩ rfl (F.bindsN (fun _ _ _ _ _ _ us hl => match us, hl with | [_], _ => rfl)) (fun cdv A outer s H E Y c => d_unfair_hours S.facts (FX_fair_hours S) cdv A outer s H E Y c) (s_unfair_hours K)).mono (by decide)
theorem FX_most_for (S : Sy K mg h) : FnAt LP w K mg base 3 "most_for" 2 (m_most_for K) := by
  obtain ⟨fd, F⟩ := S.c.d.def_ 25 (d := fD_most_for) rfl
  exact (FnAt.of (N := N_most_for) (ps := P_most_for) F (He.glo_ok S.X S.G (S.c.d.fact 50 (f := .glo "most_for") rfl)) ⟨rfl, rfl, rfl, by decide +kernel, rfl, by decide +kernel, by decide +kernel⟩ rfl (F.bindsN (fun _ _ _ _ _ _ us hl => match us, hl with | [_, _], _ => rfl)) (fun cdv A outer s H E Y c => d_most_for S.facts (XX_BadNumber S) (FX_is_row S) (FX_is_within S) cdv A outer s H E Y c) (s_most_for K)).mono (by decide)
theorem FX_share_at (S : Sy K mg h) : FnAt LP w K mg base 3 "share_at" 2 (m_share_at K) := by
  obtain ⟨fd, F⟩ := S.c.d.def_ 24 (d := fD_share_at) rfl
  exact (FnAt.of (N := N_share_at) (ps := P_share_at) F (He.glo_ok S.X S.G (S.c.d.fact 49 (f := .glo "share_at") rfl)) ⟨rfl, rfl, rfl, by decide +kernel, rfl, by decide +kernel, by decide +kernel⟩ rfl (F.bindsN (fun _ _ _ _ _ _ us hl => match us, hl with | [_, _], _ => rfl)) (fun cdv A outer s H E Y c => d_share_at S.facts (XX_Unknown S) cdv A outer s H E Y c) (s_share_at K)).mono (by decide)
theorem FX__law_at (S : Sy K mg h) : FnAt LP w K mg base 1 "_law_at" 3 (m__law_at K) := by
  obtain ⟨fd, F⟩ := S.c.d.def_ 37 (d := fD__law_at) rfl
  exact (FnAt.of (N := N__law_at) (ps := P__law_at) F (He.glo_ok S.X S.G (S.c.d.fact 62 (f := .glo "_law_at") rfl)) ⟨rfl, rfl, rfl, by decide +kernel, rfl, by decide +kernel, by decide +kernel⟩ rfl (F.bindsN (fun _ _ _ _ _ _ us hl => match us, hl with | [_, _, _], _ => rfl)) (fun cdv A outer s H E Y c => d__law_at S.facts  cdv A outer s H E Y c) (s__law_at K)).mono (by decide)
theorem FX_require_part (S : Sy K mg h) : FnAt LP w K mg base 3 "require_part" 2 (m_require_part K) := by
  obtain ⟨fd, F⟩ := S.c.d.def_ 5 (d := fD_require_part) rfl
  exact (FnAt.of (N := N_require_part) (ps := P_require_part) F (He.glo_ok S.X S.G (S.c.d.fact 34 (f := .glo "require_part") rfl)) ⟨rfl, rfl, rfl, by decide +kernel, rfl, by decide +kernel, by decide +kernel⟩ rfl (F.bindsN (fun _ _ _ _ _ _ us hl => match us, hl with | [_, _], _ => rfl)) (fun cdv A outer s H E Y c => d_require_part S.facts (XX_BadPart S) cdv A outer s H E Y c) (s_require_part K)).mono (by decide)
theorem FX_is_name (S : Sy K mg h) : FnAt LP w K mg base 1 "is_name" 1 (m_is_name K) := by
  obtain ⟨fd, F⟩ := S.c.d.def_ 2 (d := fD_is_name) rfl
  exact (FnAt.of (N := N_is_name) (ps := P_is_name) F (He.glo_ok S.X S.G (S.c.d.fact 31 (f := .glo "is_name") rfl)) ⟨rfl, rfl, rfl, by decide +kernel, rfl, by decide +kernel, by decide +kernel⟩ rfl (F.bindsN (fun _ _ _ _ _ _ us hl => match us, hl with | [_], _ => rfl)) (fun cdv A outer s H E Y c => d_is_name S.facts  cdv A outer s H E Y c) (s_is_name K)).mono (by decide)
theorem FX_names_in (S : Sy K mg h) : FnAt LP w K mg base 1 "names_in" 1 (m_names_in K) := by
  obtain ⟨fd, F⟩ := S.c.d.def_ 9 (d := fD_names_in) rfl
  exact (FnAt.of (N := N_names_in) (ps := P_names_in) F (He.glo_ok S.X S.G (S.c.d.fact 38 (f := .glo "names_in") rfl)) ⟨rfl, rfl, rfl, by decide +kernel, rfl, by decide +kernel, by decide +kernel⟩ rfl (F.bindsN (fun _ _ _ _ _ _ us hl => match us, hl with | [_], _ => rfl)) (fun cdv A outer s H E Y c => d_names_in S.facts  cdv A outer s H E Y c) (s_names_in K)).mono (by decide)
theorem FX_is_share (S : Sy K mg h) : FnAt LP w K mg base 3 "is_share" 2 (m_is_share K) := by
  obtain ⟨fd, F⟩ := S.c.d.def_ 10 (d := fD_is_share) rfl
  exact (FnAt.of (N := N_is_share) (ps := P_is_share) F (He.glo_ok S.X S.G (S.c.d.fact 39 (f := .glo "is_share") rfl)) ⟨rfl, rfl, rfl, by decide +kernel, rfl, by decide +kernel, by decide +kernel⟩ rfl (F.bindsN (fun _ _ _ _ _ _ us hl => match us, hl with | [_, _], _ => rfl)) (fun cdv A outer s H E Y c => d_is_share S.facts (FX_is_within S) (FX_is_row S) (FX_is_name S) (FX_names_in S) cdv A outer s H E Y c) (s_is_share K)).mono (by decide)
theorem FX_first_wrong (S : Sy K mg h) : FnAt LP w K mg base 4 "first_wrong" 4 (m_first_wrong K) := by
  obtain ⟨fd, F⟩ := S.c.d.def_ 4 (d := fD_first_wrong) rfl
  exact (FnAt.of (N := N_first_wrong) (ps := P_first_wrong) F (He.glo_ok S.X S.G (S.c.d.fact 33 (f := .glo "first_wrong") rfl)) ⟨rfl, rfl, rfl, by decide +kernel, rfl, by decide +kernel, by decide +kernel⟩ rfl (F.bindsN (fun _ _ _ _ _ _ us hl => match us, hl with | [_, _, _, _], _ => rfl)) (fun cdv A outer s H E Y c => d_first_wrong S.facts ((FX_is_share S).adr S.facts.f_is_share) cdv A outer s H E Y c) (s_first_wrong K (He.ga K "is_share") shareB (m_is_share K) jdg_share)).mono (by decide)
theorem FX_wrong_place (S : Sy K mg h) : FnAt LP w K mg base 5 "wrong_place" 2 (m_wrong_place K) := by
  obtain ⟨fd, F⟩ := S.c.d.def_ 11 (d := fD_wrong_place) rfl
  exact (FnAt.of (N := N_wrong_place) (ps := P_wrong_place) F (He.glo_ok S.X S.G (S.c.d.fact 40 (f := .glo "wrong_place") rfl)) ⟨rfl, rfl, rfl, by decide +kernel, rfl, by decide +kernel, by decide +kernel⟩ rfl (F.bindsN (fun _ _ _ _ _ _ us hl => match us, hl with | [_, _], _ => rfl)) (fun cdv A outer s H E Y c => d_wrong_place S.facts (FX_first_wrong S) cdv A outer s H E Y c) (s_wrong_place K)).mono (by decide)
theorem FX_require_parts (S : Sy K mg h) : FnAt LP w K mg base 6 "require_parts" 4 (m_require_parts K) := by
  obtain ⟨fd, F⟩ := S.c.d.def_ 6 (d := fD_require_parts) rfl
  exact (FnAt.of (N := N_require_parts) (ps := P_require_parts) F (He.glo_ok S.X S.G (S.c.d.fact 35 (f := .glo "require_parts") rfl)) ⟨rfl, rfl, rfl, by decide +kernel, rfl, by decide +kernel, by decide +kernel⟩ rfl (F.bindsN (fun _ _ _ _ _ _ us hl => match us, hl with | [_, _, _, _], _ => rfl)) (fun cdv A outer s H E Y c => d_require_parts S.facts ((FX_wrong_place S).adr S.facts.f_wrong_place) (FX_is_row S) (FX_require_part S) cdv A outer s H E Y c) (fun ds Q E hl ⟨⟨thing, parts, f, e, l⟩, h⟩ => s_require_parts K (He.ga K "wrong_place") wrongD (m_wrong_place K) 1 jdp_wrong ds Q E hl ⟨⟨thing, d_PARTS, parts, f, e, l⟩, h⟩)).mono (by decide)
theorem MX_Turns (S : Sy K mg h) : MkAt LP w K mg base 7 "Turns" (He.ga K "Turns") ks_Turns 1 (m_Turns K) := by
  obtain ⟨fd, F⟩ := S.c.d.def_ 12 (d := fD_Turns_init) rfl
  exact ⟨_, fd, P_Turns_init, He.mkr_ok (S.c.d.fact 82 (f := .mkr "Turns") rfl), S.facts.g_Turns, F.bindsN (fun _ _ _ _ _ _ us hl => match us, hl with | [_, _], _ => rfl), fnOkI_of (N := N_Turns_init) F ⟨rfl, rfl, rfl, by decide +kernel, rfl, by decide +kernel, by decide +kernel⟩ rfl (by decide) (fun cdv A outer s H E Y c => d_Turns_init S.facts (FX_require_parts S) (FX_names_in S) cdv A outer s H E Y c) (s_Turns_init K)⟩
theorem FX_replaced (S : Sy K mg h) : FnAt LP w K mg base 1 "replaced" 3 (m_replaced K) := by
  obtain ⟨fd, F⟩ := S.c.d.def_ 7 (d := fD_replaced) rfl
  exact (FnAt.of (N := N_replaced) (ps := P_replaced) F (He.glo_ok S.X S.G (S.c.d.fact 36 (f := .glo "replaced") rfl)) ⟨rfl, rfl, rfl, by decide +kernel, rfl, by decide +kernel, by decide +kernel⟩ rfl (F.bindsN (fun _ _ _ _ _ _ us hl => match us, hl with | [_, _, _], _ => rfl)) (fun cdv A outer s H E Y c => d_replaced S.facts  cdv A outer s H E Y c) (s_replaced K)).mono (by decide)
theorem FX_place_of (S : Sy K mg h) : FnAt LP w K mg base 4 "place_of" 3 (m_place_of K) := by
  obtain ⟨fd, F⟩ := S.c.d.def_ 8 (d := fD_place_of) rfl
  exact (FnAt.of (N := N_place_of) (ps := P_place_of) F (He.glo_ok S.X S.G (S.c.d.fact 37 (f := .glo "place_of") rfl)) ⟨rfl, rfl, rfl, by decide +kernel, rfl, by decide +kernel, by decide +kernel⟩ rfl (F.bindsN (fun _ _ _ _ _ _ us hl => match us, hl with | [_, _, _], _ => rfl)) (fun cdv A outer s H E Y c => d_place_of S.facts (FX_require_part S) cdv A outer s H E Y c) (s_place_of K)).mono (by decide)
theorem WX_Turns_with_part (S : Sy K mg h) : MtAt LP w K mg base 9 (He.ga K "Turns") "with_part" 2 (m_Turns_with_part K) := by
  obtain ⟨fd, F⟩ := S.c.d.def_ 13 (d := fD_Turns_with_part) rfl
  exact ⟨_, fd, P_Turns_with_part, S.facts.cls_Turns, He.meth_ok (S.c.d.fact 87 (f := .meth "Turns" "with_part") rfl), F.bindsN (fun _ _ _ _ _ _ us hl => match us, hl with | [_, _, _], _ => rfl), (fnOk_of (N := N_Turns_with_part) (ps := P_Turns_with_part) (n := 3) F ⟨rfl, rfl, rfl, by decide +kernel, rfl, by decide +kernel, by decide +kernel⟩ rfl (fun cdv A outer s H E Y c => d_Turns_with_part S.facts (MX_Turns S) (FX_replaced S) (FX_place_of S) cdv A outer s H E Y c) (s_Turns_with_part K)).mono (by decide)⟩
theorem WX_Turns_with_share (S : Sy K mg h) : MtAt LP w K mg base 10 (He.ga K "Turns") "with_share" 3 (m_Turns_with_share K) := by
  obtain ⟨fd, F⟩ := S.c.d.def_ 14 (d := fD_Turns_with_share) rfl
  exact ⟨_, fd, P_Turns_with_share, S.facts.cls_Turns, He.meth_ok (S.c.d.fact 88 (f := .meth "Turns" "with_share") rfl), F.bindsN (fun _ _ _ _ _ _ us hl => match us, hl with | [_, _, _, _], _ => rfl), (fnOk_of (N := N_Turns_with_share) (ps := P_Turns_with_share) (n := 4) F ⟨rfl, rfl, rfl, by decide +kernel, rfl, by decide +kernel, by decide +kernel⟩ rfl (fun cdv A outer s H E Y c => d_Turns_with_share S.facts (XX_Unknown S) (WX_Turns_with_part S) (FX_replaced S) cdv A outer s H E Y c) (s_Turns_with_share K)).mono (by decide)⟩
end
end K16
set_option maxHeartbeats 0
namespace K16
open L2 PySem PySem.Spec WL
theorem run (w : World) : HandSHeadRun.RunEq R qv hk ob 12000 names w := by
  intro os
  kernel_rfl
end K16
set_option maxHeartbeats 4000000
namespace WL
open L2 PySem PySem.Spec PyProof.Rows
/-! ### the law is called: no repr is under way, one table -/
/-- what is tracked there -/
def H9 (K : PySem.W.Frag) (a P1 : Addr) (vs : List Value) (ns : List Int) : Hp := fun b => if b = P1 then some (.tbl #[]) else if b = a ∧ K.lookup a = none then some (.frz { cls := .type "list", data := .seq vs.toArray } (.lst (ns.map V.int))) else none
def spLw (K : PySem.W.Frag) (P1 : Addr) : Sp := fun vs H Q _ => ∃ (a : Addr) (ns : List Int), vs = [.ref a] ∧ ScrAt K (fun _ => False) H a ns ∧ H P1 = some (.tbl #[]) ∧ ∀ H', Q (.bl true) H'
theorem law_callG {P : Program} {w : World} {K : PySem.W.Frag} {mg mb : Str → Option Value} {k : Nat} {fa a cP P1 : Addr} {fd : FuncData} {x : Str} {s₁ : Shared} {vs : List Value} {ns : List Int}
    (KX : K.In s₁.heap) (hns : s₁.heap.Ns mainGlobals mg) (hb : s₁.heap.Ns builtinsNs mb) (hbb : ∀ x : Str, x ≠ "__name__" → mb x = bootBuiltins x) (hlim : s₁.heap.NoLimit) (hg : s₁.gens = #[])
    (hT : s₁.heap.get? P1 = some { cls := .none, data := .fields #[] }) (nT : K.lookup P1 = none) (C : PySem.W.CodeHd s₁.heap cP P1)
    (hbm : ∃ (bm : Addr) (ob : Obj), mg "__builtins__" = some (.ref bm) ∧ bm ≠ builtinsNs ∧ s₁.heap.get? bm = some ob ∧ ob.cls = .type "module" ∧ ob.dict = some builtinsNs ∧ ob.data = .plain)
    (ha : s₁.heap.get? a = some { cls := .type "list", data := .seq vs.toArray }) (hi : IntsAre vs ns) (hl : ns.length ≤ sizeLine) (hr : Room k callerA)
    (F : ∀ bs : Heap, K.In bs → bs.Ns mainGlobals mg → LamX.TabB bs mg cP P1 → FnG P w K mg bs k fa fd [x] (spLw K P1)) (hbind : ∀ (s : Shared) (u : Value), BindsTo s fd ⟨[u], []⟩ [(x, u)]) :
    codeAny (model P w) callerA (.call (.ref fa) ⟨[.ref a], []⟩) (fun r s' => r = .ok (.ret (.bool true)) ∧ OldK s₁.heap s'.heap ∧ s'.os = s₁.os ∧ AllBare s'.gens) s₁ := by
  have vv := vals_ints hi
  have nAP : a ≠ P1 := fun z => by rw [z, hT] at ha; cases ha
  have at0 : H9 K a P1 vs ns P1 = some (.tbl #[]) := if_pos rfl
  have out : ∀ b, b ≠ P1 → b ≠ a → H9 K a P1 vs ns b = none := fun b h1 h2 => by
    unfold H9
    rw [if_neg h1, if_neg fun z => h2 z.1]
  have atA : H9 K a P1 vs ns a = if K.lookup a = none then some (.frz { cls := .type "list", data := .seq vs.toArray } (.lst (ns.map V.int))) else none := by
    unfold H9
    rw [if_neg nAP]
    by_cases z : K.lookup a = none
    · rw [if_pos ⟨rfl, z⟩, if_pos z]
    · rw [if_neg fun q => z q.2, if_neg z]
  have mem : ∀ b u, H9 K a P1 vs ns b = some u → (b = P1 ∧ u = .tbl #[]) ∨ (b = a ∧ K.lookup a = none ∧ u = .frz { cls := .type "list", data := .seq vs.toArray } (.lst (ns.map V.int))) := fun b u e => by
    unfold H9 at e
    split at e
    · rename_i z; cases e; exact .inl ⟨z, rfl⟩
    · split at e
      · rename_i z; cases e; exact .inr ⟨z.1, z.2, rfl⟩
      · cases e
  have scr : ScrAt K (fun _ => False) (H9 K a P1 vs ns) a ns := by
    cases hk : K.lookup a with
    | none =>
      rw [hk, if_pos rfl] at atA
      exact .inl ⟨.inr ⟨_, atA⟩, fun z => z⟩
    | some o =>
      have e := KX a o hk
      rw [ha] at e
      cases e
      exact .inr fun H1 => .inr ⟨_, vs.toArray, _, hk, rfl, rfl, rfl, by rw [List.size_toArray, hi.length]; exact hl, by simpa using vv⟩
  have hok : HOk P w (H9 K a P1 vs ns) s₁.heap := fun b u e => by
    rcases mem b u e with ⟨rfl, rfl⟩ | ⟨rfl, hk, rfl⟩
    · exact hT
    · exact ⟨ha, by rw [List.length_map]; exact hl, vs, _, vv, ha⟩
  -- the rest of the heap stands below
  have low : ∀ {b : Addr} {o : Obj}, s₁.heap.get? b = some o → (∀ z n, o.data ≠ .seq z n) → o.data ≠ .fields #[] → (hidT s₁.heap (H9 K a P1 vs ns)).get? b = some o ∧ b ≠ P1 := fun {b o} e h1 h2 => by
    have n1 : b ≠ P1 := fun z => by rw [z, hT] at e; cases e; exact h2 rfl
    exact ⟨hidT_get e (out b n1 fun z => by rw [z, ha] at e; cases e; exact h1 _ _ rfl), n1⟩
  have dic : ∀ {b : Addr} {m : Str → Option Value}, s₁.heap.Ns b m → (hidT s₁.heap (H9 K a P1 vs ns)).Ns b m ∧ b ≠ P1 := fun ⟨o, es, ep, e, d, r⟩ => by
    have q := low e (fun z n h => by rw [d] at h; cases h) (fun h => by rw [d] at h; cases h)
    exact ⟨⟨o, es, ep, q.1, d, r⟩, q.2⟩
  have kin : K.In (hidT s₁.heap (H9 K a P1 vs ns)) := fun b o e => hidT_get (KX b o e) (by
    cases q : H9 K a P1 vs ns b with
    | none => rfl
    | some u =>
      rcases mem b u q with ⟨rfl, _⟩ | ⟨rfl, hk, _⟩
      · rw [nT] at e; cases e
      · rw [hk] at e; cases e)
  have tab : LamX.TabB (hidT s₁.heap (H9 K a P1 vs ns)) mg cP P1 := by
    obtain ⟨o, us, file, tf, flags, tg, inF, text, tt, e1, e2, e3, e4, r⟩ := C
    obtain ⟨bm, ob, b1, b2, b3, b4, b5, b6⟩ := hbm
    have q := low b3 (fun z n h => by rw [b6] at h; cases h) (fun h => by rw [b6] at h; cases h)
    refine ⟨⟨o, us, file, tf, flags, tg, inF, text, tt, (low e1 (fun z n h => by rw [e3] at h; cases h) fun h => ?_).1, e2, e3, e4, r⟩, ⟨bm, ob, b1, b2, fun z => ?_, q.2, q.1, b4, b5, b6⟩, (dic hns).2⟩
    · rw [e3] at h
      cases h
      simp at e4
    · obtain ⟨o', es, ep, f1, f2, _⟩ := hns
      rw [z, f1] at b3
      cases b3
      rw [f2] at b6
      cases b6
  have md : L2.Mod K mg (hidT s₁.heap (H9 K a P1 vs ns)) := by
    obtain ⟨mc, l1, l2⟩ := hlim
    exact ⟨kin, (dic hns).1, ⟨mb, (dic hb).1, hbb⟩, mc, (dic l1).1, l2⟩
  have e0 : Env0 P w K mg (hidT s₁.heap (H9 K a P1 vs ns)) callerA [] s₁ (H9 K a P1 vs ns) := ⟨rfl, md, fun b o e => of_hidT e, Nat.le_of_eq (hidT_size _ _), trivial, (fun b z => nomatch z), hok, .of_eq hg⟩
  have go := (F _ kin (dic hns).1 tab).run callerA [] s₁ (H9 K a P1 vs ns) ⟨[.ref a], []⟩ [.ref a] [.ref a] (fun v _ => v = .bl true) (fun _ _ _ => False) rfl hr e0 (hbind s₁ (.ref a)) (.cons rfl .nil) ⟨a, ns, rfl, scr, at0, fun _ => rfl⟩
  refine codeAny_mono go fun r s' h => ?_
  match r, h with
  | .error e, h => exact absurd h (fun ⟨_, _, _, _, _, _, _, _, _, _, _, _, z⟩ => z)
  | .ok .next, h => exact False.elim h
  | .ok .brk, h => exact False.elim h
  | .ok .cont, h => exact False.elim h
  | .ok (.ret u), h =>
    obtain ⟨v, H', os, bare, un, hok', rv, q⟩ := h
    have q : v = .bl true := q
    subst q
    obtain rfl : u = Value.bool true := rv
    obtain ⟨more, hm⟩ := un.tbls P1 #[] at0
    have hm2 := hok' P1 _ hm
    have kept : ∀ b o, b ≠ P1 → s₁.heap.get? b = some o → s'.heap.get? b = some o := fun b o nb e => by
      cases z : H9 K a P1 vs ns b with
      | none => exact un.keep b o e z (fun y => nomatch y) (by simp)
      | some u =>
        rcases mem b u z with ⟨y, _⟩ | ⟨_, _, rfl⟩
        · exact absurd y nb
        · obtain ⟨f1, _⟩ := hok b _ z
          obtain ⟨f2, _⟩ := hok' b _ (un.frzs b _ _ z)
          rw [e] at f1
          cases f1
          exact f2
    refine ⟨rfl, ⟨fun b o e => ?_, fun b o e => ?_⟩, os, bare⟩
    · by_cases z : b = P1
      · subst z
        rw [hT] at e
        cases e
        exact .inr (.inl ⟨(C.tab hT).isCodeTable, rfl, #[], more, rfl, by rw [Array.empty_append]; rw [Array.empty_append] at hm2; exact hm2⟩)
      · exact .inl (kept b o z e)
    · by_cases z : b = P1
      · subst z
        exact ⟨_, hm2⟩
      · exact ⟨o, kept b o z e⟩
/-- the end of a law: what its promise is at the head's heap -/
theorem walk_G {l : PySem.W.OpenLaw} {n k : Nat} {q : Program} {loose : List Str} {XP : (Str → Option Value) → Heap → Prop} {YP : World → Heap → Prop} {d : DefRec} {x : Str}
    (hn : l.most = some n) (hn2 : n ≤ sizeLine) (hdf : d.params.defaults = []) (hr : Room k callerA)
    (F : ∀ (w : World) (mg : Str → Option Value) (fa : Addr) (h : Heap), YP w h → h.Ns mainGlobals mg → mg d.name = some (.ref fa) → ∃ (K : PySem.W.Frag) (fd : FuncData) (cP P1 : Addr), K.In h ∧ h.get? P1 = some { cls := .none, data := .fields #[] } ∧ K.lookup P1 = none ∧ PySem.W.CodeHd h cP P1 ∧
      (∀ (s : Shared) (u : Value), BindsTo s fd ⟨[u], []⟩ [(x, u)]) ∧ ∀ bs : Heap, K.In bs → bs.Ns mainGlobals mg → LamX.TabB bs mg cP P1 → FnG l.prog w K mg bs k fa fd [x] (spLw K P1)) :
    PySem.W.WalkO q loose XP YP l.row.toRowW d [] (fun f vs => PySem.call f vs) := by
  refine Att.attach_callB hn hdf fun w s₀ s₁ mg mb fa o pm cd doc a vs ns G Y ho hd hcd hmg hobj hints hlen hbits hg => ?_
  obtain ⟨K, fd, cP, P1, KX, hT, nT, C, hb, hF⟩ := F w mg fa _ Y G.T.g hmg
  exact law_callG KX G.T.g G.T.b G.T.builtins G.T.nolimit hg hT nT C G.T.bmain hobj hints (Nat.le_trans hlen hn2) hr hF hb
end WL
set_option maxHeartbeats 0
namespace K16
open L2 PySem PySem.Spec WL
theorem scLaw : FnScope N_law P_law (defScope (top 62)) := ⟨rfl, rfl, rfl, by decide +kernel, rfl, by decide +kernel, by decide +kernel⟩
theorem law_ok {K : PySem.W.Frag} {mg : Str → Option Value} {h : Heap} (S : Sy K mg h) (w : World) : ∃ (fd : FuncData) (cP P1 : Addr), h.get? P1 = some { cls := .none, data := .fields #[] } ∧ K.lookup P1 = none ∧ PySem.W.CodeHd h cP P1 ∧
    (∀ (s : Shared) (u : Value), BindsTo s fd ⟨[u], []⟩ [("script", u)]) ∧ ∀ bs : Heap, K.In bs → bs.Ns mainGlobals mg → LamX.TabB bs mg cP P1 → FnG LP w K mg bs 65 (He.ga K "law") fd ["script"] (spLw K P1) := by
  obtain ⟨fd, F⟩ := S.c.d.def_ 44 (d := fD_law) rfl
  have b := FunD.bindsA (ps := ["script"]) F fun _ _ _ _ _ _ us hl => match us, hl with | [_], _ => rfl
  have ht : (("law", none) : He.Defn) ∈ tf := List.mem_singleton.mpr rfl
  refine ⟨fd, (He.cT K ("law", none)).1, (He.cT K ("law", none)).2, S.c.empty _ ht, S.c.out _ ht, PySem.W.codeHd_of_K S.X (S.c.hd _ ht), fun s v => b s [v] rfl, fun bs hK hN TB => ?_⟩
  refine ⟨fun vs H Q E ⟨a, ns, e, _⟩ => by rw [e]; rfl, fun A outer s H args us vs Q E hgd hr e0 hb rv ⟨a, ns, e, sc, tb, hq⟩ => ?_⟩
  obtain ⟨oc, od, dV, kV, doc, pm, an, cdv, ct, osl, efd, lk, hcd, _, _⟩ := F.ex
  subst efd
  subst e
  obtain ⟨c0, hc0⟩ := He.codeIn_ref hcd
  have ec : cdv = .ref (He.cT K ("law", none)).1 := by
    rw [hc0]
    exact congrArg Value.ref (He.codeOf_eq (p := ("law", none)) lk hc0).symm
  refine LamX.run_ofS lk hcd scLaw hr e0 hb rv rfl fun hr' => ?_
  have no : AOk (fun _ => False) H := fun _ z => z.elim
  refine ⟨_, d_law (base := bs) (G := S.facts) (Q_Turns := QX_Turns S) (F__law_turns := FX__law_turns S) (F__law_in_turn := FX__law_in_turn S) (F__law_pick := FX__law_pick S) (M_Turns := MX_Turns S) (F__law_envies := FX__law_envies S) (F__law_alike := FX__law_alike S) (F_are_turns := FX_are_turns S) (F_price_of := FX_price_of S) (F_turns_paper := FX_turns_paper S) (F__law_taken := FX__law_taken S) (F__law_fresh := FX__law_fresh S) (F_is_turns_paper := FX_is_turns_paper S) (F_is_price := FX_is_price S) (F_is_envy := FX_is_envy S) (W_Turns_with_share := WX_Turns_with_share S) (F_envy_of := FX_envy_of S) (F__law_spoiled := FX__law_spoiled S) (F__law_priced := FX__law_priced S) (F_are_fair := FX_are_fair S) (F_fair_hours := FX_fair_hours S) (F_unfair_hours := FX_unfair_hours S) (F_most_for := FX_most_for S) (F_share_at := FX_share_at S) (W_Turns_with_part := WX_Turns_with_part S) (F__law_at := FX__law_at S) (F__law_same := FX__law_same S) (FT := TX S) (f := _) cdv A outer s H E
    ⟨GrTab [((He.cT K ("law", none)).2, (cxOf (L2.CX LP w) LP w K mg bs N_law "law" (defScope (top 62)) (He.ga K "law") cdv A outer s H E).env.qual ++ "<lambda>")], H, fun _ => False, E, fun _ _ => False⟩ a ns hgd (cok_def hr' scLaw.nd) sc TB ec (List.mem_singleton.mpr rfl)
    (fun p hp _ => by rw [List.mem_singleton.mp hp]) (fun p hp => by
      rw [List.mem_singleton.mp hp]
      exact ⟨#[], tb, trivial, fun pos cv z => by cases z⟩) (grT _),
    fun _ => False, startD N_law [.adr a], kt (fun d => d = .bl true) (fun _ => False), envOk_start no (.cons (.adr a) .nil), fun _ _ _ _ z => z.elim, s_law K a, ?_⟩
  exact ⟨fun A' σ' H' ρ' _ e q => (nomatch (show D.non = .bl true from q)), fun _ _ _ _ _ _ q => q.elim, fun _ _ _ _ _ _ q => q.elim, fun v H' d g r q => by
      have q : d = .bl true := q
      subst q
      cases r
      exact hq H', fun p H' xs ds g n hl r q => (nomatch (show D.lst ds = .bl true from q))⟩
end K16
open PySem PySem.W PySem.Calls PyProof.Rows
theorem PySem.Challenge.cw_waterhours_k16_whole_turns_holds : PySem.Challenge.rw_waterhours_k16_whole_turns.Holds := by
  w_on; o_law
  refine HandSHeadRun.head_any (r := OpenLaw.row PySem.Challenge.rw_waterhours_k16_whole_turns) (q := view (OpenLaw.row PySem.Challenge.rw_waterhours_k16_whole_turns).prog [62]) (H := K16.hk) (ob := K16.ob) (M := 12000) (loose := K16.names) (d := HandSHeadRun.topDef (OpenLaw.row PySem.Challenge.rw_waterhours_k16_whole_turns).prog 62) (kwd := []) K16.ob_eq
    (by kernel_rfl) (fun s => by kernel_rfl) K16.run (by kernel_rfl) (by kernel_rfl) (by kernel_rfl) (by rfl) (by first | assumption | decide +kernel) (by decide +kernel) ⟨rfl, rfl, rfl, rfl, rfl, by decide +kernel⟩ ?hw ?hc
  case hw => w_witness2
  case hc =>
    refine WL.walk_G (l := PySem.Challenge.rw_waterhours_k16_whole_turns) (n := 63) (k := 65) (x := "script") rfl (by decide) (by kernel_rfl) ⟨rfl, by decide, by decide⟩ ?F
    intro w mg fa h Y G hmg0
    obtain ⟨K, KX, c⟩ := Y
    have S : K16.Sy K mg h := ⟨KX, G, c⟩
    have hmg : mg ("law" : PySem.Str) = some (.ref fa) := by
      have e : (HandSHeadRun.topDef (OpenLaw.row PySem.Challenge.rw_waterhours_k16_whole_turns).prog 62).name = ("law" : PySem.Str) := by kernel_rfl
      rw [← e]
      exact hmg0
    have e2 := hmg.symm.trans (He.glo_ok S.X S.G (S.c.d.fact 69 (f := .glo "law") rfl))
    cases e2
    obtain ⟨fd, cP, P1, h1, h2, h3, h4, h5⟩ := K16.law_ok S w
    exact ⟨K, fd, cP, P1, KX, h1, h2, h3, h4, h5⟩
