import PyProof.Rows.All
import Wide.All
import OpenK.AllK
import Wide.FinOn
import PySem.Challenge.RW_pd_canopy_3_03
set_option Elab.async false
set_option maxRecDepth 100000
set_option linter.unusedVariables false
namespace Mine
open PySem PyProof.Rows

/-- plain data: what a value stands for; ptr: an object by its address alone -/
inductive D where
  | none
  | bool (b : Bool)
  | int (i : Int)
  | str (x : Str)
  | tup (ds : List D)
  | lst (ds : List D)
  | ptr (a : Addr)

abbrev Kn := Addr → Option Obj
def Ext (g g' : Kn) : Prop := ∀ a o, g a = some o → g' a = some o
theorem Ext.refl (g : Kn) : Ext g g := fun _ _ e => e
theorem Ext.trans {g g' g'' : Kn} (x : Ext g g') (y : Ext g' g'') : Ext g g'' := fun a o e => y a o (x a o e)
abbrev lstO (vs : List Value) (n : Nat) : Obj := { cls := .type "list", data := .seq vs.toArray n }
abbrev tupO (vs : List Value) (n : Nat) : Obj := { cls := .type "tuple", data := .seq vs.toArray n }

mutual
inductive Rep (g : Kn) : Value → D → Prop
  | none : Rep g .none .none
  | bool (b : Bool) : Rep g (.bool b) (.bool b)
  | int (i : Int) (t : Tok) : Rep g (.int i t) (.int i)
  | str (x : Str) (t : Tok) : Rep g (.str x t) (.str x)
  | tup {a : Addr} {vs : List Value} {n : Nat} {ds : List D} : g a = some (tupO vs n) → RepAll g vs ds → Rep g (.ref a) (.tup ds)
  | lst {a : Addr} {vs : List Value} {n : Nat} {ds : List D} : g a = some (lstO vs n) → RepAll g vs ds → Rep g (.ref a) (.lst ds)
  | ptr (a : Addr) : Rep g (.ref a) (.ptr a)
inductive RepAll (g : Kn) : List Value → List D → Prop
  | nil : RepAll g [] []
  | cons {v : Value} {vs : List Value} {d : D} {ds : List D} : Rep g v d → RepAll g vs ds → RepAll g (v :: vs) (d :: ds)
end
mutual
theorem Rep.mono {g g' : Kn} (x : Ext g g') : ∀ {v : Value} {d : D}, Rep g v d → Rep g' v d
  | _, _, .none => .none
  | _, _, .bool b => .bool b
  | _, _, .int i t => .int i t
  | _, _, .str s t => .str s t
  | _, _, .tup h r => .tup (x _ _ h) (RepAll.mono x r)
  | _, _, .lst h r => .lst (x _ _ h) (RepAll.mono x r)
  | _, _, .ptr a => .ptr a
theorem RepAll.mono {g g' : Kn} (x : Ext g g') : ∀ {vs : List Value} {ds : List D}, RepAll g vs ds → RepAll g' vs ds
  | _, _, .nil => .nil
  | _, _, .cons h r => .cons (Rep.mono x h) (RepAll.mono x r)
end
section
variable {g : Kn}
theorem RepAll.length {vs : List Value} {ds : List D} (h : RepAll g vs ds) : vs.length = ds.length := by
  induction vs generalizing ds with
  | nil => cases h; rfl
  | cons v vs ih => cases h with | cons _ r => rw [List.length_cons, List.length_cons, ih r]
theorem RepAll.append {vs ws : List Value} {ds es : List D} (h : RepAll g vs ds) (k : RepAll g ws es) : RepAll g (vs ++ ws) (ds ++ es) := by
  induction vs generalizing ds with
  | nil => cases h; exact k
  | cons v vs ih => cases h with | cons h r => exact .cons h (ih r)
theorem RepAll.take {vs : List Value} {ds : List D} (h : RepAll g vs ds) (n : Nat) : RepAll g (vs.take n) (ds.take n) := by
  induction vs generalizing ds n with
  | nil => cases h; simp; exact .nil
  | cons v vs ih =>
    cases h with
    | cons h r =>
      cases n with
      | zero => exact .nil
      | succ n => exact .cons h (ih r n)
theorem RepAll.drop {vs : List Value} {ds : List D} (h : RepAll g vs ds) (n : Nat) : RepAll g (vs.drop n) (ds.drop n) := by
  induction vs generalizing ds n with
  | nil => cases h; simp; exact .nil
  | cons v vs ih =>
    cases h with
    | cons h r =>
      cases n with
      | zero => exact .cons h r
      | succ n => exact ih r n
theorem RepAll.get {vs : List Value} {ds : List D} (h : RepAll g vs ds) {k : Nat} {d : D} (hk : ds[k]? = some d) : ∃ v, vs[k]? = some v ∧ Rep g v d := by
  induction vs generalizing ds k with
  | nil => cases h; simp at hk
  | cons v vs ih =>
    cases h with
    | cons h r =>
      cases k with
      | zero => simp at hk; subst hk; exact ⟨v, rfl, h⟩
      | succ k => exact ih r (by simpa using hk)
theorem RepAll.set {vs : List Value} {ds : List D} (h : RepAll g vs ds) {v : Value} {d : D} (hv : Rep g v d) (k : Nat) : RepAll g (vs.set k v) (ds.set k d) := by
  induction vs generalizing ds k with
  | nil => cases h; exact .nil
  | cons u vs ih =>
    cases h with
    | cons h r =>
      cases k with
      | zero => exact .cons hv r
      | succ k => exact .cons h (ih r k)
theorem RepAll.one {v : Value} {d : D} (h : Rep g v d) : RepAll g [v] [d] := .cons h .nil
end

/-- the mutable lists: whether they may be written, what they hold -/
abbrev Mu := Addr → Option (Bool × List D)
abbrev Md := List (Str × D)
def put (g : Kn) (a : Addr) (o : Obj) : Kn := fun b => if b = a then some o else g b
def mput (mu : Mu) (a : Addr) (x : Bool × List D) : Mu := fun b => if b = a then some x else mu b
def mdel (mu : Mu) (a : Addr) : Mu := fun b => if b = a then none else mu b
theorem put_self {g : Kn} {a : Addr} {o : Obj} : put g a o a = some o := if_pos rfl
theorem put_ne {g : Kn} {a b : Addr} {o : Obj} (h : b ≠ a) : put g a o b = g b := if_neg h
theorem mput_self {mu : Mu} {a : Addr} {x : Bool × List D} : mput mu a x a = some x := if_pos rfl
theorem mput_ne {mu : Mu} {a b : Addr} {x : Bool × List D} (h : b ≠ a) : mput mu a x b = mu b := if_neg h
theorem put_ext {g : Kn} {a : Addr} {o : Obj} (h : g a = none) : Ext g (put g a o) := fun b p e => by
  rw [put_ne]
  · exact e
  · rintro rfl; rw [h] at e; cases e

def HasVar (env : Env) (h : Heap) (x : Str) (v : Value) : Prop :=
  (env.kindOf x = some .local ∧ ∃ m, h.Ns env.locals m ∧ m x = some v) ∨
  (env.kindOf x = some .cell ∧ ∃ c, env.cells.lookup x = some c ∧ h.IsCell c (some v))

/-- the law's surroundings: the program, its top as it stands -/
structure Cx where
  prog : Program
  w : World
  p : Program
  loose : List Str
  mean : ExcName → Option Value
  mg : Str → Option Value
  mb : Str → Option Value
  h₀ : Heap
  T : Top p loose mean mg mb h₀

structure St (X : Cx) (env : Env) (keep g₀ g : Kn) (h : Heap) (md : Md) (mu : Mu) : Prop where
  kind : env.scope.kind = .function
  glob : env.globals = mainGlobals
  blt : env.builtins = builtinsNs
  base : ∀ a o, X.h₀.get? a = some o → g a = some o
  ext : Ext g₀ g
  kn : ∀ a o, g a = some o → h.get? a = some o
  kp : ∀ a o, keep a = some o → h.get? a = some o
  fresh : ∀ a o, g a = some o → g₀ a = some o ∨ keep a = none
  loc : ∃ m, h.Ns env.locals m
  offk : keep env.locals = none
  offg : g env.locals = none
  offm : mu env.locals = none
  cells : ∀ x, env.kindOf x = some .cell → ∃ c vo, env.cells.lookup x = some c ∧ h.IsCell c vo ∧ (env.func.isSome = true → keep c = none) ∧ g c = none ∧ mu c = none ∧ c ≠ env.locals
  inj : env.func.isSome = true → ∀ x y c, env.cells.lookup x = some c → env.cells.lookup y = some c → x = y
  vars : ∀ x d, md.lookup x = some d → ∃ v, HasVar env h x v ∧ Rep g v d
  muok : ∀ a wr ds, mu a = some (wr, ds) → g a = none ∧ (wr = true ↔ keep a = none) ∧ ∃ vs n, h.get? a = some (lstO vs n) ∧ RepAll g vs ds

theorem HasVar.keeps {env : Env} {h h' : Heap} {x : Str} {v : Value} (H : HasVar env h x v) (hk : ∀ b o, h.get? b = some o → h'.get? b = some o) : HasVar env h' x v := by
  rcases H with ⟨k, m, hn, hm⟩ | ⟨k, c, hc, hv⟩
  · exact .inl ⟨k, m, hn.keeps hk, hm⟩
  · exact .inr ⟨k, c, hc, hv.keeps hk⟩

section
variable {X : Cx} {env : Env} {keep g₀ g g' : Kn} {h h' : Heap} {md md' : Md} {mu : Mu}

/-- the heap grows, the known part grows by what was not there -/
theorem St.next (S : St X env keep g₀ g h md mu) (hk : ∀ b o, h.get? b = some o → h'.get? b = some o) (hx : Ext g g') (kn : ∀ a o, g' a = some o → h'.get? a = some o)
    (fr : ∀ a o, g' a = some o → g a = some o ∨ h.get? a = none) : St X env keep g₀ g' h' md mu := by
  have no : ∀ a, g a = none → ∀ o, h.get? a = some o → g' a = none := fun a ha o ho => by
    cases q : g' a with
    | none => rfl
    | some o' =>
      rcases fr a o' q with e | e
      · rw [ha] at e; cases e
      · rw [ho] at e; cases e
  refine ⟨S.kind, S.glob, S.blt, fun a o e => hx _ _ (S.base a o e), S.ext.trans hx, kn, fun a o e => hk _ _ (S.kp a o e), fun a o e => ?_, ?_, S.offk, ?_, S.offm, ?_, S.inj, ?_, ?_⟩
  · rcases fr a o e with e' | e'
    · exact S.fresh a o e'
    · right
      cases q : keep a with
      | none => rfl
      | some o' => rw [S.kp a o' q] at e'; cases e'
  · obtain ⟨m, hm⟩ := S.loc; exact ⟨m, hm.keeps hk⟩
  · obtain ⟨m, o, _, _, ho, _⟩ := S.loc; exact no _ S.offg o ho
  · intro x hx'
    obtain ⟨c, vo, h1, h2, h3, h4, h5, h6⟩ := S.cells x hx'
    obtain ⟨o, ho, _⟩ := id h2
    exact ⟨c, vo, h1, h2.keeps hk, h3, no c h4 o ho, h5, h6⟩
  · intro x d e
    obtain ⟨v, hv, hr⟩ := S.vars x d e
    exact ⟨v, hv.keeps hk, hr.mono hx⟩
  · intro a wr ds e
    obtain ⟨h1, h2, vs, n, h3, h4⟩ := S.muok a wr ds e
    exact ⟨no a h1 _ h3, h2, vs, n, hk _ _ h3, h4.mono hx⟩

theorem St.grows (S : St X env keep g₀ g h md mu) (hk : ∀ b o, h.get? b = some o → h'.get? b = some o) : St X env keep g₀ g h' md mu :=
  S.next hk (Ext.refl g) (fun a o e => hk _ _ (S.kn a o e)) fun _ _ e => .inl e
theorem St.push (S : St X env keep g₀ g h md mu) (o : Obj) : St X env keep g₀ g (h.push o) md mu := S.grows fun _ _ e => Heap.get?_push_of_some _ e
theorem fresh_size (h : Heap) : h.get? h.objs.size = none := by
  cases q : h.get? h.objs.size with
  | none => rfl
  | some o => exact absurd (Heap.lt_size q) (Nat.lt_irrefl _)
theorem St.free_size (S : St X env keep g₀ g h md mu) : g h.objs.size = none := by
  cases q : g h.objs.size with
  | none => rfl
  | some o => exact absurd (Heap.lt_size (S.kn _ _ q)) (Nat.lt_irrefl _)
/-- a new object, known from here on -/
theorem St.alloc (S : St X env keep g₀ g h md mu) (o : Obj) (hf : o.isFreed = false := by rfl) : St X env keep g₀ (put g h.objs.size o) (h.push o) md mu := by
  refine S.next (fun _ _ e => Heap.get?_push_of_some _ e) (put_ext S.free_size) (fun a p e => ?_) fun a p e => ?_
  · by_cases q : a = h.objs.size
    · subst q; rw [put_self] at e; cases e; exact Heap.get?_push_size _ hf
    · rw [put_ne q] at e; exact Heap.get?_push_of_some _ (S.kn _ _ e)
  · by_cases q : a = h.objs.size
    · subst q; exact .inr (fresh_size h)
    · rw [put_ne q] at e; exact .inl e
theorem St.weaken (S : St X env keep g₀ g h md mu) (hm : ∀ x d, md'.lookup x = some d → md.lookup x = some d) : St X env keep g₀ g h md' mu :=
  { S with vars := fun x d e => S.vars x d (hm x d e) }
/-- a mutable list that is new -/
theorem St.allocMu (S : St X env keep g₀ g h md mu) {vs : List Value} {ds : List D} (r : RepAll g vs ds) : St X env keep g₀ g (h.push (lstO vs 0)) md (mput mu h.objs.size (true, ds)) := by
  have P := S.push (lstO vs 0)
  have hL : env.locals ≠ h.objs.size := by
    rintro e; obtain ⟨m, o, _, _, ho, _⟩ := S.loc; exact absurd (Heap.lt_size ho) (by rw [e]; exact Nat.lt_irrefl _)
  refine { P with offm := by rw [mput_ne hL]; exact S.offm, cells := fun x hx => ?_, muok := fun a wr es e => ?_ }
  · obtain ⟨c, vo, h1, h2, h3, h4, h5, h6⟩ := S.cells x hx
    have hc : c ≠ h.objs.size := fun e => absurd h2.lt (by rw [e]; exact Nat.lt_irrefl _)
    exact ⟨c, vo, h1, h2.keeps fun _ _ e => Heap.get?_push_of_some _ e, h3, h4, by rw [mput_ne hc]; exact h5, h6⟩
  · by_cases q : a = h.objs.size
    · subst q
      rw [mput_self] at e; cases e
      refine ⟨S.free_size, ⟨fun _ => ?_, fun _ => rfl⟩, vs, 0, Heap.get?_push_size _ rfl, r⟩
      cases q : keep h.objs.size with
      | none => rfl
      | some o => exact absurd (Heap.lt_size (S.kp _ _ q)) (Nat.lt_irrefl _)
    · rw [mput_ne q] at e; exact P.muok a wr es e
theorem St.mu_lt (S : St X env keep g₀ g h md mu) {a : Addr} {x : Bool × List D} (e : mu a = some x) : a < h.objs.size := by
  obtain ⟨_, _, vs, n, h3, _⟩ := S.muok a x.1 x.2 e
  exact Heap.lt_size h3
/-- a mutable list is written -/
theorem St.write (S : St X env keep g₀ g h md mu) {a : Addr} {ds es : List D} {ws : List Value} {k : Nat} (e : mu a = some (true, ds)) (hs : Heap.SameBut a h h') (ho : h'.get? a = some (lstO ws k)) (r : RepAll g ws es) :
    St X env keep g₀ g h' md (mput mu a (true, es)) := by
  obtain ⟨h1, h2, vs, n, h3, h4⟩ := S.muok a true ds e
  have hL : env.locals ≠ a := by rintro rfl; rw [S.offm] at e; cases e
  have kn : ∀ b o, g b = some o → h'.get? b = some o := fun b o q => (hs.2 b (by rintro rfl; rw [h1] at q; cases q)).trans (S.kn b o q)
  have hv : ∀ x v, HasVar env h x v → (∀ c, env.cells.lookup x = some c → env.kindOf x = some .cell → c ≠ a) → HasVar env h' x v := by
    rintro x v (⟨k, m, hn, hm⟩ | ⟨k, c, hc, hv⟩) hne
    · exact .inl ⟨k, m, hn.sameBut hs hL, hm⟩
    · exact .inr ⟨k, c, hc, hv.sameBut hs (hne c hc k)⟩
  refine ⟨S.kind, S.glob, S.blt, S.base, S.ext, kn, fun b o q => (hs.2 b (by rintro rfl; rw [h2.mp rfl] at q; cases q)).trans (S.kp b o q), S.fresh, ?_, S.offk, S.offg, by rw [mput_ne hL]; exact S.offm, fun x hx => ?_, S.inj, fun x d q => ?_, fun b wr fs q => ?_⟩
  · obtain ⟨m, hm⟩ := S.loc; exact ⟨m, hm.sameBut hs hL⟩
  · obtain ⟨c, vo, c1, c2, c3, c4, c5, c6⟩ := S.cells x hx
    have hc : c ≠ a := by rintro rfl; rw [c5] at e; cases e
    exact ⟨c, vo, c1, c2.sameBut hs hc, c3, c4, by rw [mput_ne hc]; exact c5, c6⟩
  · obtain ⟨v, hvar, hr⟩ := S.vars x d q
    refine ⟨v, hv x v hvar (fun c hc hk ce => ?_), hr⟩
    subst ce
    rcases hvar with ⟨k', _⟩ | ⟨_, c', hc', cell⟩
    · rw [hk] at k'; cases k'
    · rw [hc] at hc'; cases hc'
      obtain ⟨o', ho', hd'⟩ := cell
      rw [h3] at ho'; cases ho'; cases hd'
  · by_cases qa : b = a
    · subst qa; rw [mput_self] at q; cases q
      exact ⟨h1, h2, ws, k, ho, r⟩
    · rw [mput_ne qa] at q
      obtain ⟨m1, m2, us, j, m3, m4⟩ := S.muok b wr fs q
      exact ⟨m1, m2, us, j, (hs.2 b qa).trans m3, m4⟩
end
end Mine

namespace Mine
open PySem PyProof.Rows

section
variable {X : Cx} {A : Around} {env : Env} {keep g₀ g : Kn} {md : Md} {mu : Mu} {s : Shared} {E : Value → Shared → Prop}

theorem lookup_cons_str {x y : Str} {d : D} {md : Md} : List.lookup y ((x, d) :: md) = if y = x then some d else md.lookup y := by
  rw [List.lookup_cons]
  by_cases q : y = x
  · subst q; simp
  · have : (y == x) = false := beq_eq_false_iff_ne.mpr q
    rw [this, if_neg q]

/-- a name is stored -/
theorem store_ {x : Str} {v : Value} {d : D} {Q : Unit → Shared → Prop} (S : St X env keep g₀ g s.heap md mu) (r : Rep g v d)
    (hx : env.kindOf x = some .local ∨ (env.kindOf x = some .cell ∧ env.func.isSome = true))
    (h : ∀ h' tk, St X env keep g₀ g h' ((x, d) :: md) mu → Q () { s with heap := h', toks := tk }) :
    wpAny (model X.prog X.w) A (storeName env x v) Q E s := by
  rcases hx with hl | ⟨hl, hf⟩
  · obtain ⟨m, hm⟩ := S.loc
    refine wpAny_storeName_local hl hm (fun h' hn hs => h h' _ ?_) (by rw [S.kind]; rfl)
    have cne : ∀ (vo : Option Value) (y : Str) (c : Addr), env.kindOf y = some .cell → env.cells.lookup y = some c → s.heap.IsCell c vo → c ≠ env.locals := by
      intro vo y c _ _ hc e
      subst e
      obtain ⟨o, ho, hd⟩ := hc
      obtain ⟨o', es, ep, ho', hd', _⟩ := hm
      rw [ho] at ho'; cases ho'; rw [hd] at hd'; cases hd'
    refine ⟨S.kind, S.glob, S.blt, S.base, S.ext, fun a o e => (hs.2 a ?_).trans (S.kn a o e), fun a o e => (hs.2 a ?_).trans (S.kp a o e), S.fresh, ⟨_, hn⟩, S.offk, S.offg, S.offm, fun y hy => ?_, S.inj, fun y d' e => ?_, fun a wr ds e => ?_⟩
    · rintro rfl; rw [S.offg] at e; cases e
    · rintro rfl; rw [S.offk] at e; cases e
    · obtain ⟨c, vo, c1, c2, c3, c4, c5, c6⟩ := S.cells y hy
      exact ⟨c, vo, c1, c2.sameBut hs c6, c3, c4, c5, c6⟩
    · rw [lookup_cons_str] at e
      by_cases q : y = x
      · subst q
        rw [if_pos rfl] at e; cases e
        exact ⟨v, .inl ⟨hl, _, hn, if_pos rfl⟩, r⟩
      · rw [if_neg q] at e
        obtain ⟨u, hu, hr⟩ := S.vars y d' e
        refine ⟨u, ?_, hr⟩
        rcases hu with ⟨k, m2, hm2, e2⟩ | ⟨k, c, hc, hv⟩
        · refine .inl ⟨k, _, hn, ?_⟩
          show (if y = x then some v else m y) = some u
          rw [if_neg q, hm.agree hm2, e2]
        · exact .inr ⟨k, c, hc, hv.sameBut hs (cne _ y c k hc hv)⟩
    · obtain ⟨m1, m2, vs, n, m3, m4⟩ := S.muok a wr ds e
      refine ⟨m1, m2, vs, n, (hs.2 a ?_).trans m3, m4⟩
      rintro rfl; rw [S.offm] at e; cases e
  · obtain ⟨c, vo, c1, c2, c3, c4, c5, c6⟩ := S.cells x hl
    refine wpAny_storeName_cell S.kind hl c1 c2 fun h' hv hs => h h' s.toks ?_
    refine ⟨S.kind, S.glob, S.blt, S.base, S.ext, fun a o e => (hs.2 a ?_).trans (S.kn a o e), fun a o e => (hs.2 a ?_).trans (S.kp a o e), S.fresh, ?_, S.offk, S.offg, S.offm, fun y hy => ?_, S.inj, fun y d' e => ?_, fun a wr ds e => ?_⟩
    · rintro rfl; rw [c4] at e; cases e
    · rintro rfl; rw [c3 hf] at e; cases e
    · obtain ⟨m, hm⟩ := S.loc; exact ⟨m, hm.sameBut hs (Ne.symm c6)⟩
    · by_cases q : y = x
      · subst q; exact ⟨c, some v, c1, hv, c3, c4, c5, c6⟩
      · obtain ⟨c', vo', b1, b2, b3, b4, b5, b6⟩ := S.cells y hy
        exact ⟨c', vo', b1, b2.sameBut hs (fun e => q (S.inj hf y x c (e ▸ b1) c1)), b3, b4, b5, b6⟩
    · rw [lookup_cons_str] at e
      by_cases q : y = x
      · subst q
        rw [if_pos rfl] at e; cases e
        exact ⟨v, .inr ⟨hl, c, c1, hv⟩, r⟩
      · rw [if_neg q] at e
        obtain ⟨u, hu, hr⟩ := S.vars y d' e
        refine ⟨u, ?_, hr⟩
        rcases hu with ⟨k, m2, hm2, e2⟩ | ⟨k, c', hc, hv'⟩
        · exact .inl ⟨k, m2, hm2.sameBut hs (Ne.symm c6), e2⟩
        · exact .inr ⟨k, c', hc, hv'.sameBut hs fun e => q (S.inj hf y x c (e ▸ hc) c1)⟩
    · obtain ⟨m1, m2, vs, n, m3, m4⟩ := S.muok a wr ds e
      refine ⟨m1, m2, vs, n, (hs.2 a ?_).trans m3, m4⟩
      rintro rfl; rw [c5] at e; cases e
end

/-- an expression that makes things at most: what it stands for -/
structure Ev (X : Cx) (A : Around) (env : Env) (md : Md) (mu : Mu) (e : Expr) (d : D) : Prop where
  run : ∀ (keep g₀ g : Kn) (s : Shared) (Q : Value → Shared → Prop) (E : Value → Shared → Prop), St X env keep g₀ g s.heap md mu →
    (∀ v g' h' tk, St X env keep g₀ g' h' md mu → Ext g g' → Rep g' v d → Q v { s with heap := h', toks := tk }) →
    wpAny (model X.prog X.w) A (eval e env) Q E s
/-- a test -/
structure Ts (X : Cx) (A : Around) (env : Env) (md : Md) (mu : Mu) (e : Expr) (b : Bool) : Prop where
  run : ∀ (keep g₀ g : Kn) (s : Shared) (Q : Bool → Shared → Prop) (E : Value → Shared → Prop), St X env keep g₀ g s.heap md mu →
    (∀ g' h' tk, St X env keep g₀ g' h' md mu → Ext g g' → Q b { s with heap := h', toks := tk }) →
    wpAny (model X.prog X.w) A (isTrue e env (eval e env)) Q E s
/-- several, one after the other -/
structure EvAll (X : Cx) (A : Around) (env : Env) (md : Md) (mu : Mu) (es : List Expr) (ds : List D) : Prop where
  run : ∀ (pos : Pos) (keep g₀ g : Kn) (s : Shared) (Q : List Value → Shared → Prop) (E : Value → Shared → Prop), St X env keep g₀ g s.heap md mu →
    (∀ vs g' h' tk, St X env keep g₀ g' h' md mu → Ext g g' → RepAll g' vs ds → Q vs { s with heap := h', toks := tk }) →
    wpAny (model X.prog X.w) A (spliced (backTo pos (starEach es env))) Q E s

section
variable {X : Cx} {A : Around} {env : Env} {md : Md} {mu : Mu}

theorem Ev.name {x : Str} {pos : Pos} {d : D} (h : md.lookup x = some d) (hd : (x == ("__debug__" : Str)) = false := by decide) : Ev X A env md mu (.Name x pos) d := by
  refine ⟨fun keep g₀ g s Q E S k => ?_⟩
  obtain ⟨v, hv, r⟩ := S.vars x d h
  refine wpAny_Name ?_ hd
  rcases hv with ⟨kd, m, hm, e⟩ | ⟨kd, c, hc, hv⟩
  · exact wpAny_loadName_local S.kind kd hm e (k v g s.heap s.toks S (Ext.refl g) r)
  · exact wpAny_loadName_cell S.kind kd hc hv (k v g s.heap s.toks S (Ext.refl g) r)
theorem Ev.cint {i : Int} {k : Nat} {pos : Pos} : Ev X A env md mu (.Constant (.int i) k pos) (.int i) := ⟨fun _ _ g s _ _ S h => wpAny_Constant_int (h _ g s.heap _ S (Ext.refl g) (.int i _))⟩
theorem Ev.cstr {x : Str} {k : Nat} {pos : Pos} : Ev X A env md mu (.Constant (.str x) k pos) (.str x) := ⟨fun _ _ g s _ _ S h => Calls.Constant_str (h _ g s.heap _ S (Ext.refl g) (.str x _))⟩
theorem Ev.cnone {k : Nat} {pos : Pos} : Ev X A env md mu (.Constant .none k pos) .none := ⟨fun _ _ g s _ _ S h => fun Γ p hΓ => h .none g s.heap s.toks S (Ext.refl g) .none⟩
theorem Ev.cbool {b : Bool} {k : Nat} {pos : Pos} : Ev X A env md mu (.Constant (.bool b) k pos) (.bool b) := ⟨fun _ _ g s _ _ S h => fun Γ p hΓ => h (.bool b) g s.heap s.toks S (Ext.refl g) (.bool b)⟩

/-- two operands -/
theorem Ev.bin {l r : Expr} {op : Operator} {pos : Pos} {a b d : D} (ha : Ev X A env md mu l a) (hb : Ev X A env md mu r b)
    (h : ∀ (keep g₀ g : Kn) (s : Shared) (Q : Value → Shared → Prop) (E : Value → Shared → Prop) (u v : Value), St X env keep g₀ g s.heap md mu → Rep g u a → Rep g v b →
      (∀ v g' h' tk, St X env keep g₀ g' h' md mu → Ext g g' → Rep g' v d → Q v { s with heap := h', toks := tk }) → wpAny (model X.prog X.w) A (binaryOp op u v) Q E s) :
    Ev X A env md mu (.BinOp l op r pos) d := by
  refine ⟨fun keep g₀ g s Q E S k => ?_⟩
  refine wpAny_BinOp (ha.run keep g₀ g s _ E S fun u g₁ h₁ tk₁ S₁ x₁ ru => ?_)
  refine hb.run keep g₀ g₁ _ _ E S₁ fun v g₂ h₂ tk₂ S₂ x₂ rv => ?_
  refine h keep g₀ g₂ _ _ E u v S₂ (ru.mono x₂) rv fun w g₃ h₃ tk₃ S₃ x₃ rw => ?_
  exact k w g₃ h₃ tk₃ S₃ ((x₁.trans x₂).trans x₃) rw
theorem Ev.add {l r : Expr} {pos : Pos} {a b : Int} (ha : Ev X A env md mu l (.int a)) (hb : Ev X A env md mu r (.int b)) : Ev X A env md mu (.BinOp l .Add r pos) (.int (a + b)) := by
  refine Ev.bin ha hb fun keep g₀ g s Q E u v S ru rv k => ?_
  cases ru; cases rv
  exact P.add_int (k _ g s.heap _ S (Ext.refl g) (.int _ _))
theorem Ev.sub {l r : Expr} {pos : Pos} {a b : Int} (ha : Ev X A env md mu l (.int a)) (hb : Ev X A env md mu r (.int b)) : Ev X A env md mu (.BinOp l .Sub r pos) (.int (a - b)) := by
  refine Ev.bin ha hb fun keep g₀ g s Q E u v S ru rv k => ?_
  cases ru; cases rv
  exact P.sub_int (k _ g s.heap _ S (Ext.refl g) (.int _ _))
theorem Ev.mul {l r : Expr} {pos : Pos} {a b : Int} (ha : Ev X A env md mu l (.int a)) (hb : Ev X A env md mu r (.int b)) (hm : IntMulOk a b) : Ev X A env md mu (.BinOp l .Mult r pos) (.int (a * b)) := by
  refine Ev.bin ha hb fun keep g₀ g s Q E u v S ru rv k => ?_
  cases ru; cases rv
  exact P.mul_int (k _ g s.heap _ S (Ext.refl g) (.int _ _)) hm
theorem Rep.isL {X : Cx} {env : Env} {keep g₀ g : Kn} {h : Heap} {md : Md} {mu : Mu} (S : St X env keep g₀ g h md mu) {v : Value} {ds : List D} (r : Rep g v (.lst ds)) : ∃ a vs n, v = .ref a ∧ IsL h a vs.toArray n ∧ RepAll g vs ds := by
  cases r with
  | lst e r => exact ⟨_, _, _, rfl, S.kn _ _ e, r⟩
theorem Ev.cat {l r : Expr} {pos : Pos} {a b : List D} (ha : Ev X A env md mu l (.lst a)) (hb : Ev X A env md mu r (.lst b)) (hsz : a.length + b.length ≤ sizeLine := by simp [sizeLine]; omega) :
    Ev X A env md mu (.BinOp l .Add r pos) (.lst (a ++ b)) := by
  refine Ev.bin ha hb fun keep g₀ g s Q E u v S ru rv k => ?_
  obtain ⟨p, us, n, rfl, hp, rp⟩ := ru.isL S
  obtain ⟨q, vs, m, rfl, hq, rq⟩ := rv.isL S
  refine P.add_list hp hq ?_ (by rw [List.size_toArray, List.size_toArray, rp.length, rq.length]; exact hsz)
  have e : us.toArray ++ vs.toArray = (us ++ vs).toArray := by simp
  rw [e]
  have S' := S.alloc (lstO (us ++ vs) 0)
  exact k _ _ _ s.toks S' (put_ext S.free_size) (.lst put_self ((rp.append rq).mono (put_ext S.free_size)))
end
end Mine

namespace Mine
open PySem PyProof.Rows

section
variable {X : Cx} {A : Around} {env : Env} {md : Md} {mu : Mu}

theorem Ev.mod {l r : Expr} {pos : Pos} {a b : Int} (ha : Ev X A env md mu l (.int a)) (hb : Ev X A env md mu r (.int b)) (h0 : 0 < b) : Ev X A env md mu (.BinOp l .Mod r pos) (.int (a % b)) := by
  refine Ev.bin ha hb fun keep g₀ g s Q E u v S ru rv k => ?_
  cases ru; cases rv
  refine mod_int' (by omega) ?_
  rw [Int.fmod_eq_emod_of_nonneg a (by omega)]
  exact k _ g s.heap _ S (Ext.refl g) (.int _ _)

/-- d stands for a list that can be read: a known one, or a mutable one -/
def Sq (mu : Mu) (d : D) (ds : List D) : Prop := d = .lst ds ∨ ∃ a wr, d = .ptr a ∧ mu a = some (wr, ds)
theorem Sq.lst {ds : List D} : Sq mu (.lst ds) ds := .inl rfl
theorem Sq.ptr {a : Addr} {wr : Bool} {ds : List D} (h : mu a = some (wr, ds)) : Sq mu (.ptr a) ds := .inr ⟨a, wr, rfl, h⟩
theorem Sq.isL {keep g₀ g : Kn} {h : Heap} {d : D} {ds : List D} {v : Value} (q : Sq mu d ds) (S : St X env keep g₀ g h md mu) (r : Rep g v d) : ∃ a vs n, v = .ref a ∧ IsL h a vs.toArray n ∧ RepAll g vs ds := by
  rcases q with rfl | ⟨a, wr, rfl, e⟩
  · exact r.isL S
  · cases r
    obtain ⟨_, _, vs, n, h3, h4⟩ := S.muok a wr ds e
    exact ⟨a, vs, n, rfl, h3, h4⟩

theorem EvAll.nil : EvAll X A env md mu [] [] := ⟨fun _ _ _ g s _ _ S k => Calls.spliced_nil (k [] g s.heap s.toks S (Ext.refl g) .nil)⟩
theorem EvAll.cons {e : Expr} {es : List Expr} {d : D} {ds : List D} (h : Ev X A env md mu e d) (hs : EvAll X A env md mu es ds)
    (hn : starEach (e :: es) env = (false, eval e env) :: starEach es env := by rfl) : EvAll X A env md mu (e :: es) (d :: ds) := by
  refine ⟨fun pos keep g₀ g s Q E S k => ?_⟩
  rw [hn]
  show wpAny _ _ (spliced ((false, eval e env) :: backTo pos (starEach es env))) _ _ _
  refine Calls.spliced_cons (h.run keep g₀ g s _ E S fun v g₁ h₁ tk₁ S₁ x₁ r₁ => ?_)
  refine hs.run pos keep g₀ g₁ _ _ E S₁ fun vs g₂ h₂ tk₂ S₂ x₂ r₂ => ?_
  exact k (v :: vs) g₂ h₂ tk₂ S₂ (x₁.trans x₂) (.cons (r₁.mono x₂) r₂)

theorem Ev.tup {es : List Expr} {k : Nat} {pos : Pos} {ds : List D} (h : EvAll X A env md mu es ds) (hsz : ds.length ≤ sizeLine := by (simp only [List.length_cons, List.length_nil]; decide)) : Ev X A env md mu (.Tuple es k pos) (.tup ds) := by
  refine ⟨fun keep g₀ g s Q E S kk => ?_⟩
  refine Tuple_ (h.run pos keep g₀ g s _ E S fun vs g₁ h₁ tk₁ S₁ x₁ r₁ => ?_)
  refine wpAny_newTuple ?_ (by rw [r₁.length]; exact hsz)
  have S' := S₁.alloc (tupO vs 0)
  exact kk _ _ _ tk₁ S' (x₁.trans (put_ext S₁.free_size)) (.tup put_self (r₁.mono (put_ext S₁.free_size)))
theorem Ev.lst {es : List Expr} {pos : Pos} {ds : List D} (h : EvAll X A env md mu es ds) (hsz : ds.length ≤ sizeLine := by (simp only [List.length_cons, List.length_nil]; decide)) : Ev X A env md mu (.List es pos) (.lst ds) := by
  refine ⟨fun keep g₀ g s Q E S kk => ?_⟩
  refine List_ (h.run pos keep g₀ g s _ E S fun vs g₁ h₁ tk₁ S₁ x₁ r₁ => ?_)
  refine wpAny_newList ?_ (by rw [r₁.length]; exact hsz)
  have S' := S₁.alloc (lstO vs 0)
  exact kk _ _ _ tk₁ S' (x₁.trans (put_ext S₁.free_size)) (.lst put_self (r₁.mono (put_ext S₁.free_size)))

/-- an item of a tuple at a written place -/
theorem Ev.item_tup {value : Expr} {i : Int} {k : Nat} {p pos : Pos} {ds : List D} {d : D} (h : Ev X A env md mu value (.tup ds)) (h0 : 0 ≤ i) (hi : i < 2 ^ 62) (hd : ds[i.toNat]? = some d) :
    Ev X A env md mu (.Subscript value (.Constant (.int i) k p) pos) d := by
  refine ⟨fun keep g₀ g s Q E S kk => ?_⟩
  refine Subscript_ (h.run keep g₀ g s _ E S fun v g₁ h₁ tk₁ S₁ x₁ r₁ => ?_)
  refine wpAny_Constant_int ?_
  cases r₁ with
  | tup e r =>
    obtain ⟨v, hv, hr⟩ := r.get hd
    have hlen := r.length
    have hlt : i.toNat < ds.length := by
      rcases Nat.lt_or_ge i.toNat ds.length with q | q
      · exact q
      · rw [List.getElem?_eq_none q] at hd; cases hd
    refine item_tupleT ⟨_, S₁.kn _ _ e, rfl, _, rfl⟩ (by omega) (by omega) (j := i.toNat) (seqIndex_of h0 (by omega)) hv ?_
    exact kk v g₁ h₁ _ S₁ x₁ hr
/-- an item of a list -/
theorem Ev.item {value ix : Expr} {i : Int} {pos : Pos} {dv d : D} {ds : List D} (h : Ev X A env md mu value dv) (q : Sq mu dv ds) (hix : Ev X A env md mu ix (.int i)) (h0 : 0 ≤ i) (hi : i < 2 ^ 62) (hd : ds[i.toNat]? = some d)
    (hs : ∀ l u, subscripted ix false (.ref l) (.int i u) = operate [.ref l, .int i u] (getItem (.ref l) (.int i u)) := by intro _ _; with_unfolding_all rfl) :
    Ev X A env md mu (.Subscript value ix pos) d := by
  refine ⟨fun keep g₀ g s Q E S kk => ?_⟩
  refine Subscript_ (h.run keep g₀ g s _ E S fun v g₁ h₁ tk₁ S₁ x₁ r₁ => ?_)
  refine hix.run keep g₀ g₁ _ _ E S₁ fun w g₂ h₂ tk₂ S₂ x₂ r₂ => ?_
  obtain ⟨a, vs, n, rfl, hl, hr⟩ := q.isL S₂ (r₁.mono x₂)
  cases r₂
  obtain ⟨v, hv, rv⟩ := hr.get hd
  exact tail_any hl.isList.typeIs slot_list_getitem.lookup (wpAny_getItem_list hl.isList h0 (by omega) (by simpa using hv) (kk v g₂ h₂ tk₂ S₂ (x₁.trans x₂) rv)) (hs _ _)

def EvOpt (X : Cx) (A : Around) (env : Env) (md : Md) (mu : Mu) (e : Option Expr) (k : Option Int) : Prop :=
  match e, k with
  | none, none => True
  | some e, some k => Ev X A env md mu e (.int k)
  | _, _ => False
theorem EvOpt.part {e : Option Expr} {k : Option Int} (h : EvOpt X A env md mu e k) (keep g₀ g : Kn) (s : Shared) (Q : Value → Shared → Prop) (E : Value → Shared → Prop) (S : St X env keep g₀ g s.heap md mu)
    (kk : ∀ v g' h' tk, St X env keep g₀ g' h' md mu → Ext g g' → IsPart v k → Q v { s with heap := h', toks := tk }) : wpAny (model X.prog X.w) A (evalPart e env) Q E s := by
  cases e with
  | none =>
    cases k with
    | none => exact wpAny_pure (kk _ g s.heap s.toks S (Ext.refl g) .none)
    | some k => exact h.elim
  | some e =>
    cases k with
    | none => exact h.elim
    | some k => exact (show Ev X A env md mu e (.int k) from h).run keep g₀ g s Q E S fun v g' h' tk S' x' r' => by cases r'; exact kk _ g' h' tk S' x' (.int _ _)
/-- a part of a list -/
theorem Ev.slice {value : Expr} {lower upper : Option Expr} {lo hi : Option Int} {p pos : Pos} {dv : D} {ds es : List D} (h : Ev X A env md mu value dv) (q : Sq mu dv ds) (hlo : EvOpt X A env md mu lower lo) (hhi : EvOpt X A env md mu upper hi)
    (hsz : ds.length ≤ sizeLine) (hp : ∀ g vs, RepAll g vs ds → ∃ ws : List Value, slicePick vs.toArray lo hi none = ws.toArray ∧ RepAll g ws es) :
    Ev X A env md mu (.Subscript value (.Slice lower upper none p) pos) (.lst es) := by
  refine ⟨fun keep g₀ g s Q E S kk => ?_⟩
  refine Subscript_ (h.run keep g₀ g s _ E S fun v g₁ h₁ tk₁ S₁ x₁ r₁ => ?_)
  refine wpAny_Slice (hlo.part keep g₀ g₁ _ _ E S₁ fun vl g₂ h₂ tk₂ S₂ x₂ p₂ => hhi.part keep g₀ g₂ _ _ E S₂ fun vu g₃ h₃ tk₃ S₃ x₃ p₃ => ?_)
  rw [evalPart_none]
  refine wpAny_pure ?_
  have r₃ := r₁.mono (x₂.trans x₃)
  have S₄ := S₃.push { cls := .type "slice", data := .fields #[vl, vu, .none] }
  obtain ⟨a, vs, n, rfl, hl, hr⟩ := q.isL S₄ r₃
  obtain ⟨ws, he, hw⟩ := hp g₃ vs hr
  refine tail_any hl.isList.typeIs slot_list_getitem.lookup (wpAny_getItem_list_slice hl.isList (Heap.IsSliceOf.new ..) p₂ p₃ .none (by simp) ?_ (by rw [List.size_toArray, hr.length]; exact hsz)) rfl
  rw [he]
  have S₅ := S₄.alloc (lstO ws 0)
  exact kk _ _ _ tk₃ S₅ (((x₁.trans x₂).trans x₃).trans (put_ext S₄.free_size)) (.lst put_self (hw.mono (put_ext S₄.free_size)))
theorem Ev.upto {value e : Expr} {b : Int} {p pos : Pos} {dv : D} {ds : List D} (h : Ev X A env md mu value dv) (q : Sq mu dv ds) (he : Ev X A env md mu e (.int b)) (h0 : 0 ≤ b) (hsz : ds.length ≤ sizeLine) :
    Ev X A env md mu (.Subscript value (.Slice none (some e) none p) pos) (.lst (ds.take b.toNat)) := by
  refine Ev.slice (lo := none) (hi := some b) h q trivial he hsz fun g vs r => ⟨vs.take b.toNat, ?_, r.take _⟩
  obtain ⟨n, rfl⟩ := Int.eq_ofNat_of_zero_le h0
  exact slicePick_upto' vs.toArray n
theorem Ev.from {value e : Expr} {b : Int} {p pos : Pos} {dv : D} {ds : List D} (h : Ev X A env md mu value dv) (q : Sq mu dv ds) (he : Ev X A env md mu e (.int b)) (h0 : 0 ≤ b) (hsz : ds.length ≤ sizeLine) :
    Ev X A env md mu (.Subscript value (.Slice (some e) none none p) pos) (.lst (ds.drop b.toNat)) := by
  refine Ev.slice (lo := some b) (hi := none) h q he trivial hsz fun g vs r => ⟨vs.drop b.toNat, ?_, r.drop _⟩
  obtain ⟨n, rfl⟩ := Int.eq_ofNat_of_zero_le h0
  exact slicePick_from' vs.toArray n
theorem Ev.between {value e f : Expr} {a b : Int} {p pos : Pos} {dv : D} {ds : List D} (h : Ev X A env md mu value dv) (q : Sq mu dv ds) (he : Ev X A env md mu e (.int a)) (hf : Ev X A env md mu f (.int b)) (h0 : 0 ≤ a) (hab : a ≤ b) (hb : b ≤ ds.length) (hsz : ds.length ≤ sizeLine) :
    Ev X A env md mu (.Subscript value (.Slice (some e) (some f) none p) pos) (.lst ((ds.drop a.toNat).take (b - a).toNat)) := by
  refine Ev.slice (lo := some a) (hi := some b) h q he hf hsz fun g vs r => ⟨(vs.drop a.toNat).take (b - a).toNat, ?_, (r.drop _).take _⟩
  obtain ⟨m, rfl⟩ := Int.eq_ofNat_of_zero_le h0
  obtain ⟨n, rfl⟩ := Int.eq_ofNat_of_zero_le (Int.le_trans h0 hab)
  have hr := r.length
  have := slicePick_run vs.toArray m n (by rw [List.size_toArray, hr]; omega) (by omega)
  rw [show ((n : Int) - (m : Int)).toNat = n - m by omega]
  simpa using this

theorem listMul_eq (vs : List Value) (n : Nat) : List.foldl (fun x1 x2 => x1 ++ x2) #[] (List.replicate n vs.toArray) = (List.replicate n vs).flatten.toArray := by
  have gen : ∀ (k : Nat) (acc : List Value), List.foldl (fun x1 x2 => x1 ++ x2) acc.toArray (List.replicate k vs.toArray) = (acc ++ (List.replicate k vs).flatten).toArray := by
    intro k
    induction k with
    | zero => intro acc; simp
    | succ k ih => intro acc; rw [List.replicate_succ, List.foldl_cons, List.replicate_succ, List.flatten_cons, ← List.append_assoc, ← ih]; simp
  simpa using gen n []
theorem RepAll.rep {g : Kn} {v : Value} {d : D} (h : Rep g v d) (n : Nat) : RepAll g (List.replicate n v) (List.replicate n d) := by
  induction n with
  | zero => exact .nil
  | succ n ih => exact .cons h ih
/-- a list of one, several times -/
theorem Ev.rep1 {l r : Expr} {pos : Pos} {d : D} {k : Int} (hl : Ev X A env md mu l (.lst [d])) (hr : Ev X A env md mu r (.int k)) (h0 : 0 ≤ k) (hk : k ≤ 1000) : Ev X A env md mu (.BinOp l .Mult r pos) (.lst (List.replicate k.toNat d)) := by
  refine Ev.bin hl hr fun keep g₀ g s Q E u v S ru rv kk => ?_
  obtain ⟨p, us, n, rfl, hp, rp⟩ := ru.isL S
  cases rv with
  | int _ t =>
  cases rp with
  | cons r0 rn =>
  cases rn
  rename_i v0
  refine wpAny_binaryOp_repeat_ref (T := "list") (U := "int") (by decide) ⟨_, hp, rfl⟩ (fun s' => typeIs_int s' k t) noFill_list_mul F.fills_int_mul F.slot_int_rmul repeat_list F.slot_int_index.lookup
    (call_meets F.slot_int_rmul (typeIs_int s k t) F.entry_int_rmul (F.args_int_rmul_2 _ _) (int___rmul___int_list k t p _ n)
      ⟨hp, rfl, ⟨_, hp, rfl⟩, call_meets F.slot_list_mul ⟨_, hp, rfl⟩ F.entry_list_mul (F.args_list_mul_2 _ _)
        (AutoListH.list___mul___list_int_3 p _ n k t (by simp [Builtin.List.listFitsIndex]; omega) (by simp; omega) (by simp [Builtin.List.listTooLong, sizeLine]; omega))
        ⟨hp, ?_⟩⟩)
  have e1 : ([v0].toArray).isEmpty = false := rfl
  rw [e1]
  simp only [Bool.false_eq_true, if_false]
  rw [listMul_eq]
  have e2 : (List.replicate k.toNat [v0]).flatten = List.replicate k.toNat v0 := by simp
  rw [e2]
  have S' := S.alloc (lstO (List.replicate k.toNat v0) 0)
  exact kk _ _ _ s.toks S' (put_ext S.free_size) (.lst put_self ((RepAll.rep r0 _).mono (put_ext S.free_size)))
end
end Mine

namespace Mine
open PySem PyProof.Rows

mutual
def toPy : D → PyData
  | .none => .none
  | .bool b => .bool b
  | .int i => .int i
  | .str x => .str x
  | .tup ds => .tuple (toPys ds)
  | .lst ds => .list (toPys ds)
  | .ptr _ => .none
def toPys : List D → List PyData
  | [] => []
  | d :: ds => toPy d :: toPys ds
end
/-- data without pointers, of depth n at most -/
def Ok : Nat → D → Prop
  | _, .none => True
  | _, .bool _ => True
  | _, .int _ => True
  | _, .str x => PyData.strOk x = true
  | n + 1, .tup ds => ∀ d ∈ ds, Ok n d
  | n + 1, .lst ds => ∀ d ∈ ds, Ok n d
  | _, _ => False
theorem Ok.mono : ∀ {n m : Nat} {d : D}, n ≤ m → Ok n d → Ok m d := by
  intro n
  induction n with
  | zero => intro m d _ h; cases d <;> cases m <;> simp_all [Ok]
  | succ n ih =>
    intro m d hm h
    cases m with
    | zero => omega
    | succ m =>
      cases d with
      | tup ds => simp only [Ok] at h ⊢; exact fun d hd => ih (by omega) (h d hd)
      | lst ds => simp only [Ok] at h ⊢; exact fun d hd => ih (by omega) (h d hd)
      | _ => simp_all [Ok]
theorem Ok.tup {n : Nat} {ds : List D} (h : ∀ d ∈ ds, Ok n d) : Ok (n + 1) (.tup ds) := by simpa only [Ok] using h
theorem Ok.lst {n : Nat} {ds : List D} (h : ∀ d ∈ ds, Ok n d) : Ok (n + 1) (.lst ds) := by simpa only [Ok] using h
theorem Ok.int {n : Nat} {i : Int} : Ok n (.int i) := by cases n <;> simp [Ok]

theorem toPys_eq (ds : List D) : toPys ds = ds.map toPy := by
  induction ds with
  | nil => rfl
  | cons d ds ih => rw [toPys, ih, List.map_cons]
theorem ok_lay : ∀ (n : Nat) (d : D), Ok n d → (toPy d).canLay0 = true ∧ (toPy d).depth ≤ n := by
  have all : ∀ (n : Nat), (∀ d, Ok n d → (toPy d).canLay0 = true ∧ (toPy d).depth ≤ n) → ∀ ds : List D, (∀ d ∈ ds, Ok n d) → PyData.canLayAll0 (toPys ds) = true ∧ PyData.depthAll (toPys ds) ≤ n := by
    intro n ih ds
    induction ds with
    | nil => intro _; simp [toPys, PyData.canLayAll0, PyData.depthAll]
    | cons d ds hi =>
      intro h
      have h1 := ih d (h d (.head _))
      have h2 := hi fun e he => h e (.tail _ he)
      simp only [toPys, PyData.canLayAll0, PyData.depthAll, h1.1, h2.1, Bool.and_self, true_and]
      have a1 := h1.2
      have a2 := h2.2
      omega
  intro n
  induction n with
  | zero =>
    intro d h
    cases d <;> simp_all [Ok, toPy, PyData.canLay0, PyData.depth]
  | succ n ih =>
    intro d h
    cases d with
    | none => simp [toPy, PyData.canLay0, PyData.depth]
    | bool b => simp [toPy, PyData.canLay0, PyData.depth]
    | int i => simp [toPy, PyData.canLay0, PyData.depth]
    | str x => simp [Ok] at h; simp [toPy, PyData.canLay0, PyData.depth, h]
    | ptr a => simp [Ok] at h
    | tup ds =>
      have q := all n ih ds (by simpa [Ok] using h)
      have q2 := q.2
      simp only [toPy, PyData.canLay0, PyData.depth, q.1, true_and]
      omega
    | lst ds =>
      have q := all n ih ds (by simpa [Ok] using h)
      have q2 := q.2
      simp only [toPy, PyData.canLay0, PyData.depth, q.1, true_and]
      omega
mutual
theorem Rep.reads {g : Kn} {h : Heap} (kn : ∀ a o, g a = some o → h.get? a = some o) : ∀ {v : Value} {d : D} (n : Nat), Rep g v d → Ok n d → ∃ as, Reads h v (toPy d) as
  | _, _, _, .none, _ => ⟨_, Reads.none⟩
  | _, _, _, .bool b, _ => ⟨_, Reads.bool b⟩
  | _, _, _, .int i t, _ => ⟨_, Reads.int i t⟩
  | _, _, _, .str x t, _ => ⟨_, Reads.str x t⟩
  | _, _, n, .ptr _, hk => by cases n <;> simp [Ok] at hk
  | _, _, 0, .tup _ _, hk => by simp [Ok] at hk
  | _, _, 0, .lst _ _, hk => by simp [Ok] at hk
  | _, _, n + 1, .tup e r, hk => by
    obtain ⟨as, q⟩ := RepAll.reads kn n r (by simpa [Ok] using hk)
    rw [toPy]
    exact ⟨as, Reads.tuple (kn _ _ e) rfl rfl (by simpa using q)⟩
  | _, _, n + 1, .lst e r, hk => by
    obtain ⟨as, q⟩ := RepAll.reads kn n r (by simpa [Ok] using hk)
    rw [toPy]
    exact ⟨_, Reads.list (kn _ _ e) rfl rfl (by simpa using q)⟩
theorem RepAll.reads {g : Kn} {h : Heap} (kn : ∀ a o, g a = some o → h.get? a = some o) : ∀ {vs : List Value} {ds : List D} (n : Nat), RepAll g vs ds → (∀ d ∈ ds, Ok n d) → ∃ as, ReadsAll h vs (toPys ds) as
  | _, _, _, .nil, _ => ⟨_, ReadsAll.nil⟩
  | _, _, n, .cons hd r, hk => by
    obtain ⟨as, q⟩ := Rep.reads kn n hd (hk _ (.head _))
    obtain ⟨bs, p⟩ := RepAll.reads kn n r fun d hm => hk d (.tail _ hm)
    rw [toPys]
    exact ⟨_, ReadsAll.cons q p⟩
end

/-- a comparison of two data -/
structure Cm (X : Cx) (A : Around) (env : Env) (md : Md) (mu : Mu) (op : CmpOp) (a b : D) (c : Bool) : Prop where
  run : ∀ (keep g₀ g : Kn) (s : Shared) (Q : Value → Shared → Prop) (E : Value → Shared → Prop) (u v : Value), St X env keep g₀ g s.heap md mu → Rep g u a → Rep g v b → Q (.bool c) s → wpAny (model X.prog X.w) A (compareOp op u v) Q E s

section
variable {X : Cx} {A : Around} {env : Env} {md : Md} {mu : Mu}
theorem Cm.lt {a b : Int} : Cm X A env md mu .Lt (.int a) (.int b) (decide (a < b)) := ⟨fun _ _ _ _ _ _ _ _ _ ra rb h => by cases ra; cases rb; exact P.lt_int h⟩
theorem Cm.le {a b : Int} : Cm X A env md mu .LtE (.int a) (.int b) (decide (a ≤ b)) := ⟨fun _ _ _ _ _ _ _ _ _ ra rb h => by cases ra; cases rb; exact P.le_int h⟩
theorem Cm.gt {a b : Int} : Cm X A env md mu .Gt (.int a) (.int b) (decide (a > b)) := ⟨fun _ _ _ _ _ _ _ _ _ ra rb h => by cases ra; cases rb; exact P.gt_int h⟩
theorem Cm.ge {a b : Int} : Cm X A env md mu .GtE (.int a) (.int b) (decide (a ≥ b)) := ⟨fun _ _ _ _ _ _ _ _ _ ra rb h => by cases ra; cases rb; exact P.ge_int h⟩
theorem Cm.eqi {a b : Int} : Cm X A env md mu .Eq (.int a) (.int b) (a == b) := ⟨fun _ _ _ _ _ _ _ _ _ ra rb h => by cases ra; cases rb; exact P.eq_int h⟩
theorem Cm.nei {a b : Int} : Cm X A env md mu .NotEq (.int a) (.int b) (a != b) := ⟨fun _ _ _ _ _ _ _ _ _ ra rb h => by cases ra; cases rb; exact P.ne_int h⟩
/-- equal data are not unequal -/
theorem Cm.ne_same {d : D} {n : Nat} (h : Ok n d) (hu : A.units + n < cLine) : Cm X A env md mu .NotEq d d false := by
  refine ⟨fun keep g₀ g s Q E u v S ra rb hq => ?_⟩
  obtain ⟨as, r₁⟩ := ra.reads S.kn n h
  obtain ⟨bs, r₂⟩ := rb.reads S.kn n h
  have l := ok_lay n d h
  refine SeqAt.compareNe_reads r₁ r₂ l.1 l.1 (by have := l.2; rw [Nat.min_self]; omega) ?_
  rw [SeqAt.eqv_refl _ l.1]; exact hq
theorem Cm.isNone {d : D} : Cm X A env md mu .Is d .none (match d with | .none => true | _ => false) := by
  refine ⟨fun keep g₀ g s Q E u v S ra rb hq => ?_⟩
  cases rb
  cases ra <;> exact wpAny_is_plain rfl hq
theorem Cm.isNotNone {d : D} : Cm X A env md mu .IsNot d .none (match d with | .none => false | _ => true) := by
  refine ⟨fun keep g₀ g s Q E u v S ra rb hq => ?_⟩
  cases rb
  cases ra <;> exact wpAny_isNot_plain rfl hq
theorem Cm.eqNil {d : D} {ds : List D} (q : Sq mu d ds) (hu : A.units < cLine) : Cm X A env md mu .Eq d (.lst []) ds.isEmpty := by
  refine ⟨fun keep g₀ g s Q E u v S ra rb hq => ?_⟩
  obtain ⟨a, vs, n, rfl, hl, hr⟩ := q.isL S ra
  obtain ⟨b, ws, m, rfl, hb, hrb⟩ := rb.isL S
  cases hrb
  cases hr with
  | nil =>
    refine SeqAt.eq_listAt (e := fun _ => true) hl.isList hb.isList rfl hu (fun j h1 => absurd h1 (Nat.not_lt_zero _)) ?_
    exact hq
  | cons h1 h2 => exact SeqAt.eq_list_lengthsAt hl.isList hb.isList rfl hu hq

theorem Ev.cmp {l r : Expr} {op : CmpOp} {pos : Pos} {a b : D} {c : Bool} (ha : Ev X A env md mu l a) (hb : Ev X A env md mu r b) (hc : Cm X A env md mu op a b c) (hm : behindInMarks op r = false := by with_unfolding_all rfl) :
    Ev X A env md mu (.Compare l [op] [r] pos) (.bool c) := by
  refine ⟨fun keep g₀ g s Q E S k => ?_⟩
  refine wpAny_Compare1 (ha.run keep g₀ g s _ E S fun u g₁ h₁ tk₁ S₁ x₁ ru => hb.run keep g₀ g₁ _ _ E S₁ fun v g₂ h₂ tk₂ S₂ x₂ rv => ?_) hm
  exact hc.run keep g₀ g₂ _ _ E u v S₂ (ru.mono x₂) rv (k _ g₂ h₂ tk₂ S₂ (x₁.trans x₂) (.bool c))
theorem Ts.cmp {l r : Expr} {op : CmpOp} {pos : Pos} {a b : D} {c : Bool} (ha : Ev X A env md mu l a) (hb : Ev X A env md mu r b) (hc : Cm X A env md mu op a b c) (hm : behindInMarks op r = false := by with_unfolding_all rfl) :
    Ts X A env md mu (.Compare l [op] [r] pos) c := by
  refine ⟨fun keep g₀ g s Q E S k => ?_⟩
  refine wpAny_isTrue_Compare1 (ha.run keep g₀ g s _ E S fun u g₁ h₁ tk₁ S₁ x₁ ru => hb.run keep g₀ g₁ _ _ E S₁ fun v g₂ h₂ tk₂ S₂ x₂ rv => ?_) hm
  exact hc.run keep g₀ g₂ _ _ E u v S₂ (ru.mono x₂) rv (wpAny_truthy_bool (k g₂ h₂ tk₂ S₂ (x₁.trans x₂)))
theorem Ts.not {x : Expr} {pos : Pos} {b : Bool} (h : Ts X A env md mu x b) : Ts X A env md mu (.UnaryOp .Not x pos) (!b) :=
  ⟨fun keep g₀ g s Q E S k => wpAny_isTrue_Not (h.run keep g₀ g s _ E S fun g' h' tk S' x' => k g' h' tk S' x')⟩
theorem Ts.orT {x : Expr} {rest : List Expr} {pos : Pos} (h : Ts X A env md mu x true) : Ts X A env md mu (.BoolOp .Or (x :: rest) pos) true :=
  ⟨fun keep g₀ g s Q E S k => isTrue_or (h.run keep g₀ g s _ E S fun g' h' tk S' x' => k g' h' tk S' x')⟩
theorem Ts.andF {x : Expr} {rest : List Expr} {pos : Pos} (h : Ts X A env md mu x false) : Ts X A env md mu (.BoolOp .And (x :: rest) pos) false :=
  ⟨fun keep g₀ g s Q E S k => isTrue_and (h.run keep g₀ g s _ E S fun g' h' tk S' x' => k g' h' tk S' x')⟩
theorem Ts.orF {x y : Expr} {pos : Pos} {b : Bool} (h : Ts X A env md mu x false) (hy : Ts X A env md mu y b) : Ts X A env md mu (.BoolOp .Or [x, y] pos) b := by
  refine ⟨fun keep g₀ g s Q E S k => isTrue_or (h.run keep g₀ g s _ E S fun g' h' tk S' x' => isTrue_or (hy.run keep g₀ g' _ _ E S' fun g₂ h₂ tk₂ S₂ x₂ => by
    cases b
    · exact isTrue_or_nil (k g₂ h₂ tk₂ S₂ (x'.trans x₂))
    · exact k g₂ h₂ tk₂ S₂ (x'.trans x₂)))⟩
theorem Ts.andT {x y : Expr} {pos : Pos} {b : Bool} (h : Ts X A env md mu x true) (hy : Ts X A env md mu y b) : Ts X A env md mu (.BoolOp .And [x, y] pos) b := by
  refine ⟨fun keep g₀ g s Q E S k => isTrue_and (h.run keep g₀ g s _ E S fun g' h' tk S' x' => isTrue_and (hy.run keep g₀ g' _ _ E S' fun g₂ h₂ tk₂ S₂ x₂ => by
    cases b
    · exact k g₂ h₂ tk₂ S₂ (x'.trans x₂)
    · exact isTrue_and_nil (k g₂ h₂ tk₂ S₂ (x'.trans x₂))))⟩
end
end Mine

namespace Mine
open PySem PyProof.Rows

/-- the frame of a call of the def f -/
abbrev fenv (f : Str) (scope : Scope) (L a : Addr) (code : Value) : Env :=
  { scope, locals := L, globals := mainGlobals, cells := cellsFrom (L + 1) scope.names [], qual := f ++ ".<locals>.", func := some a, code, frame := some L, builtins := builtinsNs }
def IsDef (X : Cx) (f : Str) (params : Arguments) (body : List Stmt) (scope : Scope) : Prop :=
  ∃ a o pm code doc, X.mg f = some (.ref a) ∧ X.h₀.get? a = some o ∧ o.data = .func (Calls.docDef f params body scope pm code doc) ∧ X.h₀.CodeRec code f
/-- what a call may rely on -/
structure Kno (X : Cx) (g : Kn) (mu : Mu) (h : Heap) : Prop where
  base : ∀ a o, X.h₀.get? a = some o → g a = some o
  kn : ∀ a o, g a = some o → h.get? a = some o
  muok : ∀ a wr ds, mu a = some (wr, ds) → g a = none ∧ ∃ vs n, h.get? a = some (lstO vs n) ∧ RepAll g vs ds
/-- what is so behind a call -/
structure Aft (g : Kn) (h : Heap) (g' : Kn) (h' : Heap) : Prop where
  keep : ∀ b o, h.get? b = some o → h'.get? b = some o
  ext : Ext g g'
  kn : ∀ a o, g' a = some o → h'.get? a = some o
  fresh : ∀ a o, g' a = some o → g a = some o ∨ h.get? a = none
theorem St.kno {X : Cx} {env : Env} {keep g₀ g : Kn} {h : Heap} {md : Md} {mu : Mu} (S : St X env keep g₀ g h md mu) : Kno X g mu h :=
  ⟨S.base, S.kn, fun a wr ds e => let ⟨h1, _, h3⟩ := S.muok a wr ds e; ⟨h1, h3⟩⟩
theorem St.aft {X : Cx} {env : Env} {keep g₀ g g' : Kn} {h h' : Heap} {md : Md} {mu : Mu} (S : St X env keep g₀ g h md mu) (x : Aft g h g' h') : St X env keep g₀ g' h' md mu := S.next x.keep x.ext x.kn x.fresh

/-- a call of the def f upon ds gives d -/
structure CallD (X : Cx) (A : Around) (f : Str) (ds : List D) (mu : Mu) (d : D) : Prop where
  run : ∃ a o fd, X.mg f = some (.ref a) ∧ X.h₀.get? a = some o ∧ o.data = .func fd ∧
    ∀ (g : Kn) (s : Shared) (vs : List Value) (Q : Value → Shared → Prop) (E : Value → Shared → Prop), Kno X g mu s.heap → RepAll g vs ds →
      (∀ v g' h' tk, Aft g s.heap g' h' → Rep g' v d → Q v { s with heap := h', toks := tk }) → wpAny (model X.prog X.w) A (PySem.call (.ref a) vs) Q E s

def ro (mu : Mu) : Mu := fun a => (mu a).map fun x => (false, x.2)
theorem ro_some {mu : Mu} {a : Addr} {wr : Bool} {ds : List D} (h : ro mu a = some (wr, ds)) : wr = false ∧ ∃ w', mu a = some (w', ds) := by
  unfold ro at h
  cases q : mu a with
  | none => rw [q] at h; cases h
  | some x =>
    rw [q] at h
    obtain ⟨w', es⟩ := x
    simp only [Option.map_some, Option.some.injEq, Prod.mk.injEq] at h
    obtain ⟨rfl, rfl⟩ := h
    exact ⟨rfl, w', rfl⟩
theorem ro_of {mu : Mu} {a : Addr} {wr : Bool} {ds : List D} (h : mu a = some (wr, ds)) : ro mu a = some (false, ds) := by unfold ro; rw [h]; rfl

/-- what is so behind the frame -/
structure Fin (X : Cx) (keep g₀ g : Kn) (h : Heap) : Prop where
  ext : Ext g₀ g
  kn : ∀ a o, g a = some o → h.get? a = some o
  kp : ∀ a o, keep a = some o → h.get? a = some o
  fresh : ∀ a o, g a = some o → g₀ a = some o ∨ keep a = none
theorem St.fin {X : Cx} {env : Env} {keep g₀ g : Kn} {h : Heap} {md : Md} {mu : Mu} (S : St X env keep g₀ g h md mu) : Fin X keep g₀ g h := ⟨S.ext, S.kn, S.kp, S.fresh⟩

abbrev Post := Md → Mu → Prop
def No : Post := fun _ _ => False
/-- statements: what is so where they run through, break, go on, return -/
structure Ex (X : Cx) (A : Around) (env : Env) (md : Md) (mu : Mu) (ss : List Stmt) (N B C : Post) (R : D → Prop) : Prop where
  run : ∀ (keep g₀ g : Kn) (s : Shared) (Q : Flow → Shared → Prop) (E : Value → Shared → Prop), St X env keep g₀ g s.heap md mu →
    (∀ md' mu' g' h' tk, N md' mu' → St X env keep g₀ g' h' md' mu' → Q .next { s with heap := h', toks := tk }) →
    (∀ md' mu' g' h' tk, B md' mu' → St X env keep g₀ g' h' md' mu' → Q .brk { s with heap := h', toks := tk }) →
    (∀ md' mu' g' h' tk, C md' mu' → St X env keep g₀ g' h' md' mu' → Q .cont { s with heap := h', toks := tk }) →
    (∀ d v g' h' tk, R d → Fin X keep g₀ g' h' → Rep g' v d → Q (.ret v) { s with heap := h', toks := tk }) →
    wpAny (model X.prog X.w) A (execs ss env) Q E s

theorem cells_some {x : Str} : ∀ (names : List (Str × NameKind)) (n : Nat) (acc : List (Str × Addr)), names.lookup x = some .cell ∨ (acc.lookup x).isSome = true → ((cellsFrom n names acc).lookup x).isSome = true
  | [], _, _, h => h.elim (fun e => by cases e) id
  | (y, k) :: r, n, acc, h => by
    unfold cellsFrom
    by_cases hk : (k == .cell) = true
    · rw [if_pos hk]
      refine cells_some r (n + 1) ((y, n) :: acc) ?_
      by_cases hy : (x == y) = true
      · exact .inr (by rw [List.lookup_cons, hy]; rfl)
      · refine h.imp (fun e => ?_) fun e => ?_
        · rw [List.lookup_cons] at e; simpa only [hy] using e
        · rw [List.lookup_cons]; simpa only [hy] using e
    · rw [if_neg hk]
      refine cells_some r n acc ?_
      by_cases hy : (x == y) = true
      · refine .inr (h.elim (fun e => ?_) id)
        rw [List.lookup_cons, hy] at e
        exact absurd (by rw [Option.some.inj e]; rfl) hk
      · refine h.imp (fun e => ?_) id
        rw [List.lookup_cons] at e; simpa only [hy] using e

section
variable {kindOf : Str → Option NameKind}
theorem bindL_out : ∀ (bs : List (Str × Value)) (m : Str → Option Value) (x : Str), x ∉ bs.map (·.1) → bindL kindOf bs m x = m x
  | [], _, _, _ => rfl
  | (n, v) :: r, m, x, h => by
    have h1 : x ≠ n := fun e => h (by simp [e])
    have h2 : x ∉ r.map (·.1) := fun e => h (by simp at e ⊢; exact .inr e)
    rw [bindL, bindL_out r _ x h2]
    split
    · exact if_neg h1
    · rfl
theorem bindC_out : ∀ (bs : List (Str × Value)) (m : Str → Option Value) (x : Str), x ∉ bs.map (·.1) → bindC kindOf bs m x = m x
  | [], _, _, _ => rfl
  | (n, v) :: r, m, x, h => by
    have h1 : x ≠ n := fun e => h (by simp [e])
    have h2 : x ∉ r.map (·.1) := fun e => h (by simp at e ⊢; exact .inr e)
    rw [bindC, bindC_out r _ x h2]
    split
    · rfl
    · exact if_neg h1
theorem bindL_in : ∀ (bs : List (Str × Value)) (m : Str → Option Value) (x : Str) (v : Value), (bs.map (·.1)).Nodup → (x, v) ∈ bs → kindOf x = some .local → bindL kindOf bs m x = some v
  | (n, u) :: r, m, x, v, hd, hm, hk => by
    obtain ⟨d1, d2⟩ := List.nodup_cons.mp hd
    rw [bindL]
    rcases List.mem_cons.mp hm with e | hm
    · cases e
      rw [bindL_out r _ _ d1, if_pos hk, if_pos rfl]
    · exact bindL_in r _ x v d2 hm hk
theorem bindC_in : ∀ (bs : List (Str × Value)) (m : Str → Option Value) (x : Str) (v : Value), (bs.map (·.1)).Nodup → (x, v) ∈ bs → kindOf x = some .cell → bindC kindOf bs m x = some v
  | (n, u) :: r, m, x, v, hd, hm, hk => by
    obtain ⟨d1, d2⟩ := List.nodup_cons.mp hd
    rw [bindC]
    rcases List.mem_cons.mp hm with e | hm
    · cases e
      rw [bindC_out r _ _ d1, if_neg (by rw [hk]; decide), if_pos rfl]
    · exact bindC_in r _ x v d2 hm hk
end
theorem zip_rep {g : Kn} : ∀ {ns : List Str} {vs : List Value} {ds : List D} {x : Str} {d : D}, RepAll g vs ds → (ns.zip ds).lookup x = some d → ∃ v, (x, v) ∈ ns.zip vs ∧ Rep g v d
  | [], _, _, _, _, _, h => by simp at h
  | n :: ns, _, _, x, d, .nil, h => by simp at h
  | n :: ns, _, _, x, d, .cons (v := v) r rs, h => by
    rw [List.zip_cons_cons, lookup_cons_str] at h
    by_cases q : x = n
    · subst q; rw [if_pos rfl] at h; cases h
      exact ⟨v, .head _, r⟩
    · rw [if_neg q] at h
      obtain ⟨u, hu, hr⟩ := zip_rep rs h
      exact ⟨u, .tail _ hu, hr⟩
theorem zip_names {ns : List Str} : ∀ {vs : List Value}, ns.length = vs.length → (ns.zip vs).map (·.1) = ns := by
  induction ns with
  | nil => intro vs _; rfl
  | cons n ns ih =>
    intro vs h
    cases vs with
    | nil => cases h
    | cons v vs => rw [List.zip_cons_cons, List.map_cons, ih (by simpa using h)]

section
variable {X : Cx} {A : Around}
/-- a def's call by its body -/
theorem CallD.of {f : Str} {params : Arguments} {body : List Stmt} {scope : Scope} {ds : List D} {mu : Mu} {d : D} (ns : List Str) (hdef : IsDef X f params body scope) (hroom : A.depth < recursionLimit)
    (hlen : ns.length = ds.length) (hnd : ns.Nodup)
    (hbind : ∀ pm code doc (vs : List Value), vs.length = ns.length → bindArgs (Calls.docDef f params body scope pm code doc) ⟨vs, []⟩ = pure (ns.zip vs))
    (hkind : (ns.all fun x => scope.names.lookup x == some .local || scope.names.lookup x == some .cell) = true)
    (hbody : ∀ L a code, Ex X (A.deeper (fenv f scope L a code)) (fenv f scope L a code) (ns.zip ds) (ro mu) body No No No (· = d))
    (hco : scope.isCoroutine = false := by rfl) (hgen : scope.isGenerator = false := by rfl) (hk : scope.kind = .function := by rfl) : CallD X A f ds mu d := by
  obtain ⟨a, o, pm, code, doc, hf, ho, hd, hc⟩ := hdef
  refine ⟨⟨a, o, _, hf, ho, hd, fun g s vs Q E kno hr k => ?_⟩⟩
  have b0 : ∀ b o, X.h₀.get? b = some o → s.heap.get? b = some o := fun b o e => kno.kn _ _ (kno.base b o e)
  have hvl : vs.length = ns.length := by rw [hr.length, hlen]
  have hnm := zip_names (vs := vs) hvl.symm
  have kinds : ∀ n, ∀ x ∈ ns.zip vs, scope.names.lookup x.1 = some .local ∨ (scope.names.lookup x.1 = some .cell ∧ ((cellsFrom n scope.names []).lookup x.1).isSome = true) := fun n x hx => by
    have hm : x.1 ∈ ns := by rw [← hnm]; exact List.mem_map_of_mem hx
    have := List.all_eq_true.mp hkind x.1 hm
    rcases Bool.or_eq_true_iff.mp this with q | q
    · exact .inl (by simpa using q)
    · have q' : scope.names.lookup x.1 = some .cell := by simpa using q
      exact .inr ⟨q', cells_some _ _ _ (.inl q')⟩
  refine wpAny_call (codeAny_call_cells (fd := Calls.docDef f params body scope pm code doc) (body := body) (binds := ns.zip vs) hroom (b0 _ _ ho) hd (X.T.nolimit.keeps b0) (hc.keeps b0) rfl (hbind pm code doc vs hvl) rfl (kinds _) (fun s₁ x => ?_) hco hgen hk)
  obtain ⟨h₁, tk₁, rfl, hk₁⟩ := x.done
  have hL : s.heap.get? s.heap.objs.size = none := fresh_size _
  have gL : ∀ b, s.heap.objs.size ≤ b → g b = none := fun b hb => by
    cases q : g b with
    | none => rfl
    | some o' => exact absurd (Heap.lt_size (kno.kn _ _ q)) (Nat.not_lt.mpr hb)
  have kL : ∀ b, s.heap.objs.size ≤ b → s.heap.get? b = none := fun b hb => by
    cases q : s.heap.get? b with
    | none => rfl
    | some o' => exact absurd (Heap.lt_size q) (Nat.not_lt.mpr hb)
  have mL : ∀ b, s.heap.objs.size ≤ b → ro mu b = none := fun b hb => by
    cases q : ro mu b with
    | none => rfl
    | some y =>
      obtain ⟨_, w', e⟩ := ro_some (wr := y.1) (ds := y.2) q
      obtain ⟨_, us, n, hu, _⟩ := kno.muok b w' _ e
      exact absurd (Heap.lt_size hu) (Nat.not_lt.mpr hb)
  have S : St X (fenv f scope s.heap.objs.size a code) (fun b => s.heap.get? b) g g h₁ (ns.zip ds) (ro mu) := by
    refine ⟨hk, rfl, rfl, kno.base, Ext.refl g, fun b o' e => hk₁ _ _ (kno.kn _ _ e), fun b o' e => hk₁ _ _ e, fun b o' e => .inl e, ⟨_, x.toInCall.ns⟩, hL, gL _ (Nat.le_refl _), mL _ (Nat.le_refl _), fun y hy => ?_, fun _ y z c h1 h2 => ?_, fun y e hy => ?_, fun b wr es e => ?_⟩
    · obtain ⟨c, hcc⟩ := Option.isSome_iff_exists.mp (cells_some (x := y) scope.names (s.heap.objs.size + 1) [] (.inl hy))
      have hab := x.above y c (mem_of_lookup hcc)
      have hab' : s.heap.objs.size < c := hab
      exact ⟨c, _, hcc, x.cell y c hcc, fun _ => kL c (Nat.le_of_lt hab'), gL c (Nat.le_of_lt hab'), mL c (Nat.le_of_lt hab'), Nat.ne_of_gt hab'⟩
    · exact name_of_addr x.apart (mem_of_lookup h1) (mem_of_lookup h2)
    · obtain ⟨v, hv, rv⟩ := zip_rep hr hy
      refine ⟨v, ?_, rv⟩
      rcases kinds (s.heap.objs.size + 1) (y, v) hv with q | ⟨q, q2⟩
      · exact .inl ⟨q, _, x.toInCall.ns, bindL_in _ _ y v (by rw [hnm]; exact hnd) hv q⟩
      · obtain ⟨c, hcc⟩ := Option.isSome_iff_exists.mp q2
        refine .inr ⟨q, c, hcc, ?_⟩
        have hce := x.cell y c hcc
        rw [bindC_in _ _ y v (by rw [hnm]; exact hnd) hv q] at hce
        exact hce
    · obtain ⟨rfl, w', e'⟩ := ro_some e
      obtain ⟨m1, us, n, m3, m4⟩ := kno.muok b w' es e'
      exact ⟨m1, ⟨fun q => (nomatch q), fun q => by rw [m3] at q; cases q⟩, us, n, hk₁ _ _ m3, m4⟩
  refine (hbody s.heap.objs.size a code).run (fun b => s.heap.get? b) g g _ _ _ S (fun _ _ _ _ _ n => n.elim) (fun _ _ _ _ _ n => n.elim) (fun _ _ _ _ _ n => n.elim) fun d' v g' h' tk hd' fin rv => ?_
  subst hd'
  exact k v g' h' tk ⟨fin.kp, fin.ext, fin.kn, fin.fresh⟩ rv

variable {env : Env} {md : Md} {mu : Mu}
/-- a def called by its name -/
theorem Ev.call {f : Str} {np pos : Pos} {e : Expr} {es : List Expr} {ds : List D} {d : D} (hc : CallD X A f ds mu d) (hes : EvAll X A env md mu (e :: es) ds)
    (hf : env.kindOf f = some .globalImplicit) (hn : starEach (e :: es) env = (false, eval e env) :: starEach es env := by rfl) (hd : (f == ("__debug__" : Str)) = false := by decide) :
    Ev X A env md mu (.Call (.Name f np) (e :: es) [] pos) d := by
  obtain ⟨a, o, fd, hg, ho, hdat, hcall⟩ := hc.run
  refine ⟨fun keep g₀ g s Q E S k => ?_⟩
  have b0 : ∀ b o, X.h₀.get? b = some o → s.heap.get? b = some o := fun b o e => S.kn _ _ (S.base b o e)
  refine wpAny_Call_ofName (Calls.Name_function_global S.kind hf (Calls.loadGlobal_global (mg := X.mg) (by rw [S.glob]; exact X.T.g.keeps b0) hg ?_) hd)
  show wpAny _ _ (callWith pos (.ref a) [] (backTo pos (starEach (e :: es) env)) []) _ _ _
  refine Calls.callWith_function (o := o) (fd := fd) ?_
  rw [hn]
  show wpAny _ _ (evalArgs (.ref a) true ((false, eval e env) :: backTo pos (starEach es env)) []) _ _ _
  refine Calls.evalArgs_plain ?_
  have := hes.run pos keep g₀ g s
  rw [hn] at this
  refine this _ E S fun vs g₁ h₁ tk₁ S₁ x₁ r₁ => ?_
  refine ⟨⟨S₁.kn _ _ (S₁.base _ _ ho), hdat⟩, ?_⟩
  show wpAny _ _ (PySem.call (.ref a) ([] ++ vs) []) _ _ _
  rw [List.nil_append]
  exact hcall g₁ _ vs _ _ S₁.kno r₁ fun v g₂ h₂ tk₂ af rv => k v g₂ h₂ tk₂ (S₁.aft af) (x₁.trans af.ext) rv
end
end Mine

namespace Mine
open PySem PyProof.Rows

abbrev upd (md : Md) (x : Str) (d : D) : Md := (x, d) :: md
theorem lookup_upd (md : Md) (x y : Str) (d : D) : (upd md x d).lookup y = if y = x then some d else md.lookup y := lookup_cons_str
/-- all that md' tells, md tells -/
def Sub (md' md : Md) : Prop := ∀ x d, md'.lookup x = some d → md.lookup x = some d
theorem Sub.refl (md : Md) : Sub md md := fun _ _ e => e
theorem Sub.cons {md' md : Md} (h : Sub md' md) (x : Str) (d : D) : Sub ((x, d) :: md') ((x, d) :: md) := fun y e q => by
  rw [lookup_cons_str] at q ⊢
  by_cases hy : y = x
  · rw [if_pos hy] at q ⊢; exact q
  · rw [if_neg hy] at q ⊢; exact h y e q
theorem Sub.of {md' md : Md} (h : ∀ p ∈ md', md.lookup p.1 = some p.2) : Sub md' md := by
  intro x d q
  induction md' with
  | nil => cases q
  | cons p r ih =>
    obtain ⟨y, e⟩ := p
    rw [lookup_cons_str] at q
    by_cases hy : x = y
    · rw [if_pos hy] at q; cases q; subst hy; exact h _ (.head _)
    · rw [if_neg hy] at q; exact ih (fun p hp => h p (.tail _ hp)) q
theorem upd_sub (md : Md) (x : Str) (d : D) : ∀ y e, (upd md x d).lookup y = some e → List.lookup y ((x, d) :: md) = some e := fun y e h => h
theorem lookup_app {md md' : Md} : ∀ y e, md.lookup y = some e → (md ++ md').lookup y = some e := fun y e h => by
  induction md with
  | nil => cases h
  | cons p r ih =>
    obtain ⟨z, f⟩ := p
    rw [List.cons_append, lookup_cons_str]
    rw [lookup_cons_str] at h
    by_cases hy : y = z
    · rw [if_pos hy] at h ⊢; exact h
    · rw [if_neg hy] at h ⊢; exact ih h

theorem put_some {g : Kn} {a b : Addr} {o p : Obj} (h : put g a o b = some p) : (b = a ∧ p = o) ∨ (b ≠ a ∧ g b = some p) := by
  by_cases q : b = a
  · subst q; rw [put_self] at h; cases h; exact .inl ⟨rfl, rfl⟩
  · rw [put_ne q] at h; exact .inr ⟨q, h⟩
theorem put_none {g : Kn} {a b : Addr} {o : Obj} (h : put g a o b = none) : b ≠ a ∧ g b = none := by
  by_cases q : b = a
  · subst q; rw [put_self] at h; cases h
  · rw [put_ne q] at h; exact ⟨q, h⟩

section
variable {X : Cx} {env : Env} {keep g₀ g : Kn} {h h' : Heap} {md : Md} {mu : Mu} {I : Addr} {o : Obj}
/-- an object apart from all that the frame knows -/
structure Apart (env : Env) (keep g₀ g : Kn) (mu : Mu) (I : Addr) : Prop where
  k : keep I = none
  g₀ : g₀ I = none
  g : g I = none
  m : mu I = none
  l : env.locals ≠ I
  c : ∀ x c, env.kindOf x = some .cell → env.cells.lookup x = some c → c ≠ I
theorem St.fresh_apart (S : St X env keep g₀ g h md mu) (hI : h.get? I = none) : Apart env keep g₀ g mu I := by
  refine ⟨?_, ?_, ?_, ?_, ?_, ?_⟩
  · cases q : keep I with
    | none => rfl
    | some o => rw [S.kp _ _ q] at hI; cases hI
  · cases q : g₀ I with
    | none => rfl
    | some o => rw [S.kn _ _ (S.ext _ _ q)] at hI; cases hI
  · cases q : g I with
    | none => rfl
    | some o => rw [S.kn _ _ q] at hI; cases hI
  · cases q : mu I with
    | none => rfl
    | some x => obtain ⟨_, _, vs, n, e, _⟩ := S.muok I x.1 x.2 q; rw [e] at hI; cases hI
  · rintro rfl; obtain ⟨m, o, _, _, e, _⟩ := S.loc; rw [e] at hI; cases hI
  · intro x c hx hc e
    subst e
    obtain ⟨c', vo, c1, c2, _⟩ := S.cells x hx
    rw [hc] at c1; cases c1
    obtain ⟨o, ho, _⟩ := c2; rw [ho] at hI; cases hI
/-- hold an object besides -/
theorem St.hold (S : St X env keep g₀ g h md mu) (a : Apart env keep g₀ g mu I) (ho : h.get? I = some o) : St X env (put keep I o) g₀ g h md mu := by
  refine { S with kp := fun b p e => ?_, fresh := fun b p e => ?_, offk := by rw [put_ne a.l]; exact S.offk, cells := fun x hx => ?_, muok := fun b wr ds e => ?_ }
  · rcases put_some e with ⟨rfl, rfl⟩ | ⟨_, e⟩
    · exact ho
    · exact S.kp _ _ e
  · have : b ≠ I := by rintro rfl; rw [a.g] at e; cases e
    rw [put_ne this]; exact S.fresh b p e
  · obtain ⟨c, vo, c1, c2, c3, c4, c5, c6⟩ := S.cells x hx
    exact ⟨c, vo, c1, c2, by rw [put_ne (a.c x c hx c1)]; exact c3, c4, c5, c6⟩
  · obtain ⟨m1, m2, r⟩ := S.muok b wr ds e
    have : b ≠ I := by rintro rfl; rw [a.m] at e; cases e
    exact ⟨m1, by rw [put_ne this]; exact m2, r⟩
/-- let it go again -/
theorem St.unhold (S : St X env (put keep I o) g₀ g h md mu) (hk : keep I = none) (h₀ : g₀ I = none) (hc : ∀ vs n, o ≠ lstO vs n) (hce : ∀ v, o.data ≠ .cell v) : St X env keep g₀ g h md mu ∧ Apart env keep g₀ g mu I ∧ h.get? I = some o := by
  have gI : g I = none := by
    cases q : g I with
    | none => rfl
    | some p =>
      rcases S.fresh I p q with e | e
      · rw [h₀] at e; cases e
      · exact absurd rfl (put_none e).1
  have hI : h.get? I = some o := S.kp _ _ put_self
  have mI : mu I = none := by
    cases q : mu I with
    | none => rfl
    | some x =>
      obtain ⟨_, _, vs, n, e, _⟩ := S.muok I x.1 x.2 q
      rw [hI] at e; exact absurd (Option.some.inj e) (hc vs n)
  refine ⟨{ S with kp := fun b p e => S.kp b p (by rw [put_ne (by rintro rfl; rw [hk] at e; cases e)]; exact e), fresh := fun b p e => (S.fresh b p e).imp id fun q => (put_none q).2, offk := (put_none S.offk).2, cells := fun x hx => ?_, muok := fun b wr ds e => ?_ }, ⟨hk, h₀, gI, mI, (put_none S.offk).1, fun x c hx h1 => ?_⟩, hI⟩
  · obtain ⟨c, vo, c1, c2, c3, c4, c5, c6⟩ := S.cells x hx
    exact ⟨c, vo, c1, c2, fun hf => (put_none (c3 hf)).2, c4, c5, c6⟩
  · obtain ⟨m1, m2, r⟩ := S.muok b wr ds e
    have : b ≠ I := by rintro rfl; rw [mI] at e; cases e
    exact ⟨m1, by rw [put_ne this] at m2; exact m2, r⟩
  · obtain ⟨c', vo, c1, ⟨p, c2, c2'⟩, c3, _⟩ := S.cells x hx
    rw [h1] at c1; cases c1
    rintro rfl
    rw [hI] at c2; cases c2
    exact hce _ c2'
/-- that object alone is changed -/
theorem St.besides (S : St X env keep g₀ g h md mu) (a : Apart env keep g₀ g mu I) (hk : ∀ b o, b ∉ [I] → h.get? b = some o → h'.get? b = some o) : St X env keep g₀ g h' md mu := by
  have up : ∀ b o, b ≠ I → h.get? b = some o → h'.get? b = some o := fun b o hb e => hk b o (by simpa using hb) e
  refine { S with kn := fun b p e => up b p (by rintro rfl; rw [a.g] at e; cases e) (S.kn b p e), kp := fun b p e => up b p (by rintro rfl; rw [a.k] at e; cases e) (S.kp b p e), loc := ?_, cells := fun x hx => ?_, vars := fun x d e => ?_, muok := fun b wr ds e => ?_ }
  · obtain ⟨m, hm⟩ := S.loc; exact ⟨m, hm.at' fun o e => up _ o a.l e⟩
  · obtain ⟨c, vo, c1, ⟨p, c2, c2'⟩, c3, c4, c5, c6⟩ := S.cells x hx
    exact ⟨c, vo, c1, ⟨p, up _ _ (a.c x c hx c1) c2, c2'⟩, c3, c4, c5, c6⟩
  · obtain ⟨v, hv, r⟩ := S.vars x d e
    refine ⟨v, ?_, r⟩
    rcases hv with ⟨k, m, hm, e2⟩ | ⟨k, c, hc, ⟨p, e3, e4⟩⟩
    · exact .inl ⟨k, m, hm.at' fun o e => up _ o a.l e, e2⟩
    · exact .inr ⟨k, c, hc, p, up _ _ (a.c x c k hc) e3, e4⟩
  · obtain ⟨m1, m2, vs, n, m3, m4⟩ := S.muok b wr ds e
    exact ⟨m1, m2, vs, n, up _ _ (by rintro rfl; rw [a.m] at e; cases e) m3, m4⟩
end
end Mine

namespace Mine
open PySem PyProof.Rows

def Kd (env : Env) (x : Str) : Prop := env.kindOf x = some .local ∨ (env.kindOf x = some .cell ∧ env.func.isSome = true)

section
variable {X : Cx} {A : Around} {env : Env} {keep g₀ g g' : Kn} {h h' : Heap} {md md' : Md} {mu mu' : Mu} {s : Shared} {E : Value → Shared → Prop}
theorem store_upd {x : Str} {v : Value} {d : D} {Q : Unit → Shared → Prop} (S : St X env keep g₀ g s.heap md mu) (r : Rep g v d) (hx : Kd env x)
    (h : ∀ h' tk, St X env keep g₀ g h' (upd md x d) mu → Q () { s with heap := h', toks := tk }) : wpAny (model X.prog X.w) A (storeName env x v) Q E s :=
  store_ S r hx fun h' tk S' => h h' tk (S'.weaken (upd_sub md x d))
theorem St.here (S : St X env keep g₀ g h md mu) : St X env keep g g h md mu := { S with ext := Ext.refl g, fresh := fun _ _ e => .inl e }
theorem St.back (S : St X env keep g₀ g h md mu) (S' : St X env keep g g' h' md' mu') : St X env keep g₀ g' h' md' mu' :=
  { S' with ext := S.ext.trans S'.ext, fresh := fun a o e => (S'.fresh a o e).elim (S.fresh a o) .inr }
theorem Fin.back (S : St X env keep g₀ g h md mu) (S' : Fin X keep g g' h') : Fin X keep g₀ g' h' :=
  { S' with ext := S.ext.trans S'.ext, fresh := fun a o e => (S'.fresh a o e).elim (S.fresh a o) .inr }

/-- a for loop over what walks -/
theorem loop_core {x : Str} {px : Pos} {body : List Stmt} {I : Addr} {fp : List Addr} {n : Nat} {P : Nat → Value → Prop} {Sw : Nat → Heap → Prop} {RR : Result → Shared → Prop} (W : Walks X.prog X.w A I fp [I] n P Sw)
    (hcls : ∀ i h, Sw i h → ∃ o, h.get? I = some o ∧ o.cls ≠ .type "list" ∧ ∀ v, o.data ≠ .cell v) (hx : Kd env x) (di : Nat → D) (hitem : ∀ i v, P i v → Rep g v (di i)) (hsrc : ∀ b ∈ fp, b = I ∨ ∃ o, g b = some o)
    (S : St X env keep g₀ g s.heap md mu) (a : Apart env keep g₀ g mu I) (hst : Sw 0 s.heap) (J : Nat → Post) (Bk : Post) (R : D → Prop) (h0 : J 0 md mu)
    (turn : ∀ i md' mu', i < n → J i md' mu' → Ex X A env (upd md' x (di i)) mu' body (J (i + 1)) Bk (J (i + 1)) R)
    (done : ∀ md' mu' g' h' tk, J n md' mu' ∨ Bk md' mu' → St X env keep g₀ g' h' md' mu' → RR (.ok .next) { s with heap := h', toks := tk })
    (ret : ∀ d v g' h' tk, R d → Fin X keep g₀ g' h' → Rep g' v d → RR (.ok (.ret v)) { s with heap := h', toks := tk }) :
    codeAny (model X.prog X.w) A (.forLoop (.Name x px) (.ref I) body [] env) RR s := by
  refine codeAny_forLoop
    (fun k s' => ∃ i h' tk g' md' mu', s' = { s with heap := h', toks := tk } ∧ i ≤ n ∧ k = n + 1 - i ∧ Sw i h' ∧ St X env keep g₀ g' h' md' mu' ∧ Ext g g' ∧ J i md' mu' ∧ Apart env keep g₀ g' mu' I) ?_ (n + 1)
    ⟨0, s.heap, s.toks, g, md, mu, rfl, Nat.zero_le _, rfl, hst, S, Ext.refl g, h0, a⟩
  rintro k s' ⟨i, h', tk, g', md', mu', rfl, hi, rfl, hst', S', x', hJ, a'⟩
  by_cases hlt : i < n
  · refine W.item i _ _ _ hlt hst' fun v h₁ tk₁ hP hst₁ hk₁ => ?_
    have S₁ := S'.besides a' hk₁
    obtain ⟨o, ho, hc0, hc2⟩ := hcls _ _ hst₁
    have hc1 : ∀ vs n, o ≠ lstO vs n := fun vs n e => hc0 (by rw [e])
    have S₁h := (S₁.here).hold ⟨a'.k, a'.g, a'.g, a'.m, a'.l, a'.c⟩ ho
    refine wpAny_assign_Name (store_upd S₁h ((hitem i v hP).mono x') hx fun h₂ tk₂ S₂ => ?_)
    have again : ∀ md'' mu'' g'' h₄ tk₄, J (i + 1) md'' mu'' → St X env (put keep I o) g' g'' h₄ md'' mu'' → ∃ m, m < n + 1 - i ∧ ∃ i h' tk g' md' mu', ({ s with heap := h₄, toks := tk₄ } : Shared) = { s with heap := h', toks := tk } ∧ i ≤ n ∧ m = n + 1 - i ∧ Sw i h' ∧ St X env keep g₀ g' h' md' mu' ∧ Ext g g' ∧ J i md' mu' ∧ Apart env keep g₀ g' mu' I := by
      intro md'' mu'' g'' h₄ tk₄ hJ' S₄
      obtain ⟨S₅, a₅, hI₅⟩ := S₄.unhold a'.k a'.g hc1 hc2
      refine ⟨n + 1 - (i + 1), by omega, i + 1, h₄, tk₄, g'', md'', mu'', rfl, hlt, rfl, W.frame _ _ _ hst₁ (fun b hb p e => ?_), S₁.back S₅, x'.trans S₅.ext, hJ', ⟨a₅.k, a'.g₀, a₅.g, a₅.m, a₅.l, a₅.c⟩⟩
      rcases hsrc b hb with rfl | ⟨q, hq⟩
      · rw [ho] at e; cases e; exact hI₅
      · have e1 := S₁.kn _ _ (x' _ _ hq)
        rw [e1] at e; cases e
        exact S₅.kn _ _ (S₅.ext _ _ (x' _ _ hq))
    refine (turn i md' mu' hlt hJ).run (put keep I o) g' g' _ _ _ S₂ ?_ ?_ ?_ ?_
    · exact fun md'' mu'' g'' h₄ tk₄ hJ' S₄ => again md'' mu'' g'' h₄ tk₄ hJ' S₄
    · exact fun md'' mu'' g'' h₄ tk₄ hB S₄ => done md'' mu'' g'' h₄ tk₄ (.inr hB) (S₁.back (S₄.unhold a'.k a'.g hc1 hc2).1)
    · exact fun md'' mu'' g'' h₄ tk₄ hJ' S₄ => again md'' mu'' g'' h₄ tk₄ hJ' S₄
    · intro d v g'' h₄ tk₄ hR fin rv
      refine ret d v g'' h₄ tk₄ hR (Fin.back S₁ ⟨fin.ext, fin.kn, fun b p e => fin.kp b p ?_, fun b p e => (fin.fresh b p e).imp id fun q => (put_none q).2⟩) rv
      rw [put_ne (by rintro rfl; rw [a'.k] at e; cases e)]; exact e
  · have hin : i = n := by omega
    subst hin
    refine W.done _ _ _ hst' fun h₁ tk₁ hk₁ => wpAny_execs_nil ?_
    exact done md' mu' g' h₁ tk₁ (.inl hJ) (S'.besides a' hk₁)
end

section
variable {X : Cx} {A : Around} {env : Env} {md md' : Md} {mu : Mu} {N B C : Post} {R : D → Prop} {rest : List Stmt}
theorem Ex.nil (h : N md mu) : Ex X A env md mu [] N B C R := ⟨fun _ _ g s _ _ S n _ _ _ => wpAny_execs_nil (n md mu g s.heap s.toks h S)⟩
theorem Ex.weaken {ss : List Stmt} (hm : ∀ x d, md'.lookup x = some d → md.lookup x = some d) (h : Ex X A env md' mu ss N B C R) : Ex X A env md mu ss N B C R :=
  ⟨fun keep g₀ g s Q E S n b c r => h.run keep g₀ g s Q E (S.weaken hm) n b c r⟩
/-- forget the names behind -/
theorem Ex.forget {ss : List Stmt} (more : Md) (h : Ex X A env md mu ss N B C R) : Ex X A env (md ++ more) mu ss N B C R := h.weaken lookup_app
theorem Ex.conseq {ss : List Stmt} {N' B' C' : Post} {R' : D → Prop} (h : Ex X A env md mu ss N B C R) (hn : ∀ md mu, N md mu → N' md mu) (hb : ∀ md mu, B md mu → B' md mu) (hc : ∀ md mu, C md mu → C' md mu) (hr : ∀ d, R d → R' d) : Ex X A env md mu ss N' B' C' R' :=
  ⟨fun keep g₀ g s Q E S n b c r => h.run keep g₀ g s Q E S (fun md' mu' g' h' tk q => n md' mu' g' h' tk (hn _ _ q)) (fun md' mu' g' h' tk q => b md' mu' g' h' tk (hb _ _ q)) (fun md' mu' g' h' tk q => c md' mu' g' h' tk (hc _ _ q)) fun d v g' h' tk q => r d v g' h' tk (hr _ q)⟩
theorem execs_app (env : Env) (a b : List Stmt) : execs (a ++ b) env = (execs a env >>= fun f => match f with | .next => execs b env | f => pure f) := by
  induction a with
  | nil => show _ = (pure Flow.next >>= _); rw [pure_bind]; rfl
  | cons st a ih =>
    rw [List.cons_append, execs_cons, execs_cons, ih, bind_assoc]
    congr 1
    funext f
    cases f <;> simp
theorem if_app (env : Env) (test : Expr) (body orelse rest : List Stmt) (pos : Pos) :
    execs (.If test body orelse pos :: rest) env = (standAt pos >>= fun _ => isTrue test env (eval test env) >>= fun b => if b then execs (body ++ rest) env else execs (orelse ++ rest) env) := by
  rw [execs_cons, exec_If]
  simp only [bind_assoc]
  congr 1
  funext _
  congr 1
  funext b
  cases b
  · simp only [Bool.false_eq_true, if_false]; rw [execs_app]; rfl
  · simp only [if_true]; rw [execs_app]; rfl
theorem Ex.ifT {test : Expr} {body orelse : List Stmt} {pos : Pos} (ht : Ts X A env md mu test true) (h : Ex X A env md mu (body ++ rest) N B C R) : Ex X A env md mu (.If test body orelse pos :: rest) N B C R := by
  refine ⟨fun keep g₀ g s Q E S n b c r => ?_⟩
  rw [if_app]
  refine wpAny_bind (wpAny_standAt (wpAny_bind (ht.run keep g₀ g s _ E S fun g' h' tk S' x' => ?_)))
  rw [if_pos rfl]
  exact h.run keep g₀ g' _ Q E S' (fun md' mu' g' h' tk => n md' mu' g' h' tk) (fun md' mu' g' h' tk => b md' mu' g' h' tk) (fun md' mu' g' h' tk => c md' mu' g' h' tk) fun d v g' h' tk => r d v g' h' tk
theorem Ex.ifF {test : Expr} {body orelse : List Stmt} {pos : Pos} (ht : Ts X A env md mu test false) (h : Ex X A env md mu (orelse ++ rest) N B C R) : Ex X A env md mu (.If test body orelse pos :: rest) N B C R := by
  refine ⟨fun keep g₀ g s Q E S n b c r => ?_⟩
  rw [if_app]
  refine wpAny_bind (wpAny_standAt (wpAny_bind (ht.run keep g₀ g s _ E S fun g' h' tk S' x' => ?_)))
  rw [if_neg Bool.false_ne_true]
  exact h.run keep g₀ g' _ Q E S' (fun md' mu' g' h' tk => n md' mu' g' h' tk) (fun md' mu' g' h' tk => b md' mu' g' h' tk) (fun md' mu' g' h' tk => c md' mu' g' h' tk) fun d v g' h' tk => r d v g' h' tk
theorem Ex.ite {test : Expr} {body orelse : List Stmt} {pos : Pos} {p : Bool} (ht : Ts X A env md mu test p) (h1 : p = true → Ex X A env md mu (body ++ rest) N B C R) (h2 : p = false → Ex X A env md mu (orelse ++ rest) N B C R) : Ex X A env md mu (.If test body orelse pos :: rest) N B C R := by
  cases p with
  | true => exact Ex.ifT ht (h1 rfl)
  | false => exact Ex.ifF ht (h2 rfl)
theorem Ex.assign {x : Str} {p pos : Pos} {e : Expr} {d : D} (he : Ev X A env md mu e d) (hx : Kd env x) (h : Ex X A env (upd md x d) mu rest N B C R) (hs : swapsWith e (some (.Name x p)) pos.line env = pure false := by rfl) :
    Ex X A env md mu (.Assign [.Name x p] e pos :: rest) N B C R := by
  refine ⟨fun keep g₀ g s Q E S n b c r => ?_⟩
  refine wpAny_execs_cons (wpAny_Assign_Name (he.run keep g₀ g s _ E S fun v g₁ h₁ tk₁ S₁ x₁ r₁ => store_upd S₁ r₁ hx fun h₂ tk₂ S₂ => ?_) hs)
  exact h.run keep g₀ g₁ _ Q E S₂ (fun md' mu' g' h' tk => n md' mu' g' h' tk) (fun md' mu' g' h' tk => b md' mu' g' h' tk) (fun md' mu' g' h' tk => c md' mu' g' h' tk) fun d v g' h' tk => r d v g' h' tk
theorem Ex.ret {e : Expr} {d : D} {pos : Pos} (he : Ev X A env md mu e d) (hr : R d) : Ex X A env md mu (.Return (some e) pos :: rest) N B C R := by
  refine ⟨fun keep g₀ g s Q E S n b c r => ?_⟩
  exact wpAny_execs_cons (wpAny_Return_some (he.run keep g₀ g s _ E S fun v g₁ h₁ tk₁ S₁ x₁ r₁ => r d v g₁ h₁ tk₁ hr S₁.fin r₁))
theorem Ex.brk {pos : Pos} (h : B md mu) : Ex X A env md mu (.Break pos :: rest) N B C R := ⟨fun keep g₀ g s Q E S n b c r => wpAny_execs_cons (wpAny_Break (b md mu g s.heap s.toks h S))⟩
theorem Ex.cont {pos : Pos} (h : C md mu) : Ex X A env md mu (.Continue pos :: rest) N B C R := ⟨fun keep g₀ g s Q E S n b c r => wpAny_execs_cons (wpAny_Continue (c md mu g s.heap s.toks h S))⟩
/-- two stretches -/
theorem Ex.seq {a b : List Stmt} {M : Post} (h : Ex X A env md mu a M B C R) (k : ∀ md' mu', M md' mu' → Ex X A env md' mu' b N B C R) : Ex X A env md mu (a ++ b) N B C R := by
  refine ⟨fun keep g₀ g s Q E S n bb c r => ?_⟩
  rw [execs_app]
  refine wpAny_bind (h.run keep g₀ g s _ E S (fun md' mu' g' h' tk hm S' => ?_) (fun md' mu' g' h' tk hm S' => wpAny_pure (bb md' mu' g' h' tk hm S')) (fun md' mu' g' h' tk hm S' => wpAny_pure (c md' mu' g' h' tk hm S')) fun d v g' h' tk hm S' rv => wpAny_pure (r d v g' h' tk hm S' rv))
  exact (k md' mu' hm).run keep g₀ g' _ Q E S' (fun md' mu' g' h' tk => n md' mu' g' h' tk) (fun md' mu' g' h' tk => bb md' mu' g' h' tk) (fun md' mu' g' h' tk => c md' mu' g' h' tk) fun d v g' h' tk => r d v g' h' tk
end
end Mine

namespace Mine
open PySem PyProof.Rows

section
variable {X : Cx} {env : Env} {keep g₀ g g' : Kn} {h h' : Heap} {md : Md} {mu : Mu} {I : Addr} {o : Obj}
theorem St.nextBut (S : St X env keep g₀ g h md mu) (a : Apart env keep g₀ g mu I) (hI : (h.get? I).isSome = true) (hk : ∀ b o, b ≠ I → h.get? b = some o → h'.get? b = some o) (hx : Ext g g') (kn : ∀ a o, g' a = some o → h'.get? a = some o)
    (fr : ∀ a o, g' a = some o → g a = some o ∨ h.get? a = none) : St X env keep g₀ g' h' md mu ∧ Apart env keep g₀ g' mu I := by
  have no : ∀ b, g b = none → ∀ p, h.get? b = some p → g' b = none := fun b hb p hp => by
    cases q : g' b with
    | none => rfl
    | some o' =>
      rcases fr b o' q with e | e
      · rw [hb] at e; cases e
      · rw [hp] at e; cases e
  obtain ⟨oI, hoI⟩ := Option.isSome_iff_exists.mp hI
  have S' := S.besides (h' := h') a fun b p hb e => hk b p (by simpa using hb) e
  refine ⟨⟨S.kind, S.glob, S.blt, fun a o e => hx _ _ (S.base a o e), S.ext.trans hx, kn, S'.kp, fun b p e => ?_, S'.loc, S.offk, ?_, S.offm, fun x hx' => ?_, S.inj, fun x d e => ?_, fun b wr ds e => ?_⟩, ⟨a.k, a.g₀, no I a.g oI hoI, a.m, a.l, a.c⟩⟩
  · rcases fr b p e with e' | e'
    · exact S.fresh b p e'
    · right
      cases q : keep b with
      | none => rfl
      | some o' => rw [S.kp b o' q] at e'; cases e'
  · obtain ⟨m, p, _, _, hp, _⟩ := S.loc; exact no _ S.offg p hp
  · obtain ⟨c, vo, h1, h2, h3, h4, h5, h6⟩ := S'.cells x hx'
    obtain ⟨c', vo', k1, ⟨p, k2, _⟩, _, k4, _⟩ := S.cells x hx'
    rw [h1] at k1; cases k1
    exact ⟨c, vo, h1, h2, h3, no c h4 p k2, h5, h6⟩
  · obtain ⟨v, hv, hr⟩ := S'.vars x d e
    exact ⟨v, hv, hr.mono hx⟩
  · obtain ⟨h1, h2, vs, n, h3, h4⟩ := S.muok b wr ds e
    obtain ⟨_, _, vs', n', h3', h4'⟩ := S'.muok b wr ds e
    exact ⟨no b h1 _ h3, h2, vs', n', h3', h4'.mono hx⟩
/-- a new list becomes one of the mutable ones -/
theorem St.adopt {vs : List Value} {ds : List D} {n : Nat} (S : St X env keep g₀ g h md mu) (a : Apart env keep g₀ g mu I) (ho : h.get? I = some (lstO vs n)) (r : RepAll g vs ds) : St X env keep g₀ g h md (mput mu I (true, ds)) := by
  refine { S with offm := by rw [mput_ne a.l]; exact S.offm, cells := fun x hx => ?_, muok := fun b wr es e => ?_ }
  · obtain ⟨c, vo, h1, h2, h3, h4, h5, h6⟩ := S.cells x hx
    exact ⟨c, vo, h1, h2, h3, h4, by rw [mput_ne (a.c x c hx h1)]; exact h5, h6⟩
  · by_cases q : b = I
    · subst q
      rw [mput_self] at e; cases e
      exact ⟨a.g, ⟨fun _ => a.k, fun _ => rfl⟩, vs, n, ho, r⟩
    · rw [mput_ne q] at e; exact S.muok b wr es e
theorem mdel_ne {mu : Mu} {a b : Addr} (h : b ≠ a) : mdel mu a b = mu b := if_neg h
theorem mdel_mput {mu : Mu} {a : Addr} {x : Bool × List D} (h : mu a = none) : mdel (mput mu a x) a = mu := by
  funext b
  unfold mdel mput
  by_cases q : b = a
  · subst q; rw [if_pos rfl, h]
  · rw [if_neg q, if_neg q]
theorem mput_mput {mu : Mu} {a : Addr} {x y : Bool × List D} : mput (mput mu a x) a y = mput mu a y := by
  funext b
  unfold mput
  by_cases q : b = a
  · rw [if_pos q, if_pos q]
  · rw [if_neg q, if_neg q, if_neg q]
/-- a mutable list is mutable no more -/
theorem St.freeze {ds : List D} (S : St X env keep g₀ g h md mu) {a : Addr} (e : mu a = some (true, ds)) : ∃ g', St X env keep g₀ g' h md (mdel mu a) ∧ Ext g g' ∧ Rep g' (.ref a) (.lst ds) := by
  obtain ⟨h1, h2, vs, n, h3, h4⟩ := S.muok a true ds e
  have hL : env.locals ≠ a := by rintro rfl; rw [S.offm] at e; cases e
  have x := put_ext (o := lstO vs n) h1
  refine ⟨put g a (lstO vs n), ⟨S.kind, S.glob, S.blt, fun b o q => x _ _ (S.base b o q), S.ext.trans x, fun b o q => ?_, S.kp, fun b o q => ?_, S.loc, S.offk, by rw [put_ne hL]; exact S.offg, by rw [mdel_ne hL]; exact S.offm, fun y hy => ?_, S.inj, fun y d q => ?_, fun b wr es q => ?_⟩, x, .lst put_self (h4.mono x)⟩
  · rcases put_some q with ⟨rfl, rfl⟩ | ⟨_, q⟩
    · exact h3
    · exact S.kn _ _ q
  · rcases put_some q with ⟨rfl, rfl⟩ | ⟨_, q⟩
    · exact .inr (h2.mp rfl)
    · exact S.fresh _ _ q
  · obtain ⟨c, vo, c1, c2, c3, c4, c5, c6⟩ := S.cells y hy
    have hc : c ≠ a := by rintro rfl; rw [c5] at e; cases e
    exact ⟨c, vo, c1, c2, c3, by rw [put_ne hc]; exact c4, by rw [mdel_ne hc]; exact c5, c6⟩
  · obtain ⟨v, hv, r⟩ := S.vars y d q
    exact ⟨v, hv, r.mono x⟩
  · by_cases qa : b = a
    · subst qa; unfold mdel at q; rw [if_pos rfl] at q; cases q
    · rw [mdel_ne qa] at q
      obtain ⟨m1, m2, us, k, m3, m4⟩ := S.muok b wr es q
      exact ⟨by rw [put_ne qa]; exact m1, m2, us, k, m3, m4.mono x⟩
/-- another word for what a name stands for -/
theorem St.tell {x : Str} {a : Addr} {d : D} (S : St X env keep g₀ g h md mu) (hx : md.lookup x = some (.ptr a)) (r : Rep g (.ref a) d) : St X env keep g₀ g h (upd md x d) mu := by
  refine { S with vars := fun y e q => ?_ }
  rw [lookup_upd] at q
  by_cases hy : y = x
  · subst hy; rw [if_pos rfl] at q; cases q
    obtain ⟨v, hv, rv⟩ := S.vars y _ hx
    cases rv
    exact ⟨_, hv, r⟩
  · rw [if_neg hy] at q; exact S.vars y e q
end

/-- an expression that makes a new list, which may be written on -/
structure EvF (X : Cx) (A : Around) (env : Env) (md : Md) (mu : Mu) (e : Expr) (ds : List D) : Prop where
  run : ∀ (keep g₀ g : Kn) (s : Shared) (Q : Value → Shared → Prop) (E : Value → Shared → Prop), St X env keep g₀ g s.heap md mu →
    (∀ a g' h' tk, mu a = none → St X env keep g₀ g' h' md (mput mu a (true, ds)) → Ext g g' → Q (.ref a) { s with heap := h', toks := tk }) →
    wpAny (model X.prog X.w) A (eval e env) Q E s

def Blt (X : Cx) (x : Str) (v : Value) : Prop := X.mg x = none ∧ X.mb x = some v

section
variable {X : Cx} {A : Around} {env : Env} {md : Md} {mu : Mu}
theorem EvF.ev {e : Expr} {ds : List D} (h : EvF X A env md mu e ds) : Ev X A env md mu e (.lst ds) := by
  refine ⟨fun keep g₀ g s Q E S k => h.run keep g₀ g s Q E S fun a g' h' tk ha S' x' => ?_⟩
  ·
    obtain ⟨g'', S'', x'', r⟩ := S'.freeze mput_self
    rw [mdel_mput ha] at S''
    exact k _ g'' h' tk S'' (x'.trans x'') r
theorem EvF.lst {es : List Expr} {pos : Pos} {ds : List D} (h : EvAll X A env md mu es ds) (hsz : ds.length ≤ sizeLine := by (simp only [List.length_cons, List.length_nil]; decide)) : EvF X A env md mu (.List es pos) ds := by
  refine ⟨fun keep g₀ g s Q E S kk => ?_⟩
  refine List_ (h.run pos keep g₀ g s _ E S fun vs g₁ h₁ tk₁ S₁ x₁ r₁ => ?_)
  refine wpAny_newList ?_ (by rw [r₁.length]; exact hsz)
  have a := S₁.fresh_apart (fresh_size h₁)
  exact kk _ g₁ _ tk₁ a.m (S₁.allocMu r₁) x₁

/-- a built-in name -/
theorem name_blt {keep g₀ g : Kn} {s : Shared} {Q : Value → Shared → Prop} {E : Value → Shared → Prop} {x : Str} {pos : Pos} {v : Value} (b : Blt X x v) (S : St X env keep g₀ g s.heap md mu) (hx : env.kindOf x = some .globalImplicit) (h : Q v s) (hd : (x == ("__debug__" : Str)) = false := by decide) :
    wpAny (model X.prog X.w) A (eval (.Name x pos) env) Q E s := by
  have b0 : ∀ b o, X.h₀.get? b = some o → s.heap.get? b = some o := fun b o e => S.kn _ _ (S.base b o e)
  exact Calls.Name_function_global S.kind hx (Calls.loadGlobal_builtin (mg := X.mg) (mb := X.mb) (by rw [S.glob]; exact X.T.g.keeps b0) b.1 (by rw [S.blt]; exact X.T.b.keeps b0) b.2 h) hd
theorem Ev.len {np pos : Pos} {e : Expr} {d : D} {ds : List D} (b : Blt X "len" (.builtin "len")) (he : Ev X A env md mu e d) (q : Sq mu d ds) (hx : env.kindOf "len" = some .globalImplicit) (hsz : ds.length ≤ sizeLine)
    (hn : starEach [e] env = [(false, eval e env)] := by rfl) : Ev X A env md mu (.Call (.Name "len" np) [e] [] pos) (.int ds.length) := by
  refine ⟨fun keep g₀ g s Q E S k => ?_⟩
  refine wpAny_Call_ofName (name_blt b S hx ?_)
  rw [hn]
  refine Calls.callWith_builtin rfl (Calls.evalArgs_plain (Calls.spliced_cons (he.run keep g₀ g s _ E S fun v g₁ h₁ tk₁ S₁ x₁ r₁ => Calls.spliced_nil ?_)))
  obtain ⟨a, vs, n, rfl, hl, hr⟩ := q.isL S₁ r₁
  have hsz' : (vs.toArray.size : Int) < 2 ^ 63 := by rw [List.size_toArray, hr.length]; simp [sizeLine] at hsz; omega
  show wpAny _ _ (PySem.call (.builtin "len") [.ref a]) _ _ _
  refine len_list hl.isList hsz' ?_
  rw [List.size_toArray, hr.length]
  exact k _ g₁ h₁ _ S₁ x₁ (.int _ _)
/-- list(e) -/
theorem EvF.listOf {np pos : Pos} {e : Expr} {d : D} {ds : List D} (b : Blt X "list" (.type "list")) (he : Ev X A env md mu e d) (q : Sq mu d ds) (hx : env.kindOf "list" = some .globalImplicit) (hsz : ds.length ≤ sizeLine)
    (hn : starEach [e] env = [(false, eval e env)] := by rfl) : EvF X A env md mu (.Call (.Name "list" np) [e] [] pos) ds := by
  refine ⟨fun keep g₀ g s Q E S k => ?_⟩
  refine wpAny_Call_ofName (name_blt b S hx ?_)
  rw [hn]
  refine PySem.callWith_type rfl (Calls.evalArgs_plain (Calls.spliced_cons (he.run keep g₀ g s _ E S fun v g₁ h₁ tk₁ S₁ x₁ r₁ => Calls.spliced_nil ?_)))
  obtain ⟨a, vs, n, rfl, hl, hr⟩ := q.isL S₁ r₁
  show wpAny _ _ (PySem.call (.type "list") [.ref a]) _ _ _
  refine call_list_seq a (.inl rfl) hl rfl rfl (fun h₂ c' hk hD => ?_) (by rw [List.size_toArray, hr.length]; exact hsz)
  have ap := S₁.fresh_apart (fresh_size h₁)
  exact k _ g₁ h₂ tk₁ ap.m ((S₁.grows hk).adopt ap hD hr) x₁
end
end Mine

namespace Mine
open PySem PyProof.Rows

/-- what a for goes over: n items, di of them -/
structure It (X : Cx) (A : Around) (env : Env) (md : Md) (mu : Mu) (iter : Expr) (n : Nat) (di : Nat → D) : Prop where
  run : ∀ (keep g₀ g : Kn) (s : Shared) (Q : Value → Shared → Prop) (E : Value → Shared → Prop), St X env keep g₀ g s.heap md mu →
    (∀ I fp P Sw g' h' tk, St X env keep g₀ g' h' md mu → Ext g g' → Walks X.prog X.w A I fp [I] n P Sw → (∀ i h, Sw i h → ∃ o, h.get? I = some o ∧ o.cls ≠ .type "list" ∧ ∀ v, o.data ≠ .cell v) →
      (∀ i v, P i v → Rep g' v (di i)) → (∀ b ∈ fp, b = I ∨ ∃ o, g' b = some o) → Apart env keep g₀ g' mu I → Sw 0 h' → Q (.ref I) { s with heap := h', toks := tk }) →
    wpAny (model X.prog X.w) A (eval iter env) (fun x s₁ => wpAny (model X.prog X.w) A (pyIter x) Q E s₁) E s

section
variable {X : Cx} {A : Around} {env : Env} {md : Md} {mu : Mu}
theorem It.range {np pos : Pos} {e : Expr} {k : Int} (hh : A.handled = none) (b : Blt X "range" (.type "range")) (he : Ev X A env md mu e (.int k)) (hx : env.kindOf "range" = some .globalImplicit) (h1 : -(2 ^ 62) ≤ k) (h2 : k < 2 ^ 62)
    (hn : starEach [e] env = [(false, eval e env)] := by rfl) : It X A env md mu (.Call (.Name "range" np) [e] [] pos) k.toNat (fun i => .int i) := by
  refine ⟨fun keep g₀ g s Q E S kk => ?_⟩
  refine wpAny_Call_ofName (name_blt b S hx ?_)
  rw [hn]
  refine PySem.callWith_type rfl (Calls.evalArgs_plain (Calls.spliced_cons (he.run keep g₀ g s _ E S fun v g₁ h₁ tk₁ S₁ x₁ r₁ => Calls.spliced_nil ?_)))
  cases r₁ with
  | int _ t =>
  show wpAny _ _ (PySem.call (.type "range") [.int k t]) _ _ _
  refine call_range_1 ?_
  have S₂ := S₁.push { cls := .type "range", data := .fields #[.int 0 tk₁, .int k t, .int 1 (tk₁ + 1)] }
  refine wpAny_pyIter_range (IsRange.new h₁ 0 k 1 tk₁ t (tk₁ + 1)) (small_one (by decide) (by decide) h1 h2) ?_
  have hsz : Builtin.Range.rangeSize 0 k 1 = (k.toNat : Int) := by rw [rangeSize_one]; split <;> omega
  rw [hsz]
  have ap := S₂.fresh_apart (fresh_size _)
  refine kk _ _ _ _ g₁ _ _ (S₂.push _) x₁ (Walks.range hh _ 0 1 k.toNat) (fun i h hs => ⟨_, hs, (fun q => by injection q with q; exact absurd q (by decide)), fun v => by intro q; cases q⟩) (fun i v hp => ?_) (fun b hb => .inl (by simpa using hb)) ap ?_
  · obtain ⟨t', rfl⟩ := hp
    have : (0 : Int) + (i : Int) * 1 = (i : Int) := by omega
    rw [this]; exact .int _ _
  · have : (0 : Int) + ((0 : Nat) : Int) * 1 = 0 := by decide
    show IsRangeIter _ _ _ _ _
    rw [this]
    have e2 : ((k.toNat : Int) - ((0 : Nat) : Int)) = (k.toNat : Int) := by omega
    rw [e2]
    exact Heap.get?_push_size _ rfl
theorem It.lst {e : Expr} {ds : List D} (hh : A.handled = none) (he : Ev X A env md mu e (.lst ds)) : It X A env md mu e ds.length (fun i => ds.getD i .none) := by
  refine ⟨fun keep g₀ g s Q E S kk => ?_⟩
  refine he.run keep g₀ g s _ E S fun v g₁ h₁ tk₁ S₁ x₁ r₁ => ?_
  cases r₁ with
  | @lst a vs n _ e r =>
  have hl : IsL h₁ a vs.toArray n := S₁.kn _ _ e
  refine wpAny_pyIter_list hl.isList ?_
  have ap := S₁.fresh_apart (fresh_size h₁)
  have hne : a ≠ h₁.objs.size := Nat.ne_of_lt (Heap.lt_size hl)
  have hlen := r.length
  have W := Walks.list (prog := X.prog) (w := X.w) hh h₁.objs.size a hne vs.toArray
  rw [show vs.toArray.size = ds.length by rw [List.size_toArray, hlen]] at W
  refine kk _ _ _ _ g₁ _ tk₁ (S₁.push _) x₁ W (fun i h hs => ?_) (fun i v hp => ?_) (fun b hb => ?_) ap ⟨⟨_, Heap.get?_push_size _ rfl, rfl, rfl⟩, (hl.push _).isList⟩
  · obtain ⟨⟨o, ho, hc, hd⟩, _⟩ := hs
    exact ⟨o, ho, by rw [hc]; decide, fun v => by rw [hd]; intro q; cases q⟩
  · have hp' : vs[i]? = some v := by simpa using hp
    have hi : i < ds.length := by
      rcases Nat.lt_or_ge i vs.length with q | q
      · omega
      · rw [List.getElem?_eq_none q] at hp'; cases hp'
    obtain ⟨u, hu, ru⟩ := r.get (List.getElem?_eq_getElem hi)
    rw [hp'] at hu; cases hu
    show Rep g₁ v (ds.getD i .none)
    rw [List.getD_eq_getElem?_getD, List.getElem?_eq_getElem hi]
    exact ru
  · simp only [List.mem_cons, List.not_mem_nil, or_false] at hb
    rcases hb with rfl | rfl
    · exact .inl rfl
    · exact .inr ⟨_, e⟩
theorem It.tup {e : Expr} {ds : List D} (hh : A.handled = none) (he : Ev X A env md mu e (.tup ds)) : It X A env md mu e ds.length (fun i => ds.getD i .none) := by
  refine ⟨fun keep g₀ g s Q E S kk => ?_⟩
  refine he.run keep g₀ g s _ E S fun v g₁ h₁ tk₁ S₁ x₁ r₁ => ?_
  cases r₁ with
  | @tup a vs n _ e r =>
  have hl : h₁.IsTuple a vs.toArray := ⟨_, S₁.kn _ _ e, rfl, n, rfl⟩
  refine wpAny_pyIter_tuple hl ?_
  have ap := S₁.fresh_apart (fresh_size h₁)
  have hne : a ≠ h₁.objs.size := Nat.ne_of_lt (Heap.lt_size (S₁.kn _ _ e))
  have hlen := r.length
  have W := Walks.tuple (prog := X.prog) (w := X.w) hh h₁.objs.size a hne vs.toArray
  rw [show vs.toArray.size = ds.length by rw [List.size_toArray, hlen]] at W
  refine kk _ _ _ _ g₁ _ tk₁ (S₁.push _) x₁ W (fun i h hs => ?_) (fun i v hp => ?_) (fun b hb => ?_) ap ⟨⟨_, Heap.get?_push_size _ rfl, rfl, rfl⟩, ⟨_, Heap.get?_push_of_some _ (S₁.kn _ _ e), rfl, n, rfl⟩⟩
  · obtain ⟨⟨o, ho, hc, hd⟩, _⟩ := hs
    exact ⟨o, ho, by rw [hc]; decide, fun v => by rw [hd]; intro q; cases q⟩
  · have hp' : vs[i]? = some v := by simpa using hp
    have hi : i < ds.length := by
      rcases Nat.lt_or_ge i vs.length with q | q
      · omega
      · rw [List.getElem?_eq_none q] at hp'; cases hp'
    obtain ⟨u, hu, ru⟩ := r.get (List.getElem?_eq_getElem hi)
    rw [hp'] at hu; cases hu
    show Rep g₁ v (ds.getD i .none)
    rw [List.getD_eq_getElem?_getD, List.getElem?_eq_getElem hi]
    exact ru
  · simp only [List.mem_cons, List.not_mem_nil, or_false] at hb
    rcases hb with rfl | rfl
    · exact .inl rfl
    · exact .inr ⟨_, e⟩

variable {N B C : Post} {R : D → Prop} {rest : List Stmt}
/-- a for loop by what holds between its turns -/
theorem Ex.for {x : Str} {px pos : Pos} {iter : Expr} {body : List Stmt} {n : Nat} {di : Nat → D} (J : Nat → Post) (Bk : Post) (hit : It X A env md mu iter n di) (hx : Kd env x) (h0 : J 0 md mu)
    (turn : ∀ i md' mu', i < n → J i md' mu' → Ex X A env (upd md' x (di i)) mu' body (J (i + 1)) Bk (J (i + 1)) R)
    (done : ∀ md' mu', J n md' mu' ∨ Bk md' mu' → Ex X A env md' mu' rest N B C R) (hs : ∀ x, foldedSetIterable iter env x = pure x := by intro _; rfl) :
    Ex X A env md mu (.For (.Name x px) iter body [] pos :: rest) N B C R := by
  refine ⟨fun keep g₀ g s Q E S n' b c r => ?_⟩
  refine wpAny_execs_cons (wpAny_For (hit.run keep g₀ g s _ E S fun I fp P Sw g₁ h₁ tk₁ S₁ x₁ W hcls hitem hsrc ap hst => ?_) hs)
  refine loop_core W hcls hx di hitem hsrc S₁ ap hst J Bk R h0 turn (fun md' mu' g' h' tk hj S' => ?_) fun d v g' h' tk hR fin rv => ?_
  · exact (done md' mu' hj).run keep g₀ g' _ Q E S' (fun md' mu' g' h' tk => n' md' mu' g' h' tk) (fun md' mu' g' h' tk => b md' mu' g' h' tk) (fun md' mu' g' h' tk => c md' mu' g' h' tk) fun d v g' h' tk => r d v g' h' tk
  · exact r d v g' h' tk hR fin rv
/-- a name for a new list that is to be written on -/
theorem Ex.assignF {x : Str} {p pos : Pos} {e : Expr} {ds : List D} (he : EvF X A env md mu e ds) (hx : Kd env x) (h : ∀ a, mu a = none → Ex X A env (upd md x (.ptr a)) (mput mu a (true, ds)) rest N B C R) (hs : swapsWith e (some (.Name x p)) pos.line env = pure false := by rfl) :
    Ex X A env md mu (.Assign [.Name x p] e pos :: rest) N B C R := by
  refine ⟨fun keep g₀ g s Q E S n b c r => ?_⟩
  refine wpAny_execs_cons (wpAny_Assign_Name (he.run keep g₀ g s _ E S fun a g₁ h₁ tk₁ ha S₁ x₁ => store_upd S₁ (.ptr a) hx fun h₂ tk₂ S₂ => ?_) hs)
  exact (h a ha).run keep g₀ g₁ _ Q E S₂ (fun md' mu' g' h' tk => n md' mu' g' h' tk) (fun md' mu' g' h' tk => b md' mu' g' h' tk) (fun md' mu' g' h' tk => c md' mu' g' h' tk) fun d v g' h' tk => r d v g' h' tk
theorem Ex.freeze {x : Str} {a : Addr} {ds : List D} {ss : List Stmt} (hx : md.lookup x = some (.ptr a)) (ha : mu a = some (true, ds)) (h : Ex X A env (upd md x (.lst ds)) (mdel mu a) ss N B C R) : Ex X A env md mu ss N B C R := by
  refine ⟨fun keep g₀ g s Q E S n b c r => ?_⟩
  obtain ⟨g', S', x', rr⟩ := S.freeze ha
  exact h.run keep g₀ g' s Q E (S'.tell hx rr) n b c r
theorem append_plain {M : Program} {w : World} {A : Around} {E : Value → Shared → Prop} {s : Shared} {l : Addr} {vs : List Value} {n : Nat} {v : Value} {Q : Value → Shared → Prop} (hl : s.heap.get? l = some (lstO vs n)) (hsz : vs.length ≤ sizeLine)
    (h : ∀ h' k, Heap.SameBut l s.heap h' → h'.get? l = some (lstO (vs ++ [v]) k) → Q .none { s with heap := h' }) : wpAny (model M w) A (call (.builtin "list.append") [.ref l, v]) Q E s := by
  refine call_meets F.slot_list_append ⟨_, hl, rfl⟩ F.entry_list_append (F.args_list_append_2 _ _) (list_append l vs.toArray n v (by rw [List.size_toArray]; exact hsz)) ⟨hl, ?_⟩
  refine h _ (n + 1) (Heap.SameBut.update ..) ?_
  have := IsL.update (f := fun x => x.push v) (show IsL s.heap l vs.toArray n from hl)
  have e1 : (vs.toArray.push v) = (vs ++ [v]).toArray := by simp
  rw [e1] at this
  have e2 : ((vs ++ [v]).toArray.size == vs.toArray.size) = false := by simp
  rw [e2] at this
  exact this
/-- an item is put behind a list that may be written on -/
theorem Ex.append {o e : Expr} {apos pos spos : Pos} {a : Addr} {ds : List D} {d : D} (ho : Ev X A env md mu o (.ptr a)) (ha : mu a = some (true, ds)) (he : Ev X A env md mu e d) (hsz : ds.length ≤ sizeLine) (h : Ex X A env md (mput mu a (true, ds ++ [d])) rest N B C R)
    (hbase : attributeBase o "append" env (eval o env) = eval o env := by rfl) (hline : (apos.endLine == pos.line) = true := by rfl)
    (htrees : backTo pos (starEach [e] env) = [(false, eval e env)] := by rfl) (hi : interactive env = false := by rfl) (hs : swapsWith (.Call (.Attribute o "append" apos) [e] [] pos) none spos.line env = pure false := by rfl) :
    Ex X A env md mu (.Expr (.Call (.Attribute o "append" apos) [e] [] pos) spos :: rest) N B C R := by
  refine ⟨fun keep g₀ g s Q E S n b c r => ?_⟩
  refine wpAny_execs_cons (wpAny_Expr_any (wpAny_Call_append hbase (by rw [htrees]; rfl) hline htrees (ho.run keep g₀ g s _ E S fun v g₁ h₁ tk₁ S₁ x₁ r₁ => ?_)) hi hs)
  cases r₁
  obtain ⟨_, _, vs, k, hv, hr⟩ := S₁.muok a true ds ha
  refine ⟨a, vs.toArray, rfl, ⟨_, k, hv, rfl, rfl, rfl⟩, he.run keep g₀ g₁ _ _ E S₁ fun w g₂ h₂ tk₂ S₂ x₂ r₂ => ?_⟩
  obtain ⟨_, _, vs', k', hv', hr'⟩ := S₂.muok a true ds ha
  refine append_plain hv' (by rw [hr'.length]; exact hsz) fun h₃ k₃ hs₃ ho₃ => ?_
  have S₃ := S₂.write ha hs₃ ho₃ (hr'.append (.one r₂))
  exact h.run keep g₀ g₂ _ Q E S₃ (fun md' mu' g' h' tk => n md' mu' g' h' tk) (fun md' mu' g' h' tk => b md' mu' g' h' tk) (fun md' mu' g' h' tk => c md' mu' g' h' tk) fun d v g' h' tk => r d v g' h' tk
end
end Mine

namespace Mine
open PySem PyProof.Rows

/-- the cells that a comprehension's frame takes along -/
def closOf (cells : List (Str × Addr)) : List (Str × NameKind) → List (Str × Addr) → List (Str × Addr)
  | [], acc => acc
  | (n, k) :: r, acc => closOf cells r (if k == .free then (match cells.lookup n with | some c => (n, c) :: acc | none => acc) else acc)
theorem closureFor_eq {env : Env} {scope : Scope} (h : ∀ p ∈ scope.names, p.2 = .free → (env.cells.lookup p.1).isSome = true) : closureFor scope env = pure (closOf env.cells scope.names []) := by
  have gen : ∀ (names : List (Str × NameKind)) (acc : List (Str × Addr)), (∀ p ∈ names, p.2 = .free → (env.cells.lookup p.1).isSome = true) →
      (forIn names acc fun x r => (match x with | (name, kind) => if (kind == NameKind.free) = true then (do let a ← cellOf env name; pure (ForInStep.yield ((name, a) :: r))) else pure (ForInStep.yield r) : Sem (ForInStep (List (Str × Addr))))) = (pure (closOf env.cells names acc) : Sem (List (Str × Addr))) := by
    intro names
    induction names with
    | nil => intro acc _; rfl
    | cons p r ih =>
      intro acc hp
      obtain ⟨n, k⟩ := p
      rw [List.forIn_cons]
      by_cases hk : (k == NameKind.free) = true
      · have hs := hp (n, k) (.head _) (by simpa using hk)
        obtain ⟨c, hc⟩ := Option.isSome_iff_exists.mp hs
        simp only [hk, if_true, cellOf, hc, pure_bind, closOf]
        exact ih _ fun q hq => hp q (.tail _ hq)
      · simp only [hk, if_false, pure_bind, closOf]
        exact ih _ fun q hq => hp q (.tail _ hq)
  unfold closureFor
  have := gen scope.names [] h
  simp only [bind_pure]
  exact this
theorem closOf_sound {cells : List (Str × Addr)} {x : Str} {c : Addr} : ∀ (names : List (Str × NameKind)) (acc : List (Str × Addr)), (∀ c, acc.lookup x = some c → cells.lookup x = some c) → (closOf cells names acc).lookup x = some c → cells.lookup x = some c
  | [], acc, ha, h => ha c h
  | (n, k) :: r, acc, ha, h => by
    rw [closOf] at h
    refine closOf_sound r _ (fun c' h' => ?_) h
    split at h'
    · split at h'
      · rename_i e he
        rw [List.lookup_cons] at h'
        cases hx : x == n with
        | true => rw [hx] at h'; cases h'; rw [beq_iff_eq.mp hx]; exact he
        | false => rw [hx] at h'; exact ha c' h'
      · exact ha c' h'
    · exact ha c' h'
theorem closOf_some {cells : List (Str × Addr)} {x : Str} {c : Addr} (hc : cells.lookup x = some c) : ∀ (names : List (Str × NameKind)) (acc : List (Str × Addr)), (x, NameKind.free) ∈ names ∨ (acc.lookup x).isSome = true → ((closOf cells names acc).lookup x).isSome = true
  | [], acc, h => h.elim (fun q => nomatch q) id
  | (n, k) :: r, acc, h => by
    rw [closOf]
    refine closOf_some hc r _ ?_
    rcases h with h | h
    · rcases List.mem_cons.mp h with e | h
      · cases e
        right
        simp [hc]
      · exact .inl h
    · right
      split
      · split
        · rw [List.lookup_cons]
          split
          · rfl
          · exact h
        · exact h
      · exact h

theorem relabel_cell {scope : Scope} {env : Env} (hcell : ∀ p ∈ scope.names, p.2 ≠ .cell) {x : Str} (h : (relabel scope env).names.lookup x = some .cell) : (x, NameKind.free) ∈ scope.names ∧ env.kindOf x = some .cell := by
  have gen : ∀ names : List (Str × NameKind), (∀ p ∈ names, p.2 ≠ .cell) → (names.map fun (n, k) => if (k == NameKind.free && env.scope.kind == .function && env.kindOf n == some .cell) then (n, NameKind.cell) else (n, k)).lookup x = some .cell → (x, NameKind.free) ∈ names ∧ env.kindOf x = some .cell := by
    intro names
    induction names with
    | nil => intro _ h; cases h
    | cons p r ih =>
      intro hp h
      obtain ⟨n, k⟩ := p
      rw [List.map_cons] at h
      by_cases hc : (k == NameKind.free && env.scope.kind == .function && env.kindOf n == some .cell) = true
      · simp only [hc, if_true] at h
        rw [List.lookup_cons] at h
        cases hx : x == n with
        | true =>
          have e := beq_iff_eq.mp hx
          subst e
          simp only [Bool.and_eq_true, beq_iff_eq] at hc
          obtain ⟨⟨rfl, _⟩, h3⟩ := hc
          exact ⟨.head _, h3⟩
        | false =>
          rw [hx] at h
          obtain ⟨h1, h2⟩ := ih (fun q hq => hp q (.tail _ hq)) h
          exact ⟨.tail _ h1, h2⟩
      · simp only [hc, Bool.false_eq_true, if_false] at h
        rw [List.lookup_cons] at h
        cases hx : x == n with
        | true => rw [hx] at h; cases h; exact absurd rfl (hp _ (.head _))
        | false =>
          rw [hx] at h
          obtain ⟨h1, h2⟩ := ih (fun q hq => hp q (.tail _ hq)) h
          exact ⟨.tail _ h1, h2⟩
  exact gen scope.names hcell h

section
variable {X : Cx} {env : Env} {keep g₀ g g' : Kn} {h h' : Heap} {md : Md} {mu : Mu} {I : Addr} {o : Obj}
theorem Apart.next (a : Apart env keep g₀ g mu I) (hI : (h.get? I).isSome = true) (fr : ∀ a o, g' a = some o → g a = some o ∨ h.get? a = none) : Apart env keep g₀ g' mu I := by
  refine ⟨a.k, a.g₀, ?_, a.m, a.l, a.c⟩
  obtain ⟨oI, hoI⟩ := Option.isSome_iff_exists.mp hI
  cases q : g' I with
  | none => rfl
  | some o' =>
    rcases fr I o' q with e | e
    · rw [a.g] at e; cases e
    · rw [hoI] at e; cases e
end

section
variable {X : Cx} {A : Around} {env : Env} {keep g₀ g : Kn} {md : Md} {mu : Mu} {s : Shared}
/-- what the comprehension's own frame can see -/
structure CompOk (env : Env) (md : Md) (scope : Scope) (x : Str) (cmd : Md) : Prop where
  cell : ∀ p ∈ scope.names, p.2 ≠ .cell
  kind : scope.kind = .function
  tgt : scope.names.lookup x = some .local
  free : ∀ p ∈ scope.names, p.2 = .free → env.kindOf p.1 = some .cell
  names : ∀ p ∈ scope.names, p.2 = .local → scope.names.lookup p.1 = some .local
  vars : ∀ p ∈ cmd, md.lookup p.1 = some p.2 ∧ env.kindOf p.1 = some .cell ∧ (relabel scope env).names.lookup p.1 = some .cell

theorem mem_of_lookupD : ∀ {l : Md} {n : Str} {d : D}, l.lookup n = some d → (n, d) ∈ l
  | (k, v) :: r, n, c, h => by
    rw [lookup_cons_str] at h
    by_cases q : n = k
    · subst q; rw [if_pos rfl] at h; cases h; exact .head _
    · rw [if_neg q] at h; exact .tail _ (mem_of_lookupD h)

theorem comp_st {scope : Scope} {x : Str} {cmd : Md} {C : Addr} {v : Value} {d : D} {h : Heap} {m : Str → Option Value} (ok : CompOk env md scope x cmd) (S : St X env keep g₀ g h md mu) (aC : Apart env keep g₀ g mu C) (hn : h.Ns C m) (hv : m x = some v) (r : Rep g v d) :
    St X (compEnvC scope (closOf env.cells scope.names []) C env) (fun b => if b = C then none else h.get? b) g g h ((x, d) :: cmd) (ro mu) := by
  have roN : ∀ b, mu b = none → ro mu b = none := fun b e => by unfold ro; rw [e]; rfl
  have cl : ∀ y c, env.kindOf y = some .cell → env.cells.lookup y = some c → (relabel scope env).names.lookup y = some .cell → (closOf env.cells scope.names []).lookup y = some c := by
    intro y c hk hc hy
    obtain ⟨hf, _⟩ := relabel_cell ok.cell hy
    obtain ⟨c', hc'⟩ := Option.isSome_iff_exists.mp (closOf_some hc scope.names [] (.inl hf))
    have := closOf_sound scope.names [] (fun _ e => by cases e) hc'
    rw [hc] at this; cases this
    exact hc'
  refine ⟨ok.kind, S.glob, S.blt, S.base, Ext.refl g, S.kn, fun b o e => ?_, fun b o e => .inl e, ⟨m, hn⟩, if_pos rfl, aC.g, roN _ aC.m, fun y hy => ?_, fun hf => (nomatch hf), fun y e hy => ?_, fun b wr ds e => ?_⟩
  · by_cases q : b = C
    · rw [if_pos q] at e; cases e
    · rw [if_neg q] at e; exact e
  · obtain ⟨hf, hk⟩ := relabel_cell ok.cell hy
    obtain ⟨c, vo, c1, c2, c3, c4, c5, c6⟩ := S.cells y hk
    exact ⟨c, vo, cl y c hk c1 hy, c2, fun hf => (nomatch hf), c4, roN _ c5, aC.c y c hk c1⟩
  · rw [lookup_cons_str] at hy
    by_cases q : y = x
    · subst q; rw [if_pos rfl] at hy; cases hy
      exact ⟨v, .inl ⟨lookup_relabel_local ok.tgt, m, hn, hv⟩, r⟩
    · rw [if_neg q] at hy
      obtain ⟨h1, h2, h3⟩ := ok.vars _ (mem_of_lookupD hy)
      obtain ⟨u, hu, ru⟩ := S.vars y e h1
      refine ⟨u, ?_, ru⟩
      rcases hu with ⟨k, _⟩ | ⟨k, c, hc, hv'⟩
      · rw [h2] at k; cases k
      · exact .inr ⟨h3, c, cl y c k hc h3, hv'⟩
  · obtain ⟨rfl, w', e'⟩ := ro_some e
    obtain ⟨m1, m2, vs, n, m3, m4⟩ := S.muok b w' ds e'
    refine ⟨m1, ⟨fun q => (nomatch q), fun q => ?_⟩, vs, n, m3, m4⟩
    have hb : b ≠ C := by rintro rfl; rw [aC.m] at e'; cases e'
    rw [if_neg hb, m3] at q; cases q

/-- the loop of a comprehension -/
theorem comp_loop {elt iter : Expr} {x : Str} {px : Pos} {scope : Scope} {pos : Pos} {cmd : Md} {I Dl C : Addr} {fp : List Addr} {n : Nat} {P : Nat → Value → Prop} {Sw : Nat → Heap → Prop} {RR : Result → Shared → Prop} {di de : Nat → D} {m : Str → Option Value}
    (W : Walks X.prog X.w A I fp [I] n P Sw) (hcls : ∀ i h, Sw i h → ∃ o, h.get? I = some o ∧ o.cls ≠ .type "list" ∧ ∀ v, o.data ≠ .cell v) (hitem : ∀ i v, P i v → Rep g v (di i)) (hsrc : ∀ b ∈ fp, b = I ∨ ∃ o, g b = some o) (ok : CompOk env md scope x cmd)
    (S : St X env keep g₀ g s.heap md mu) (aI : Apart env keep g₀ g mu I) (aD : Apart env keep g₀ g mu Dl) (aC : Apart env keep g₀ g mu C) (hID : I ≠ Dl) (hIC : I ≠ C) (hDC : Dl ≠ C) (hst : Sw 0 s.heap)
    (hD : s.heap.get? Dl = some (lstO [] 0)) (hC : s.heap.Ns C m) (hsz : n ≤ sizeLine)
    (hel : ∀ i, i < n → Ev X A (compEnvC scope (closOf env.cells scope.names []) C env) ((x, di i) :: cmd) (ro mu) elt (de i))
    (done : ∀ g' h' tk m' ys k, St X env keep g₀ g' h' md mu → Ext g g' → Apart env keep g₀ g' mu Dl → Apart env keep g₀ g' mu C → h'.Ns C m' → h'.get? Dl = some (lstO ys k) → RepAll g' ys ((List.range n).map de) → RR (.ok .next) { s with heap := h', toks := tk }) :
    codeAny (model X.prog X.w) A (.compLoop (.ListComp elt [⟨.Name x px, iter, [], 0⟩] scope pos) 0 (.ref I) (.ref Dl) (compEnvC scope (closOf env.cells scope.names []) C env)) RR s := by
  refine codeAny_compLoop_list
    (fun k s' => ∃ i h' tk g' m' ys j, s' = { s with heap := h', toks := tk } ∧ i ≤ n ∧ k = n + 1 - i ∧ Sw i h' ∧ St X env keep g₀ g' h' md mu ∧ Ext g g' ∧ Apart env keep g₀ g' mu I ∧ Apart env keep g₀ g' mu Dl ∧ Apart env keep g₀ g' mu C ∧
      h'.get? Dl = some (lstO ys j) ∧ h'.Ns C m' ∧ RepAll g' ys ((List.range i).map de)) ?_ (n + 1)
    ⟨0, s.heap, s.toks, g, m, [], 0, rfl, Nat.zero_le _, rfl, hst, S, Ext.refl g, aI, aD, aC, hD, hC, .nil⟩
  rintro k s' ⟨i, h', tk, g', m', ys, j, rfl, hi, rfl, hst', S', x', aI', aD', aC', hD', hC', hr'⟩
  by_cases hlt : i < n
  · refine W.item i _ _ _ hlt hst' fun v h₁ tk₁ hP hst₁ hk₁ => ?_
    have S₁ := S'.besides aI' hk₁
    have up₁ : ∀ b o, b ≠ I → h'.get? b = some o → h₁.get? b = some o := fun b o hb e => hk₁ b o (by simpa using hb) e
    have hC₁ : h₁.Ns C m' := hC'.at' fun o e => up₁ _ o (Ne.symm hIC) e
    have hD₁ := up₁ _ _ (Ne.symm hID) hD'
    refine wpAny_assign_Name (wpAny_storeName_local (lookup_relabel_local ok.tgt) hC₁ (fun h₂ hn₂ hs₂ => ?_) (by show ((relabel scope env).kind == .class || _) = false; show (scope.kind == .class || (scope.kind == .module && _)) = false; rw [ok.kind]; rfl))
    have hn₂ : h₂.Ns C (fun y => if y = x then some v else m' y) := hn₂
    have hs₂ : Heap.SameBut C h₁ h₂ := hs₂
    have S₂ := S₁.besides aC' (h' := h₂) fun b o hb e => hs₂.extBut b o (by simpa using hb) e
    have hD₂ := hs₂.extBut _ _ hDC hD₁
    have hst₂ : Sw (i + 1) h₂ := W.frame _ _ _ hst₁ fun b hb o e => by
      refine hs₂.extBut b o ?_ e
      rcases hsrc b hb with rfl | ⟨q, hq⟩
      · exact hIC
      · rintro rfl; have := x' _ _ hq; rw [aC'.g] at this; cases this
    have Sc := comp_st (v := v) ok S₂ aC' hn₂ (if_pos rfl) ((hitem i v hP).mono x')
    refine (hel i hlt).run _ _ _ _ _ _ Sc fun y g₃ h₃ tk₃ Sc₃ x₃ r₃ => ?_
    have up₃ : ∀ b o, b ≠ C → h₂.get? b = some o → h₃.get? b = some o := fun b o hb e => Sc₃.kp b o (by rw [if_neg hb]; exact e)
    have fr : ∀ a o, g₃ a = some o → g' a = some o ∨ h₂.get? a = none := fun a o e => by
      rcases Sc₃.fresh a o e with q | q
      · exact .inl q
      · by_cases ha : a = C
        · subst ha; have q0 : g₃ a = none := Sc₃.offg; rw [q0] at e; cases e
        · rw [if_neg ha] at q; exact .inr q
    obtain ⟨S₃, aC₃⟩ := S₂.nextBut aC' (by obtain ⟨o, _, _, ho, _⟩ := hn₂; rw [ho]; rfl) up₃ x₃ Sc₃.kn fr
    have hI₂ : (h₂.get? I).isSome = true := by
      obtain ⟨oI, hoI, _⟩ := hcls _ _ hst₂
      rw [hoI]; rfl
    have aI₃ := aI'.next hI₂ fr
    have aD₃ := aD'.next (by rw [hD₂]; rfl) fr
    have hD₃ := up₃ _ _ hDC hD₂
    obtain ⟨m₃, hC₃⟩ := Sc₃.loc
    have hlen := hr'.length
    refine append_plain hD₃ (by rw [hlen, List.length_map, List.length_range]; omega) fun h₄ k₄ hs₄ ho₄ => ?_
    have S₄ := S₃.besides aD₃ (h' := h₄) fun b o hb e => hs₄.extBut b o (by simpa using hb) e
    refine ⟨n + 1 - (i + 1), by omega, i + 1, h₄, tk₃, g₃, m₃, _, k₄, rfl, hlt, rfl, ?_, S₄, x'.trans x₃, aI₃, aD₃, aC₃, ho₄, hC₃.sameBut hs₄ (Ne.symm hDC), ?_⟩
    · refine W.frame _ _ _ hst₂ fun b hb o e => hs₄.extBut b o ?_ (up₃ b o ?_ e)
      · rcases hsrc b hb with rfl | ⟨q, hq⟩
        · exact hID
        · rintro rfl; have := x' _ _ hq; rw [aD'.g] at this; cases this
      · rcases hsrc b hb with rfl | ⟨q, hq⟩
        · exact hIC
        · rintro rfl; have := x' _ _ hq; rw [aC'.g] at this; cases this
    · rw [List.range_succ, List.map_append]
      exact (hr'.mono x₃).append (.one r₃)
  · have hin : i = n := by omega
    subst hin
    refine W.done _ _ _ hst' fun h₁ tk₁ hk₁ => ?_
    have up₁ : ∀ b o, b ≠ I → h'.get? b = some o → h₁.get? b = some o := fun b o hb e => hk₁ b o (by simpa using hb) e
    exact done g' h₁ tk₁ m' ys j (S'.besides aI' hk₁) x' aD' aC' (hC'.at' fun o e => up₁ _ o (Ne.symm hIC) e) (up₁ _ _ (Ne.symm hID) hD') hr'
end
end Mine

namespace Mine
open PySem PyProof.Rows

section
variable {X : Cx} {A : Around} {env : Env} {md : Md} {mu : Mu}
/-- a comprehension up to its list; use: what is done with it -/
theorem comp_wp {elt iter : Expr} {x : Str} {px : Pos} {scope : Scope} {pos pos' : Pos} {cmd : Md} {n : Nat} {di de : Nat → D} {use : Option (Value → Sem Unit)} {keep g₀ g : Kn} {s : Shared} {Q : Value → Shared → Prop} {E : Value → Shared → Prop}
    (ok : CompOk env md scope x cmd) (hit : It X A env md mu iter n di) (hsz : n ≤ sizeLine)
    (hel : ∀ C i, i < n → Ev X A (compEnvC scope (closOf env.cells scope.names []) C env) ((x, di i) :: cmd) (ro mu) elt (de i))
    (S : St X env keep g₀ g s.heap md mu)
    (done : ∀ Dl C g' h' tk m' ys k, St X env keep g₀ g' h' md mu → Ext g g' → Apart env keep g₀ g' mu Dl → Apart env keep g₀ g' mu C → Dl ≠ C → h'.Ns C m' → h'.get? Dl = some (lstO ys k) → RepAll g' ys ((List.range n).map de) →
      compPost (model X.prog X.w) A E use Q (.ref Dl) C (.ok .next) { s with heap := h', toks := tk })
    (hs : ∀ x, foldedSetIterable iter env x = pure x) :
    wpAny (model X.prog X.w) A (comprehension (.ListComp elt [⟨.Name x px, iter, [], 0⟩] scope pos) scope env pos' (newList []) false (eval iter env) use) Q E s := by
  have hclos : closureFor scope env = pure (closOf env.cells scope.names []) := closureFor_eq fun p hp hf => by
    obtain ⟨c, vo, c1, _⟩ := S.cells p.1 (ok.free p hp hf)
    rw [c1]; rfl
  refine wpAny_comprehension_free rfl hs hclos ok.kind ok.names ?_
  refine hit.run keep g₀ g s _ E S fun I fp P Sw g₁ h₁ tk₁ S₁ x₁ W hcls hitem hsrc ap hst => ?_
  have hI : (h₁.get? I).isSome = true := by obtain ⟨o, ho, _⟩ := hcls _ _ hst; rw [ho]; rfl
  refine wpAny_newObj_type (wpAny_newFunctionEnv ok.cell (by intro y hy; simp at hy) (fun h₂ hns₂ hsb₂ => ?_) ok.kind)
  dsimp only at hns₂ hsb₂ ⊢
  generalize hH : h₁.push { cls := .type "list", dict := none, data := .seq ([] : List Value).toArray } = H at hns₂ hsb₂ ⊢
  have hCs : H.objs.size = h₁.objs.size + 1 := by rw [← hH, Heap.size_push]
  have hDC : h₁.objs.size ≠ H.objs.size := by rw [hCs]; exact Nat.ne_of_lt (Nat.lt_succ_self _)
  have upH : ∀ b o, h₁.get? b = some o → H.get? b = some o := fun b o e => hH ▸ Heap.get?_push_of_some _ e
  have up₂ : ∀ b o, H.get? b = some o → h₂.get? b = some o := fun b o e => hsb₂.extBut b o (Nat.ne_of_lt (Heap.lt_size e)) (Heap.get?_push_of_some _ e)
  have aD : Apart env keep g₀ g₁ mu h₁.objs.size := S₁.fresh_apart (fresh_size h₁)
  have S₂ : St X env keep g₀ g₁ H md mu := S₁.grows upH
  have aC : Apart env keep g₀ g₁ mu H.objs.size := S₂.fresh_apart (fresh_size H)
  have S₃ : St X env keep g₀ g₁ h₂ md mu := S₂.grows up₂
  have hD₂ : h₂.get? h₁.objs.size = some (lstO [] 0) := up₂ _ _ (hH ▸ Heap.get?_push_size _ rfl)
  obtain ⟨oI, hoI⟩ := Option.isSome_iff_exists.mp hI
  have hID : I ≠ h₁.objs.size := Nat.ne_of_lt (Heap.lt_size hoI)
  have hIC : I ≠ H.objs.size := Nat.ne_of_lt (Heap.lt_size (upH _ _ hoI))
  have hst₂ : Sw 0 h₂ := W.frame _ _ _ hst fun b hb o e => up₂ _ _ (upH _ _ e)
  have loop : ∀ s₃ : Shared, s₃ = { s with heap := h₂, toks := tk₁ + ([] : List (Str × Value)).length } →
      codeAny (model X.prog X.w) A (.compLoop (.ListComp elt [⟨.Name x px, iter, [], 0⟩] scope pos) 0 (.ref I) (.ref h₁.objs.size) (compEnvC scope (closOf env.cells scope.names []) H.objs.size env))
        (compPost (model X.prog X.w) A E use Q (.ref h₁.objs.size) H.objs.size) s₃ := by
    rintro s₃ rfl
    refine comp_loop W hcls hitem hsrc ok S₃ ap aD aC hID hIC hDC hst₂ hD₂ hns₂ hsz (hel _) fun g' h' tk m' ys k S' x' aD' aC' hC' hD' hr' => ?_
    exact done _ _ g' h' tk m' ys k S' (x₁.trans x') aD' aC' hDC hC' hD' hr'
  exact codeAny_compStart_list (loop _ rfl) (W.self 0 _ _ _ hst₂ (loop _ rfl))

theorem EvF.comp {elt iter : Expr} {x : Str} {px : Pos} {scope : Scope} {pos : Pos} {cmd : Md} {n : Nat} {di de : Nat → D} (ok : CompOk env md scope x cmd) (hit : It X A env md mu iter n di) (hsz : n ≤ sizeLine)
    (hel : ∀ C i, i < n → Ev X A (compEnvC scope (closOf env.cells scope.names []) C env) ((x, di i) :: cmd) (ro mu) elt (de i)) (hs : ∀ x, foldedSetIterable iter env x = pure x := by intro _; rfl) :
    EvF X A env md mu (.ListComp elt [⟨.Name x px, iter, [], 0⟩] scope pos) ((List.range n).map de) := by
  refine ⟨fun keep g₀ g s Q E S k => ?_⟩
  rw [eval_ListComp]
  refine comp_wp (use := none) ok hit hsz hel S (fun Dl C g' h' tk m' ys j S' x' aD' aC' hDC hC' hD' hr' => ?_) hs
  refine ⟨m', hC', fun h'' hs'' => ?_⟩
  have S'' := S'.besides aC' (h' := h'') fun b o hb e => hs''.extBut b o (by simpa using hb) e
  exact k Dl g' h'' tk aD'.m (S''.adopt aD' (hs''.extBut _ _ hDC hD') hr') x'

variable {N B C : Post} {R : D → Prop} {rest : List Stmt}
/-- a name for a comprehension's list: the store is done within -/
theorem Ex.assignComp {y : Str} {py spos : Pos} {elt iter : Expr} {x : Str} {px : Pos} {scope : Scope} {pos : Pos} {cmd : Md} {n : Nat} {di de : Nat → D} (ok : CompOk env md scope x cmd) (hit : It X A env md mu iter n di) (hsz : n ≤ sizeLine)
    (hel : ∀ C i, i < n → Ev X A (compEnvC scope (closOf env.cells scope.names []) C env) ((x, di i) :: cmd) (ro mu) elt (de i)) (hy : Kd env y)
    (h : ∀ a, mu a = none → Ex X A env (upd md y (.ptr a)) (mput mu a (true, (List.range n).map de)) rest N B C R)
    (hsw : swapsWith (.ListComp elt [⟨.Name x px, iter, [], 0⟩] scope pos) (some (.Name y py)) spos.line env = pure true := by rfl) (hs : ∀ x, foldedSetIterable iter env x = pure x := by intro _; rfl) :
    Ex X A env md mu (.Assign [.Name y py] (.ListComp elt [⟨.Name x px, iter, [], 0⟩] scope pos) spos :: rest) N B C R := by
  refine ⟨fun keep g₀ g s Q E S n' b c r => ?_⟩
  refine wpAny_execs_cons ?_
  rw [exec_Assign_Name_used _ _ _ _ hsw]
  refine wpAny_bind (wpAny_standAt (wpAny_bind ?_))
  show wpAny _ A (do let _ ← comprehension (.ListComp elt [⟨.Name x px, iter, [], 0⟩] scope pos) scope env _ (newList []) false (eval iter env) (some (PySem.assign (.Name y py) env))) _ _ s
  refine wpAny_bind (wpAny_mono (comp_wp (use := some (PySem.assign (.Name y py) env)) (Q := fun _ s' => wpAny (model X.prog X.w) A (execs rest env) Q E s') ok hit hsz hel S (fun Dl C g' h' tk m' ys j S' x' aD' aC' hDC hC' hD' hr' => ?_) hs) (fun _ s' hq => wpAny_pure (wpAny_pure hq)) fun _ _ e => e)
  show wpAny _ A (PySem.assign (.Name y py) env (.ref Dl)) _ _ _
  have Sa := S'.adopt aD' hD' hr'
  have aCa : Apart env keep g₀ g' (mput mu Dl (true, (List.range n).map de)) C := ⟨aC'.k, aC'.g₀, aC'.g, by rw [mput_ne (Ne.symm hDC)]; exact aC'.m, aC'.l, aC'.c⟩
  obtain ⟨oC, esC, epC, hoC, hdC, hkC, hfC⟩ := hC'
  have Sh := (Sa.here).hold ⟨aCa.k, aCa.g, aCa.g, aCa.m, aCa.l, aCa.c⟩ hoC
  refine wpAny_assign_Name (store_upd Sh (.ptr Dl) hy fun h₂ tk₂ S₂ => ?_)
  obtain ⟨S₃, a₃, h₃⟩ := S₂.unhold aCa.k aCa.g (fun vs n e => by rw [e] at hdC; cases hdC) (fun v e => by rw [e] at hdC; cases hdC)
  refine ⟨_, ⟨oC, esC, epC, h₃, hdC, hkC, fun _ => rfl⟩, fun h₄ hs₄ => ?_⟩
  have S₄ := (Sa.back S₃).besides ⟨a₃.k, aCa.g₀, a₃.g, a₃.m, a₃.l, a₃.c⟩ (h' := h₄) fun b o hb e => hs₄.extBut b o (by simpa using hb) e
  exact (h Dl aD'.m).run keep g₀ g' _ Q E S₄ (fun md' mu' g' h' tk => n' md' mu' g' h' tk) (fun md' mu' g' h' tk => b md' mu' g' h' tk) (fun md' mu' g' h' tk => c md' mu' g' h' tk) fun d v g' h' tk => r d v g' h' tk
end
end Mine

namespace Mine
open PySem PyProof.Rows

def fdOf (p : Program) (f : Str) : Option (Arguments × List Stmt × Scope) :=
  p.main.body.findSome? fun st => match st with
    | .FunctionDef name args body _ _ _ scope _ _ _ => if name == f then some (args, body, scope) else none
    | _ => none
def parOf (p : Program) (f : Str) : Arguments := match fdOf p f with | some x => x.1 | none => default
def bodOf (p : Program) (f : Str) : List Stmt := match fdOf p f with | some x => x.2.1 | none => []
def scoOf (p : Program) (f : Str) : Scope := match fdOf p f with | some x => x.2.2 | none => default
abbrev HasDef (X : Cx) (p : Program) (f : Str) : Prop := IsDef X f (parOf p f) (bodOf p f) (scoOf p f)
/-- room for n calls one within the other -/
structure Rm (A : Around) (n : Nat) : Prop where
  hand : A.handled = none
  depth : A.depth + n < recursionLimit
  units : A.units + 3 * n + 600 < cLine
theorem Rm.deep {A : Around} {n : Nat} (h : Rm A (n + 1)) (env : Env) : Rm (A.deeper env) n := by
  refine ⟨h.hand, ?_, ?_⟩
  · have := h.depth; show A.depth + 1 + n < _; omega
  · have := h.units; show A.units + 3 + 3 * n + 600 < _; omega
theorem Rm.room {A : Around} {n : Nat} (h : Rm A n) : A.depth < recursionLimit := Nat.lt_of_le_of_lt (Nat.le_add_right _ _) h.depth
/-- what is built in, as these texts use it -/
structure Blts (X : Cx) : Prop where
  len : Blt X "len" (.builtin "len")
  range : Blt X "range" (.type "range")
  list : Blt X "list" (.type "list")
end Mine

namespace Mine
open PySem PyProof.Rows PySem.W

/-- the script: a list of ints that the top holds -/
structure Scr (X : Cx) (l : Addr) (ns : List Int) : Prop where
  at_ : ∃ vs : List Value, X.h₀.IsList l vs.toArray ∧ IntsAre vs ns
  few : ns.length ≤ 63
theorem intsAre_get : ∀ {vs : List Value} {ns : List Int}, IntsAre vs ns → ∀ {i : Nat} {n : Int}, ns[i]? = some n → ∃ t, vs[i]? = some (.int n t)
  | _, _, .nil, i, n, h => by simp at h
  | _, _, .cons _ _ r, 0, n, h => by simp at h; subst h; exact ⟨_, rfl⟩
  | _, _, .cons _ _ r, i + 1, n, h => by simpa using intsAre_get r (by simpa using h)

section
variable {X : Cx} {A : Around} {env : Env} {md : Md} {mu : Mu} {l : Addr} {ns : List Int}
theorem Ev.lenScr {np pos : Pos} {e : Expr} (hs : Scr X l ns) (b : Blt X "len" (.builtin "len")) (he : Ev X A env md mu e (.ptr l)) (hx : env.kindOf "len" = some .globalImplicit)
    (hn : starEach [e] env = [(false, eval e env)] := by rfl) : Ev X A env md mu (.Call (.Name "len" np) [e] [] pos) (.int ns.length) := by
  refine ⟨fun keep g₀ g s Q E S k => ?_⟩
  refine wpAny_Call_ofName (name_blt b S hx ?_)
  rw [hn]
  refine Calls.callWith_builtin rfl (Calls.evalArgs_plain (Calls.spliced_cons (he.run keep g₀ g s _ E S fun v g₁ h₁ tk₁ S₁ x₁ r₁ => Calls.spliced_nil ?_)))
  cases r₁
  obtain ⟨⟨vs, ⟨o, ho, hc, n, hd⟩, hi⟩, few⟩ := hs
  have hl : h₁.IsList l vs.toArray := ⟨o, S₁.kn _ _ (S₁.base _ _ ho), hc, n, hd⟩
  have hlen := hi.length
  have e1 : vs.toArray.size = ns.length := by rw [List.size_toArray]; omega
  show wpAny _ _ (PySem.call (.builtin "len") [.ref l]) _ _ _
  refine len_list hl (by rw [e1]; omega) ?_
  rw [e1]
  exact k _ g₁ h₁ _ S₁ x₁ (.int _ _)
theorem Ev.itemScr {value ix : Expr} {i : Int} {pos : Pos} {n : Int} (hs : Scr X l ns) (h : Ev X A env md mu value (.ptr l)) (hix : Ev X A env md mu ix (.int i)) (h0 : 0 ≤ i) (hd : ns[i.toNat]? = some n)
    (hss : ∀ l u, subscripted ix false (.ref l) (.int i u) = operate [.ref l, .int i u] (getItem (.ref l) (.int i u)) := by intro _ _; with_unfolding_all rfl) :
    Ev X A env md mu (.Subscript value ix pos) (.int n) := by
  refine ⟨fun keep g₀ g s Q E S kk => ?_⟩
  refine Subscript_ (h.run keep g₀ g s _ E S fun v g₁ h₁ tk₁ S₁ x₁ r₁ => ?_)
  refine hix.run keep g₀ g₁ _ _ E S₁ fun w g₂ h₂ tk₂ S₂ x₂ r₂ => ?_
  cases r₁
  cases r₂
  obtain ⟨⟨vs, ⟨o, ho, hc, k, hdd⟩, hi⟩, few⟩ := hs
  have hl : h₂.IsList l vs.toArray := ⟨o, S₂.kn _ _ (S₂.base _ _ ho), hc, k, hdd⟩
  obtain ⟨t, hv⟩ := intsAre_get hi hd
  have hb : i < 2 ^ 63 := by
    have : i.toNat < ns.length := by
      rcases Nat.lt_or_ge i.toNat ns.length with q | q
      · exact q
      · rw [List.getElem?_eq_none q] at hd; cases hd
    omega
  exact tail_any hl.typeIs slot_list_getitem.lookup (wpAny_getItem_list hl h0 hb (by simpa using hv) (kk _ g₂ h₂ tk₂ S₂ (x₁.trans x₂) (.int _ _))) (hss _ _)
end

/-- a def of the text, as the top tells it -/
theorem isDef_of {X : Cx} {f : Str} (d : DefRec) (hm : d ∈ recsOf X.p) (hn : d.name = f) : IsDef X f d.params d.body d.scope := by
  obtain ⟨a, o, pm, code, doc, h1, h2, h3, h4⟩ := X.T.fn d hm
  subst hn
  exact ⟨a, o, pm, code, doc, h1, h2, h3, h4⟩
theorem hasDef_of {X : Cx} {pr : Program} {f : Str} (h : ((recsOf X.p).find? fun d => d.name == f).map (fun d => (d.params, d.body, d.scope)) = some (parOf pr f, bodOf pr f, scoOf pr f)) : HasDef X pr f := by
  cases q : (recsOf X.p).find? fun d => d.name == f with
  | none => rw [q] at h; cases h
  | some d =>
    rw [q] at h
    have hn : d.name = f := beq_iff_eq.mp (List.find?_some (p := fun e : DefRec => e.name == f) q)
    have := isDef_of (X := X) d (List.mem_of_find?_eq_some q) hn
    simp only [Option.map_some, Option.some.injEq, Prod.mk.injEq] at h
    rw [h.1, h.2.1, h.2.2] at this
    exact this
theorem blt_of {prog p : Program} {w : World} {loose : List Str} {mean : ExcName → Option Value} {mg mb : Str → Option Value} {h₀ : Heap} {T : Top p loose mean mg mb h₀} {x : Str} {v : Value} (h1 : x ∉ startupNames) (h2 : x ∉ loose) (h3 : x ∉ (recsOf p).map (·.name)) (h4 : x ∉ (litsOf p).map (·.1)) (h5 : x ∉ (clssOf p loose).map (·.name)) (h6 : x ≠ "__name__") (h7 : bootBuiltins x = some v) : Blt ⟨prog, w, p, loose, mean, mg, mb, h₀, T⟩ x v :=
  ⟨T.free x h1 h2 h3 h4 h5, (T.builtins x h6).trans h7⟩

theorem law_link {prog p : Program} {w : World} {loose : List Str} {mean : ExcName → Option Value} {mg mb : Str → Option Value} {s₁ : Shared} {fa l : Addr} {c : ClaimW} {cl : Str → Option Addr} {mean' : ExcName → Option Value} {args : List WData} {E : Value → Shared → Prop}
    (T : Top p loose mean mg mb s₁.heap) (hmg : mg "law" = some (.ref fa)) (hg : s₁.gens = #[]) (hr : ∀ cls, c.raises args cls = false) (hp : c.post args (.bool true) args = true)
    (hc : CallD ⟨prog, w, p, loose, mean, mg, mb, s₁.heap, T⟩ callerA "law" [.ptr l] (fun _ => none) (.bool true)) :
    wpAny (model prog w) callerA (PySem.call (.ref fa) [.ref l]) (fun v s' => GoodWG c cl mean' args s₁ (.ok (.ret v)) s') E s₁ := by
  obtain ⟨a, o, fd, h1, h2, h3, h4⟩ := hc.run
  have : a = fa := by
    have h1' : mg "law" = some (.ref a) := h1
    rw [hmg] at h1'; cases h1'; rfl
  subst this
  refine h4 (fun b => s₁.heap.get? b) s₁ [.ref l] _ _ ⟨fun _ _ e => e, fun _ _ e => e, fun _ _ _ e => by cases e⟩ (.cons (.ptr l) .nil) fun v g' h' tk af rv => ?_
  cases rv
  exact GoodW.toG ⟨.inl ⟨_, _, [], rfl, hr, ReadsW.bool true, hp, fun _ => ⟨List.nodup_nil, fun _ hm => (nomatch hm)⟩⟩, af.keep, rfl, hg⟩
theorem caller_rm : Rm callerA 200 := by
  refine ⟨rfl, ?_, ?_⟩ <;> decide
end Mine

namespace Mine
open PySem PyProof.Rows

section
variable {X : Cx} {A : Around} {env : Env} {md : Md} {mu : Mu} {N B C : Post} {R : D → Prop} {rest : List Stmt}
/-- a for loop whose names and lists go by the turn's number -/
theorem Ex.forMM {x : Str} {px pos : Pos} {iter : Expr} {body : List Stmt} {n : Nat} {di : Nat → D} (ms : Nat → Md) (us : Nat → Mu) (Bk : Post) (hit : It X A env md mu iter n di) (hx : Kd env x) (h0 : Sub (ms 0) md) (hm : mu = us 0)
    (turn : ∀ i, i < n → Ex X A env (upd (ms i) x (di i)) (us i) body (fun md' mu' => Sub (ms (i + 1)) md' ∧ mu' = us (i + 1)) Bk (fun md' mu' => Sub (ms (i + 1)) md' ∧ mu' = us (i + 1)) R)
    (done : Ex X A env (ms n) (us n) rest N B C R) (brk : ∀ md' mu', Bk md' mu' → Ex X A env md' mu' rest N B C R) (hs : ∀ x, foldedSetIterable iter env x = pure x := by intro _; rfl) :
    Ex X A env md mu (.For (.Name x px) iter body [] pos :: rest) N B C R := by
  refine Ex.for (fun i md' mu' => Sub (ms i) md' ∧ mu' = us i) Bk hit hx ⟨h0, hm⟩ (fun i md' mu' hi hj => ?_) (fun md' mu' hj => ?_) hs
  · obtain ⟨hs', rfl⟩ := hj
    exact (turn i hi).weaken (hs'.cons _ _)
  · rcases hj with ⟨hs', rfl⟩ | hb
    · exact done.weaken hs'
    · exact brk md' mu' hb
/-- a for loop that changes lists alone; what it stores besides is forgotten -/
theorem Ex.forMu {x : Str} {px pos : Pos} {iter : Expr} {body : List Stmt} {n : Nat} {di : Nat → D} (us : Nat → Mu) (hit : It X A env md mu iter n di) (hx : Kd env x) (hm : mu = us 0)
    (turn : ∀ i, i < n → Ex X A env (upd md x (di i)) (us i) body (fun md' mu' => Sub md md' ∧ mu' = us (i + 1)) No (fun md' mu' => Sub md md' ∧ mu' = us (i + 1)) R)
    (done : Ex X A env md (us n) rest N B C R) (hs : ∀ x, foldedSetIterable iter env x = pure x := by intro _; rfl) :
    Ex X A env md mu (.For (.Name x px) iter body [] pos :: rest) N B C R :=
  Ex.forMM (fun _ => md) us No hit hx (Sub.refl md) hm turn done (fun _ _ h => h.elim) hs

def CmdOk (env : Env) (md : Md) (scope : Scope) : Md → Prop
  | [] => True
  | (x, d) :: r => (md.lookup x = some d ∧ env.kindOf x = some .cell ∧ (relabel scope env).names.lookup x = some .cell) ∧ CmdOk env md scope r
theorem CompOk.of {scope : Scope} {x : Str} {cmd : Md} (h6 : CmdOk env md scope cmd) (h1 : (scope.names.all fun p => !(p.2 == .cell)) = true := by rfl) (h2 : scope.kind = .function := by rfl) (h3 : scope.names.lookup x = some .local := by rfl)
    (h4 : (scope.names.all fun p => !(p.2 == .free) || env.kindOf p.1 == some .cell) = true := by rfl) (h5 : (scope.names.all fun p => !(p.2 == .local) || scope.names.lookup p.1 == some .local) = true := by rfl) : CompOk env md scope x cmd := by
  refine ⟨fun p hp e => ?_, h2, h3, fun p hp e => ?_, fun p hp e => ?_, ?_⟩
  · have := List.all_eq_true.mp h1 p hp; rw [e] at this; exact absurd this (by decide)
  · have := List.all_eq_true.mp h4 p hp
    rw [e] at this
    simpa using this
  · have := List.all_eq_true.mp h5 p hp
    rw [e] at this
    simpa using this
  · induction cmd with
    | nil => intro p hp; cases hp
    | cons q r ih =>
      obtain ⟨y, d⟩ := q
      intro p hp
      rcases List.mem_cons.mp hp with rfl | hp
      · exact h6.1
      · exact ih h6.2 p hp
end
theorem Sub.drop {md : Md} (x : Str) (d e : D) : Sub ((x, d) :: md) ((x, d) :: (x, e) :: md) := fun y f q => by
  rw [lookup_cons_str] at q ⊢
  by_cases hy : y = x
  · rw [if_pos hy] at q ⊢; exact q
  · rw [if_neg hy] at q ⊢; rw [lookup_cons_str, if_neg hy]; exact q
section
variable {X : Cx} {A : Around} {env : Env} {md : Md} {mu : Mu} {N B C : Post} {R : D → Prop} {rest : List Stmt}
/-- a name for a comprehension's list that nobody will write on -/
theorem Ex.assignCompZ {y : Str} {py spos : Pos} {elt iter : Expr} {x : Str} {px : Pos} {scope : Scope} {pos : Pos} {cmd : Md} {n : Nat} {di de : Nat → D} (ok : CompOk env md scope x cmd) (hit : It X A env md mu iter n di) (hsz : n ≤ sizeLine)
    (hel : ∀ C i, i < n → Ev X A (compEnvC scope (closOf env.cells scope.names []) C env) ((x, di i) :: cmd) (ro mu) elt (de i)) (hy : Kd env y)
    (h : Ex X A env (upd md y (.lst ((List.range n).map de))) mu rest N B C R)
    (hsw : swapsWith (.ListComp elt [⟨.Name x px, iter, [], 0⟩] scope pos) (some (.Name y py)) spos.line env = pure true := by rfl) (hs : ∀ x, foldedSetIterable iter env x = pure x := by intro _; rfl) :
    Ex X A env md mu (.Assign [.Name y py] (.ListComp elt [⟨.Name x px, iter, [], 0⟩] scope pos) spos :: rest) N B C R := by
  refine Ex.assignComp ok hit hsz hel hy (fun a ha => Ex.freeze (x := y) (a := a) (by rw [lookup_upd, if_pos rfl]) mput_self ?_) hsw hs
  rw [mdel_mput ha]
  exact h.weaken (Sub.drop y _ _)
end
theorem range_map_getD {n i : Nat} {f : Nat → D} (h : i < n) : ((List.range n).map f).getD i .none = f i := by
  rw [List.getD_eq_getElem?_getD, List.getElem?_map, List.getElem?_range h]; rfl
theorem range_map_get {n i : Nat} {f : Nat → D} (h : i < n) : ((List.range n).map f)[i]? = some (f i) := by
  rw [List.getElem?_map, List.getElem?_range h]; rfl
theorem mulOk {a b : Int} (h0 : 0 ≤ a) (h1 : a < 2 ^ 32) : IntMulOk a b := by
  refine IntMulOk.of_left ?_
  unfold Builtin.Int.intBits
  split
  · omega
  · rename_i h
    have ha : a.natAbs ≠ 0 := by simp at h; omega
    have := (Nat.log2_lt ha (k := 32)).mpr (by omega)
    omega
section
variable {X : Cx} {A : Around} {env : Env} {md : Md} {mu : Mu}
theorem Ts.or2 {x y : Expr} {pos : Pos} {b c : Bool} (h : Ts X A env md mu x b) (hy : Ts X A env md mu y c) : Ts X A env md mu (.BoolOp .Or [x, y] pos) (b || c) := by
  cases b
  · exact Ts.orF h hy
  · exact Ts.orT h
theorem Ts.and2 {x y : Expr} {pos : Pos} {b c : Bool} (h : Ts X A env md mu x b) (hy : Ts X A env md mu y c) : Ts X A env md mu (.BoolOp .And [x, y] pos) (b && c) := by
  cases b
  · exact Ts.andF h
  · exact Ts.andT h hy
end
def SubOk (md : Md) : Md → Prop
  | [] => True
  | (x, d) :: r => md.lookup x = some d ∧ SubOk md r
theorem Sub.ofL {md : Md} : ∀ {md' : Md}, SubOk md md' → Sub md' md := by
  intro md' h
  refine Sub.of ?_
  induction md' with
  | nil => intro p hp; cases hp
  | cons q r ih =>
    obtain ⟨y, d⟩ := q
    intro p hp
    rcases List.mem_cons.mp hp with rfl | hp
    · exact h.1
    · exact ih h.2 p hp
theorem It.mono {X : Cx} {A : Around} {env : Env} {md : Md} {mu : Mu} {e : Expr} {n : Nat} {di dj : Nat → D} (h : It X A env md mu e n di) (hd : ∀ i, i < n → di i = dj i) : It X A env md mu e n dj := by
  refine ⟨fun keep g₀ g s Q E S kk => h.run keep g₀ g s Q E S fun I fp P Sw g' h' tk S' x' W hcls hitem hsrc ap hst => ?_⟩
  exact kk I fp (fun i v => i < n ∧ P i v) Sw g' h' tk S' x' ⟨W.sub, W.frame, fun i s Q E hi st hQ => W.item i s Q E hi st fun v h' tk hp => hQ v h' tk ⟨hi, hp⟩, W.done, W.self⟩ hcls (fun i v hp => hd i hp.1 ▸ hitem i v hp.2) hsrc ap hst
/-- over a list that was made by the number -/
theorem It.lstM {X : Cx} {A : Around} {env : Env} {md : Md} {mu : Mu} {e : Expr} {n : Nat} {f : Nat → D} (hh : A.handled = none) (he : Ev X A env md mu e (.lst ((List.range n).map f))) : It X A env md mu e n f := by
  have := It.lst hh he
  rw [List.length_map, List.length_range] at this
  exact this.mono fun i hi => range_map_getD hi
end Mine

namespace Mine
open PySem PyProof.Rows

section
variable {X : Cx} {A : Around} {env : Env} {md : Md} {mu : Mu} {N B C : Post} {R : D → Prop} {rest : List Stmt}
/-- an item of a list that may be written on is replaced -/
theorem Ex.setItem {o i value : Expr} {p pos : Pos} {a : Addr} {ds : List D} {d : D} {k : Int} (hv : Ev X A env md mu value d) (ho : Ev X A env md mu o (.ptr a)) (ha : mu a = some (true, ds)) (hi : Ev X A env md mu i (.int k)) (h0 : 0 ≤ k) (h1 : k < ds.length) (h2 : ds.length < 2 ^ 62)
    (h : Ex X A env md (mput mu a (true, ds.set k.toNat d)) rest N B C R) (hs : swapsWith value (some (.Subscript o i p)) pos.line env = pure false := by rfl) :
    Ex X A env md mu (.Assign [.Subscript o i p] value pos :: rest) N B C R := by
  refine ⟨fun keep g₀ g s Q E S n b c r => ?_⟩
  refine wpAny_execs_cons (wpAny_Assign_Subscript (hv.run keep g₀ g s _ E S fun v g₁ h₁ tk₁ S₁ x₁ r₁ => ho.run keep g₀ g₁ _ _ E S₁ fun ov g₂ h₂ tk₂ S₂ x₂ r₂ => hi.run keep g₀ g₂ _ _ E S₂ fun iv g₃ h₃ tk₃ S₃ x₃ r₃ => ?_) hs)
  cases r₂
  cases r₃
  obtain ⟨_, _, vs, m, hv', hr'⟩ := S₃.muok a true ds ha
  have hl := hr'.length
  refine PySem.W.ki_setAt hv' h0 (by omega) (by rw [List.size_toArray]; omega) ?_
  have hup := IsL.update (f := fun xs => xs.setIfInBounds k.toNat v) (show IsL h₃ a vs.toArray m from hv')
  have e1 : (vs.toArray.setIfInBounds k.toNat v) = (vs.set k.toNat v).toArray := by simp
  rw [e1] at hup
  have S₄ := S₃.write ha (Heap.SameBut.update h₃ a _) hup (hr'.set ((r₁.mono x₂).mono x₃) k.toNat)
  exact h.run keep g₀ g₃ _ Q E S₄ (fun md' mu' g' h' tk => n md' mu' g' h' tk) (fun md' mu' g' h' tk => b md' mu' g' h' tk) (fun md' mu' g' h' tk => c md' mu' g' h' tk) fun d v g' h' tk => r d v g' h' tk
end

/-- what d is where the mutable lists are read as they stand -/
inductive Res (mu : Mu) : D → D → Prop
  | same (d : D) : Res mu d d
  | ptr {a : Addr} {wr : Bool} {ds : List D} : mu a = some (wr, ds) → Res mu (.ptr a) (.lst ds)
inductive ResAll (mu : Mu) : List D → List D → Prop
  | nil : ResAll mu [] []
  | cons {d e : D} {ds es : List D} : Res mu d e → ResAll mu ds es → ResAll mu (d :: ds) (e :: es)
section
variable {X : Cx} {A : Around} {env : Env} {md : Md} {mu : Mu} {keep g₀ g : Kn} {h : Heap}
theorem Res.reads {d e : D} {v : Value} {n : Nat} (q : Res mu d e) (S : St X env keep g₀ g h md mu) (r : Rep g v d) (ok : Ok n e) : ∃ as, Reads h v (toPy e) as := by
  cases q with
  | same => exact r.reads S.kn n ok
  | @ptr a wr ds he =>
    cases r
    obtain ⟨_, _, vs, m, hv, hr⟩ := S.muok a wr ds he
    cases n with
    | zero => simp [Ok] at ok
    | succ n =>
      obtain ⟨as, ra⟩ := hr.reads S.kn n (by simpa [Ok] using ok)
      rw [toPy]
      exact ⟨_, Reads.list hv rfl rfl (by simpa using ra)⟩
theorem ResAll.reads {ds es : List D} {vs : List Value} {n : Nat} (S : St X env keep g₀ g h md mu) (q : ResAll mu ds es) (r : RepAll g vs ds) (ok : ∀ e ∈ es, Ok n e) : ∃ as, ReadsAll h vs (toPys es) as := by
  induction q generalizing vs with
  | nil => cases r; exact ⟨_, ReadsAll.nil⟩
  | cons q _ ih =>
    cases r with
    | cons r rs =>
      obtain ⟨as, ra⟩ := q.reads S r (ok _ (.head _))
      obtain ⟨bs, rb⟩ := ih rs fun e he => ok e (.tail _ he)
      exact ⟨_, ReadsAll.cons ra rb⟩
/-- a tuple of lists, some of which may be written on, against a known one -/
theorem Cm.ne_res {ds es : List D} {n : Nat} (q : ResAll mu ds es) (ok : ∀ e ∈ es, Ok n e) (hu : A.units + (n + 1) < cLine) : Cm X A env md mu .NotEq (.tup ds) (.tup es) false := by
  refine ⟨fun keep g₀ g s Q E u v S ra rb hq => ?_⟩
  have okt : Ok (n + 1) (.tup es) := Ok.tup ok
  obtain ⟨bs, r₂⟩ := rb.reads S.kn (n + 1) okt
  cases ra with
  | @tup a vs m _ e r =>
  obtain ⟨as, r₁⟩ := q.reads S r ok
  have r₁' : Reads s.heap (.ref a) (toPy (.tup es)) as := by rw [toPy]; exact Reads.tuple (S.kn _ _ e) rfl rfl (by simpa using r₁)
  have l := ok_lay (n + 1) (.tup es) okt
  refine SeqAt.compareNe_reads r₁' r₂ l.1 l.1 (by have := l.2; rw [Nat.min_self]; omega) ?_
  rw [SeqAt.eqv_refl _ l.1]; exact hq
end
end Mine

namespace Mine
open PySem PyProof.Rows

section
variable {X : Cx} {A : Around} {env : Env} {md : Md} {mu : Mu}
theorem Ev.fdiv {l r : Expr} {pos : Pos} {a b : Int} (ha : Ev X A env md mu l (.int a)) (hb : Ev X A env md mu r (.int b)) (h0 : b ≠ 0) (hp : Builtin.divisionGoesByPylong a b = false) : Ev X A env md mu (.BinOp l .FloorDiv r pos) (.int (a.fdiv b)) := by
  refine Ev.bin ha hb fun keep g₀ g s Q E u v S ru rv k => ?_
  cases ru; cases rv
  exact floordiv_int h0 (k _ g s.heap _ S (Ext.refl g) (.int _ _)) (.inl hp)
theorem Ev.andF {x y : Expr} {rest : List Expr} {pos : Pos} (h : Ev X A env md mu x (.bool false)) : Ev X A env md mu (.BoolOp .And (x :: y :: rest) pos) (.bool false) := by
  refine ⟨fun keep g₀ g s Q E S k => BoolOp_and (h.run keep g₀ g s _ E S fun v g₁ h₁ tk₁ S₁ x₁ r₁ => ?_)⟩
  cases r₁
  exact wpAny_truthy_bool (k _ g₁ h₁ tk₁ S₁ x₁ (.bool false))
theorem Ev.andT {x y : Expr} {rest : List Expr} {pos : Pos} {d : D} (h : Ev X A env md mu x (.bool true)) (hr : Ev X A env md mu (.BoolOp .And (y :: rest) pos) d) : Ev X A env md mu (.BoolOp .And (x :: y :: rest) pos) d := by
  refine ⟨fun keep g₀ g s Q E S k => BoolOp_and (h.run keep g₀ g s _ E S fun v g₁ h₁ tk₁ S₁ x₁ r₁ => ?_)⟩
  cases r₁
  exact wpAny_truthy_bool (hr.run keep g₀ g₁ _ _ E S₁ fun v g₂ h₂ tk₂ S₂ x₂ r₂ => k v g₂ h₂ tk₂ S₂ (x₁.trans x₂) r₂)
theorem Ev.bool1 {x : Expr} {op : BoolOp} {pos : Pos} {d : D} (h : Ev X A env md mu x d) : Ev X A env md mu (.BoolOp op [x] pos) d := ⟨fun keep g₀ g s Q E S k => BoolOp_one (h.run keep g₀ g s Q E S k)⟩
theorem Ts.is {e : Expr} {b b' : Bool} (h : Ts X A env md mu e b) (he : b = b') : Ts X A env md mu e b' := he ▸ h
theorem Ev.is {e : Expr} {d d' : D} (h : Ev X A env md mu e d) (he : d = d') : Ev X A env md mu e d' := he ▸ h
/-- a value as a test -/
theorem Ts.val {e : Expr} {b : Bool} (h : Ev X A env md mu e (.bool b)) (he : ∀ whole, isTrue e env whole = (do let v ← whole; standAt e.pos; holding [v] (truthy v)) := by intro _; rfl) : Ts X A env md mu e b := by
  refine ⟨fun keep g₀ g s Q E S k => wpAny_isTrue_value (h.run keep g₀ g s _ E S fun v g₁ h₁ tk₁ S₁ x₁ r₁ => ?_) (he _)⟩
  cases r₁
  exact wpAny_truthy_bool (k g₁ h₁ tk₁ S₁ x₁)
/-- a def without arguments called by its name -/
theorem Ev.call0 {f : Str} {np pos : Pos} {d : D} (hc : CallD X A f [] mu d) (hf : env.kindOf f = some .globalImplicit) (hd : (f == ("__debug__" : Str)) = false := by decide) : Ev X A env md mu (.Call (.Name f np) [] [] pos) d := by
  obtain ⟨a, o, fd, hg, ho, hdat, hcall⟩ := hc.run
  refine ⟨fun keep g₀ g s Q E S k => ?_⟩
  have b0 : ∀ b o, X.h₀.get? b = some o → s.heap.get? b = some o := fun b o e => S.kn _ _ (S.base b o e)
  refine wpAny_Call_ofName (Calls.Name_function_global S.kind hf (Calls.loadGlobal_global (mg := X.mg) (by rw [S.glob]; exact X.T.g.keeps b0) hg ?_) hd)
  show wpAny _ _ (callWith pos (.ref a) [] [] []) _ _ _
  refine Calls.callWith_function (o := o) (fd := fd) (PySem.evalArgs_none ⟨⟨S.kn _ _ (S.base _ _ ho), hdat⟩, ?_⟩)
  exact hcall g _ [] _ _ S.kno .nil fun v g₂ h₂ tk₂ af rv => k v g₂ h₂ tk₂ (S.aft af) af.ext rv
/-- not type(e) is tuple, of a tuple -/
theorem Ts.notTup {e : Expr} {np pos tp cp up : Pos} {ds : List D} (b1 : Blt X "type" (.type "type")) (b2 : Blt X "tuple" (.type "tuple")) (h : Ev X A env md mu e (.tup ds)) (h1 : env.kindOf "type" = some .globalImplicit) (h2 : env.kindOf "tuple" = some .globalImplicit)
    (hn : starEach [e] env = [(false, eval e env)] := by rfl) : Ts X A env md mu (.UnaryOp .Not (.Compare (.Call (.Name "type" np) [e] [] pos) [.Is] [.Name "tuple" tp] cp) up) false := by
  refine ⟨fun keep g₀ g s Q E S k => wpAny_isTrue_Not (wpAny_isTrue_Compare1 (wpAny_Call_ofName (name_blt b1 S h1 ?_)))⟩
  rw [hn]
  refine PySem.callWith_type rfl (Calls.evalArgs_plain (Calls.spliced_cons (h.run keep g₀ g s _ E S fun v g₁ h₁ tk₁ S₁ x₁ r₁ => Calls.spliced_nil ?_)))
  cases r₁ with
  | @tup a vs n _ he r =>
  show wpAny _ _ (PySem.call (.type "type") [.ref a]) _ _ _
  refine call_type_of (Tx := "tuple") ⟨_, S₁.kn _ _ he, rfl⟩ (by decide) ?_
  refine name_blt b2 S₁ h2 ?_
  exact wpAny_is_self rfl (wpAny_truthy_bool (k g₁ h₁ tk₁ S₁ x₁))
end
theorem Rm.unit {A : Around} {n : Nat} (h : Rm A n) : A.units < cLine := by have := h.units; omega
theorem Rm.cmp {A : Around} {n k : Nat} (h : Rm A n) (hk : k ≤ 600) : A.units + k < cLine := by have := h.units; omega
theorem Rm.less {A : Around} {n k : Nat} (h : Rm A n) (hk : k ≤ n) : Rm A k := ⟨h.hand, by have := h.depth; omega, by have := h.units; omega⟩
section
variable {X : Cx} {A : Around} {env : Env} {md : Md} {mu : Mu} {N B C : Post} {R : D → Prop} {rest : List Stmt}
/-- a for loop that leaves in its first turn -/
theorem Ex.for1 {x : Str} {px pos : Pos} {iter : Expr} {body : List Stmt} {n : Nat} {di : Nat → D} (Bk : Post) (hit : It X A env md mu iter n di) (hx : Kd env x) (hn : 0 < n) (turn : Ex X A env (upd md x (di 0)) mu body No Bk No R)
    (brk : ∀ md' mu', Bk md' mu' → Ex X A env md' mu' rest N B C R) (hs : ∀ x, foldedSetIterable iter env x = pure x := by intro _; rfl) : Ex X A env md mu (.For (.Name x px) iter body [] pos :: rest) N B C R := by
  refine Ex.for (fun i md' mu' => i = 0 ∧ md' = md ∧ mu' = mu) Bk hit hx ⟨rfl, rfl, rfl⟩ (fun i md' mu' hi hj => ?_) (fun md' mu' hj => ?_) hs
  · obtain ⟨rfl, rfl, rfl⟩ := hj
    exact turn.conseq (fun _ _ h => h.elim) (fun _ _ h => h) (fun _ _ h => h.elim) fun _ h => h
  · rcases hj with ⟨h, _⟩ | hb
    · omega
    · exact brk md' mu' hb
/-- a for loop that goes over nothing -/
theorem Ex.for0 {x : Str} {px pos : Pos} {iter : Expr} {body : List Stmt} {n : Nat} {di : Nat → D} (hit : It X A env md mu iter n di) (hn : n = 0) (hx : Kd env x) (h : Ex X A env md mu rest N B C R) (hs : ∀ x, foldedSetIterable iter env x = pure x := by intro _; rfl) : Ex X A env md mu (.For (.Name x px) iter body [] pos :: rest) N B C R := by
  refine Ex.for (fun i md' mu' => md' = md ∧ mu' = mu) No hit hx ⟨rfl, rfl⟩ (fun i md' mu' hi hj => absurd hi (by rw [hn]; exact Nat.not_lt_zero _)) (fun md' mu' hj => ?_) hs
  rcases hj with ⟨rfl, rfl⟩ | hb
  · exact h
  · exact hb.elim
end
end Mine

namespace Mine
open PySem PyProof.Rows PySem.W

abbrev frs (l : List Env) : List Addr := l.filterMap (·.frame)
/-- the frames of l stand in keep -/
def FrsK (keep : Kn) (l : List Env) : Prop := ∀ env ∈ l, env.scope.kind ≠ .module ∧ ∃ L o, env.frame = some L ∧ keep L = some o ∧ ∀ vs, o.data ≠ .fields vs
theorem FrsK.mono {keep keep' : Kn} {l : List Env} (F : FrsK keep l) (h : ∀ b o, keep b = some o → keep' b = some o) : FrsK keep' l := fun env he =>
  let ⟨k, L, o, h1, h2, h3⟩ := F env he; ⟨k, L, o, h1, h _ _ h2, h3⟩
theorem FrsK.at {keep : Kn} {l : List Env} (F : FrsK keep l) {b : Addr} (hb : b ∈ frs l) : ∃ o, keep b = some o ∧ ∀ vs, o.data ≠ .fields vs := by
  obtain ⟨env, he, hf⟩ := List.mem_filterMap.mp hb
  obtain ⟨_, L, o, h1, h2, h3⟩ := F env he
  rw [hf] at h1; cases h1
  exact ⟨o, h2, h3⟩
theorem frs_fun {keep : Kn} {h₁ : Heap} {as : List Addr} (hk : ∀ b o, keep b = some o → h₁.get? b = some o) : ∀ {l : List Env}, FrsK keep l → (∀ b ∈ frs l, b ∈ as) → h₁.FunFrames (hideAll h₁ as) l
  | [], _, _ => trivial
  | env :: l, F, hin => by
    obtain ⟨k, L, o, h1, h2, h3⟩ := F env (.head _)
    refine ⟨k, ⟨L, o, h1, hideAll_none _ (hin L ?_), hk _ _ h2, h3⟩, frs_fun hk (fun e he => F e (.tail _ he)) fun b hb => hin b ?_⟩
    · rw [frs, List.filterMap_cons, h1]; exact .head _
    · rw [frs, List.filterMap_cons, h1]; exact .tail _ hb

/-- an exception on its way: what stood in h, but for the frames of l, stands -/
def FlyR (h : Heap) (l : List Env) (e : Addr) (cls : Value) (h' : Heap) : Prop :=
  ∃ B t, Heap.FlyingW B l e cls (.ref t) h' ∧ (∀ b o, h.get? b = some o → b ∉ frs l → B.get? b = some o) ∧ h.UpToSlots h'
/-- what is so of the frame where the exception came up -/
structure Old (env : Env) (keep : Kn) (h : Heap) : Prop where
  kp : ∀ b o, keep b = some o → h.get? b = some o
  loc : ∃ m, h.Ns env.locals m
  off : keep env.locals = none
  fr : env.frame = some env.locals
  kind : env.scope.kind ≠ .module
def HeldR (h : Heap) (l : List Env) (e : Addr) (cls : Value) (L : Addr) (h' : Heap) : Prop :=
  ∃ B t, Heap.HeldW B l e cls (.ref t) L h' ∧ (∀ b o, h.get? b = some o → b ∉ frs l → B.get? b = some o) ∧ h.UpToSlots h'
inductive Up (env : Env) (l : List Env) (keep : Kn) (e : Addr) (cls : Value) (h' : Heap) : Prop
  | made {h₁ : Heap} {vs : List Value} : Old env keep h₁ → Heap.MadeExcOf h₁ h' e cls vs → Up env l keep e cls h'
  | on {h₁ : Heap} : Old env keep h₁ → FlyR h₁ (env :: l) e cls h' → Up env l keep e cls h'
  | held {h₁ : Heap} : Old env keep h₁ → HeldR h₁ (env :: l) e cls env.locals h' → Up env l keep e cls h'
theorem Old.mono {env : Env} {keep keep' : Kn} {h : Heap} (O : Old env keep' h) (hk : ∀ b o, keep b = some o → keep' b = some o) : Old env keep h :=
  { O with kp := fun b o e => O.kp b o (hk b o e), off := by cases q : keep env.locals with | none => rfl | some o => have := O.off; rw [hk _ _ q] at this; cases this }
theorem Up.mono {env : Env} {l : List Env} {keep keep' : Kn} {e : Addr} {cls : Value} {h' : Heap} (u : Up env l keep' e cls h') (hk : ∀ b o, keep b = some o → keep' b = some o) : Up env l keep e cls h' := by
  cases u with
  | made O x => exact .made (O.mono hk) x
  | on O x => exact .on (O.mono hk) x
  | held O x => exact .held (O.mono hk) x
theorem Old.frsK {env : Env} {l : List Env} {keep : Kn} {h : Heap} (O : Old env keep h) (F : FrsK keep l) : FrsK (fun b => h.get? b) (env :: l) := fun e he => by
  rcases List.mem_cons.mp he with rfl | he
  · obtain ⟨m, o, es, ep, ho, hd, _⟩ := O.loc
    exact ⟨O.kind, _, o, O.fr, ho, fun vs q => by rw [hd] at q; cases q⟩
  · exact (F.mono O.kp) e he

section
variable {M : Model} {A : Around} {E : Value → Shared → Prop} {s' : Shared} {env : Env} {l : List Env} {keep : Kn} {e : Addr} {cls : Value} {k₀ : Heap}
theorem not_frs_cons {b : Addr} (O : Old env keep k₀) (hb : b ∉ frs l) {o : Obj} (hk : keep b = some o) : b ∉ frs (env :: l) := fun q => by
  rw [frs, List.filterMap_cons, O.fr] at q
  rcases List.mem_cons.mp q with e | q
  · subst e; rw [O.off] at hk; cases hk
  · exact hb q
/-- the exception leaves the frame -/
theorem Up.leaves {Q : Unit → Shared → Prop} (u : Up env l (fun b => k₀.get? b) e cls s'.heap) (F : FrsK (fun b => k₀.get? b) l) (hfr : A.frames = some (env :: l))
    (hQ : ∀ h', FlyR k₀ l e cls h' → Q () { s' with heap := h' }) : wpAny M A (leaving env (.ref e)) Q E s' := by
  cases u with
  | @made h₁ vs O x =>
    have hin : ∀ b ∈ frs (env :: l), b ∈ frs (env :: l) := fun b hb => hb
    refine wpAny_leaves_madeW (base := hideAll h₁ (frs (env :: l))) hfr O.fr (fun b o q => of_hideAll _ q) (frs_fun (fun _ _ q => q) (O.frsK F) hin) x fun h' t x1 x2 x3 x4 => hQ h' ⟨_, t, x1, fun b o q hb => hideAll_get _ (O.kp b o q) (not_frs_cons O hb q), ?_⟩
    exact ((Heap.UpToSlots.of_keeps O.kp).trans (Heap.UpToSlots.of_keeps x.keeps)).trans x4
  | @on h₁ O x =>
    obtain ⟨B, t, x1, x2, x3⟩ := x
    refine wpAny_leaves_onW hfr O.fr x1 fun h' y1 y2 => hQ h' ⟨B, t, y1, fun b o q hb => x2 b o (O.kp b o q) (not_frs_cons O hb q), ?_⟩
    exact ((Heap.UpToSlots.of_keeps O.kp).trans x3).trans y2
  | @held h₁ O x =>
    obtain ⟨B, t, x1, x2, x3⟩ := x
    unfold leaving
    refine wpAny_bind (wpAny_noteFrame_againW O.fr x1.2.2.2 ?_)
    refine wpAny_landsW x1 fun h' y1 y2 => ?_
    obtain ⟨k1, k2, ⟨_, _, k3⟩, k4⟩ := y1
    refine hQ h' ⟨B, t, ⟨k1, k2, k3, k4⟩, fun b o q hb => x2 b o (O.kp b o q) (not_frs_cons O hb q), ?_⟩
    exact ((Heap.UpToSlots.of_keeps O.kp).trans x3).trans y2
/-- noted in its own frame -/
theorem Up.noted {h₁ : Heap} {Q : Unit → Shared → Prop} (O : Old env keep h₁) (x : FlyR h₁ (env :: l) e cls s'.heap) (hfr : A.frames = some (env :: l))
    (hQ : ∀ h', HeldR h₁ (env :: l) e cls env.locals h' → Q () { s' with heap := h' }) : wpAny M A (noteFrame (.ref e) env) Q E s' := by
  obtain ⟨B, t, x1, x2, x3⟩ := x
  exact wpAny_looks_onW hfr O.fr x1 fun h' y1 y2 => hQ h' ⟨B, t, y1, x2, x3.trans y2⟩
theorem Up.cameBack {h₁ : Heap} {P : Value → Shared → Prop} (O : Old env keep h₁) (x : HeldR h₁ (env :: l) e cls env.locals s'.heap) (hQ : ∀ h', HeldR h₁ (env :: l) e cls env.locals h' → P (.ref e) { s' with heap := h' }) :
    cameBackBy M A env P (.ref e) s' := by
  obtain ⟨B, t, ⟨f1, f2, f3, oe, vs, T, oT, ts, he, hcls, hd, h1, hnT, hTe, hT, hdT, h3⟩, x2, x3⟩ := x
  unfold cameBackBy
  refine wpAny_bind (wpAny_field he hd h1 ?_)
  have hsz3 : 3 < ts.size := (Array.getElem?_eq_some_iff.mp h3).1
  rw [if_neg (show ¬ ((Value.ref T == Value.none) = true) from by simp)]
  unfold setFlight
  refine wpAny_bind (wpAny_field he hd h1 ?_)
  rw [if_pos (show (Value.ref T != Value.none) = true from by simp)]
  have other : ∀ b, b ≠ T → (s'.heap.update T (Obj.mapFields (·.setIfInBounds 3 (env.frame.elim Value.none fun f => rawInt f)))).get? b = s'.heap.get? b := fun b hb => Heap.get?_update_other _ _ (Ne.symm hb)
  have noRecord : ∀ b o, s'.heap.get? b = some o → (∀ vs, o.data ≠ .fields vs) → b ≠ T := fun b o hb hnf q => by
    rw [q, hT] at hb; injection hb with hb; subst hb; exact hnf ts hdT
  refine wpAny_setField hT hdT hsz3 (hQ _ ⟨B, t, ⟨fun b o hbo => (other b fun q => by rw [q, hnT] at hbo; cases hbo).trans (f1 b o hbo), f2, f3.of_keeps fun b o hb hnf => ⟨o, (other b (noRecord b o hb hnf)).trans hb, rfl⟩, ?_⟩, x2, x3.trans fun b o hb hnf => ⟨o.slots, (other b (noRecord b o hb hnf)).trans hb⟩⟩)
  exact ⟨oe, vs, T, _, _, (other e (Ne.symm hTe)).trans he, hcls, hd, h1, hnT, hTe, Heap.get?_update_self _ hT (Obj.isFreed_of_fields (Obj.data_mapFields hdT _)), Obj.data_mapFields hdT _, by rw [O.fr]; simp [hsz3]⟩
end
end Mine

namespace Mine
open PySem PyProof.Rows PySem.W

/-- a call of the def f upon ds raises an exception of the class cls -/
structure CallR (X : Cx) (A : Around) (l : List Env) (f : Str) (ds : List D) (mu : Mu) (cls : Value) : Prop where
  run : ∃ a o fd, X.mg f = some (.ref a) ∧ X.h₀.get? a = some o ∧ o.data = .func fd ∧
    ∀ (g : Kn) (s : Shared) (vs : List Value) (Q : Value → Shared → Prop) (E : Value → Shared → Prop), Kno X g mu s.heap → RepAll g vs ds → FrsK (fun b => s.heap.get? b) l →
      (∀ e h' tk, FlyR s.heap l e cls h' → E (.ref e) { s with heap := h', toks := tk }) → wpAny (model X.prog X.w) A (PySem.call (.ref a) vs) Q E s
/-- statements that raise -/
structure ExR (X : Cx) (A : Around) (env : Env) (l : List Env) (md : Md) (mu : Mu) (ss : List Stmt) (cls : Value) : Prop where
  run : ∀ (keep g₀ g : Kn) (s : Shared) (Q : Flow → Shared → Prop) (E : Value → Shared → Prop), St X env keep g₀ g s.heap md mu → FrsK keep l →
    (∀ e h' tk, Up env l keep e cls h' → E (.ref e) { s with heap := h', toks := tk }) → wpAny (model X.prog X.w) A (execs ss env) Q E s
/-- an expression that raises, in a callee -/
structure EvR (X : Cx) (A : Around) (env : Env) (l : List Env) (md : Md) (mu : Mu) (x : Expr) (cls : Value) : Prop where
  run : ∀ (keep g₀ g : Kn) (s : Shared) (Q : Value → Shared → Prop) (E : Value → Shared → Prop), St X env keep g₀ g s.heap md mu → FrsK keep l →
    (∀ e h₁ h' tk, Old env keep h₁ → FlyR h₁ (env :: l) e cls h' → E (.ref e) { s with heap := h', toks := tk }) → wpAny (model X.prog X.w) A (eval x env) Q E s

section
variable {X : Cx} {A : Around} {env : Env} {l : List Env} {md : Md} {mu : Mu} {cls : Value}
theorem St.old {keep g₀ g : Kn} {h : Heap} (S : St X env keep g₀ g h md mu) (hf : env.frame = some env.locals) : Old env keep h := ⟨S.kp, S.loc, S.offk, hf, by rw [S.kind]; decide⟩

theorem EvR.call {f : Str} {np pos : Pos} {e : Expr} {es : List Expr} {ds : List D} (hc : CallR X A (env :: l) f ds mu cls) (hes : EvAll X A env md mu (e :: es) ds) (hf : env.kindOf f = some .globalImplicit)
    (hfr : env.frame = some env.locals := by rfl) (hn : starEach (e :: es) env = (false, eval e env) :: starEach es env := by rfl) (hd : (f == ("__debug__" : Str)) = false := by decide) :
    EvR X A env l md mu (.Call (.Name f np) (e :: es) [] pos) cls := by
  obtain ⟨a, o, fd, hg, ho, hdat, hcall⟩ := hc.run
  refine ⟨fun keep g₀ g s Q E S F k => ?_⟩
  have b0 : ∀ b o, X.h₀.get? b = some o → s.heap.get? b = some o := fun b o e => S.kn _ _ (S.base b o e)
  refine wpAny_Call_ofName (Calls.Name_function_global S.kind hf (Calls.loadGlobal_global (mg := X.mg) (by rw [S.glob]; exact X.T.g.keeps b0) hg ?_) hd)
  show wpAny _ _ (callWith pos (.ref a) [] (backTo pos (starEach (e :: es) env)) []) _ _ _
  refine Calls.callWith_function (o := o) (fd := fd) ?_
  rw [hn]
  show wpAny _ _ (evalArgs (.ref a) true ((false, eval e env) :: backTo pos (starEach es env)) []) _ _ _
  refine Calls.evalArgs_plain ?_
  have := hes.run pos keep g₀ g s
  rw [hn] at this
  refine this _ E S fun vs g₁ h₁ tk₁ S₁ x₁ r₁ => ?_
  refine ⟨⟨S₁.kn _ _ (S₁.base _ _ ho), hdat⟩, ?_⟩
  show wpAny _ _ (PySem.call (.ref a) ([] ++ vs) []) _ _ _
  rw [List.nil_append]
  have O := S₁.old hfr
  exact hcall g₁ _ vs _ _ S₁.kno r₁ (O.frsK F) fun e h' tk fl => k e h₁ h' tk O fl

theorem ExR.weaken {md' : Md} {ss : List Stmt} (hm : Sub md' md) (h : ExR X A env l md' mu ss cls) : ExR X A env l md mu ss cls := ⟨fun keep g₀ g s Q E S F u => h.run keep g₀ g s Q E (S.weaken hm) F u⟩
/-- statements that run through, then some that raise -/
theorem ExR.seq {a b : List Stmt} {P : Post} (h : Ex X A env md mu a P No No (fun _ => False)) (k : ∀ md' mu', P md' mu' → ExR X A env l md' mu' b cls) : ExR X A env l md mu (a ++ b) cls := by
  refine ⟨fun keep g₀ g s Q E S F u => ?_⟩
  rw [execs_app]
  refine wpAny_bind (h.run keep g₀ g s _ E S (fun md' mu' g' h' tk hm S' => ?_) (fun md' mu' g' h' tk hm S' => hm.elim) (fun md' mu' g' h' tk hm S' => hm.elim) fun d v g' h' tk hm S' rv => hm.elim)
  exact (k md' mu' hm).run keep g₀ g' _ Q E S' F fun e h'' tk' up => u e h'' tk' up
theorem ExR.ifT {test : Expr} {body orelse rest : List Stmt} {pos : Pos} (ht : Ts X A env md mu test true) (h : ExR X A env l md mu (body ++ rest) cls) : ExR X A env l md mu (.If test body orelse pos :: rest) cls := by
  refine ⟨fun keep g₀ g s Q E S F u => ?_⟩
  rw [if_app]
  refine wpAny_bind (wpAny_standAt (wpAny_bind (ht.run keep g₀ g s _ E S fun g' h' tk S' x' => ?_)))
  rw [if_pos rfl]
  exact h.run keep g₀ g' _ Q E S' F fun e h'' tk' up => u e h'' tk' up
theorem ExR.ifF {test : Expr} {body orelse rest : List Stmt} {pos : Pos} (ht : Ts X A env md mu test false) (h : ExR X A env l md mu (orelse ++ rest) cls) : ExR X A env l md mu (.If test body orelse pos :: rest) cls := by
  refine ⟨fun keep g₀ g s Q E S F u => ?_⟩
  rw [if_app]
  refine wpAny_bind (wpAny_standAt (wpAny_bind (ht.run keep g₀ g s _ E S fun g' h' tk S' x' => ?_)))
  rw [if_neg Bool.false_ne_true]
  exact h.run keep g₀ g' _ Q E S' F fun e h'' tk' up => u e h'' tk' up
theorem ExR.assign {x : Str} {p pos : Pos} {e : Expr} {d : D} {rest : List Stmt} (he : Ev X A env md mu e d) (hx : Kd env x) (h : ExR X A env l (upd md x d) mu rest cls) (hs : swapsWith e (some (.Name x p)) pos.line env = pure false := by rfl) :
    ExR X A env l md mu (.Assign [.Name x p] e pos :: rest) cls := by
  refine ⟨fun keep g₀ g s Q E S F u => ?_⟩
  refine wpAny_execs_cons (wpAny_Assign_Name (he.run keep g₀ g s _ E S fun v g₁ h₁ tk₁ S₁ x₁ r₁ => store_upd S₁ r₁ hx fun h₂ tk₂ S₂ => ?_) hs)
  exact h.run keep g₀ g₁ _ Q E S₂ F fun e h'' tk' up => u e h'' tk' up
theorem ExR.assignF {x : Str} {p pos : Pos} {e : Expr} {ds : List D} {rest : List Stmt} (he : EvF X A env md mu e ds) (hx : Kd env x) (h : ∀ a, mu a = none → ExR X A env l (upd md x (.ptr a)) (mput mu a (true, ds)) rest cls) (hs : swapsWith e (some (.Name x p)) pos.line env = pure false := by rfl) :
    ExR X A env l md mu (.Assign [.Name x p] e pos :: rest) cls := by
  refine ⟨fun keep g₀ g s Q E S F u => ?_⟩
  refine wpAny_execs_cons (wpAny_Assign_Name (he.run keep g₀ g s _ E S fun a g₁ h₁ tk₁ ha S₁ x₁ => store_upd S₁ (.ptr a) hx fun h₂ tk₂ S₂ => ?_) hs)
  exact (h a ha).run keep g₀ g₁ _ Q E S₂ F fun e h'' tk' up => u e h'' tk' up
/-- the value of an assignment raises -/
theorem ExR.assignR {x : Str} {p pos : Pos} {e : Expr} {rest : List Stmt} (he : EvR X A env l md mu e cls) (hs : swapsWith e (some (.Name x p)) pos.line env = pure false := by rfl) : ExR X A env l md mu (.Assign [.Name x p] e pos :: rest) cls := by
  refine ⟨fun keep g₀ g s Q E S F u => ?_⟩
  exact wpAny_execs_cons (wpAny_Assign_Name (he.run keep g₀ g s _ E S F fun e h₁ h' tk O fl => u e h' tk (.on O fl)) hs)
/-- what a for goes over raises -/
theorem ExR.forIter {x : Str} {px pos : Pos} {iter : Expr} {body rest : List Stmt} (he : EvR X A env l md mu iter cls) (hs : ∀ x, foldedSetIterable iter env x = pure x := by intro _; rfl) : ExR X A env l md mu (.For (.Name x px) iter body [] pos :: rest) cls := by
  refine ⟨fun keep g₀ g s Q E S F u => ?_⟩
  exact wpAny_execs_cons (wpAny_For (he.run keep g₀ g s _ E S F fun e h₁ h' tk O fl => u e h' tk (.on O fl)) hs)
/-- the class of the text's own exceptions -/
def Own (X : Cx) (x : Str) (C : Addr) : Prop := OwnClsQ x C [.type "Exception", .type "BaseException", .type "object"] "Exception.__new__" X.mg X.h₀
theorem ExR.raise {x : Str} {np cpos pos : Pos} {e₀ : Expr} {d : D} {C : Addr} {rest : List Stmt} (O : Own X x C) (hh : A.handled = none) (he : Ev X A env md mu e₀ d) (hx : env.kindOf x = some .globalImplicit) (hfr : env.frame = some env.locals := by rfl)
    (hn : starEach [e₀] env = [(false, eval e₀ env)] := by rfl) (hd : (x == ("__debug__" : Str)) = false := by decide) :
    ExR X A env l md mu (.Raise (some (.Call (.Name x np) [e₀] [] cpos)) none pos :: rest) (.ref C) := by
  refine ⟨fun keep g₀ g s Q E S F u => ?_⟩
  have b0 : ∀ b o, X.h₀.get? b = some o → s.heap.get? b = some o := fun b o e => S.kn _ _ (S.base b o e)
  obtain ⟨tl, N, nm, q, bs, hdct, sn, sub, ab, col, dd, k0, k1, k2, k3, k5, mN, hC, hN, hni, T⟩ := O.own.obj
  refine wpAny_execs_cons (wpAny_Raise_call_subT (C := C) (nm := nm) (q := q) (N := N) (bs := bs) (bm := tl) (hdct := hdct) (sn := sn) (sub := sub) (ab := ab) (col := col) (dd := dd) (k0 := k0) (k1 := k1) (k2 := k2) (k3 := k3) (k5 := k5)
    PySem.F.excBase_Exception (mN := mN) (T.hasType PySem.F.excBase_Exception.hasBase) hh (by rw [hn]; rfl) hni ?_)
  refine Calls.Name_function_global S.kind hx (Calls.loadGlobal_global (mg := X.mg) (by rw [S.glob]; exact X.T.g.keeps b0) O.bound ⟨rfl, ?_⟩) hd
  rw [hn]
  refine Calls.evalArgs_plain (Calls.spliced_cons (he.run keep g₀ g s _ E S fun v g₁ h₁ tk₁ S₁ x₁ r₁ => Calls.spliced_nil ?_))
  have b1 : ∀ b o, X.h₀.get? b = some o → h₁.get? b = some o := fun b o e => S₁.kn _ _ (S₁.base b o e)
  exact ⟨rfl, by simp [sizeLine], b1 _ _ hC, hN.keeps b1, T.keeps b1, fun h' e mk => u e h' tk₁ (.made (S₁.old hfr) mk)⟩
end
end Mine

namespace Mine
open PySem PyProof.Rows PySem.W

/-- statements that raise, in a callee -/
structure ExS (X : Cx) (A : Around) (env : Env) (l : List Env) (md : Md) (mu : Mu) (ss : List Stmt) (cls : Value) : Prop where
  run : ∀ (keep g₀ g : Kn) (s : Shared) (Q : Flow → Shared → Prop) (E : Value → Shared → Prop), St X env keep g₀ g s.heap md mu → FrsK keep l →
    (∀ e h₁ h' tk, Old env keep h₁ → FlyR h₁ (env :: l) e cls h' → E (.ref e) { s with heap := h', toks := tk }) → wpAny (model X.prog X.w) A (execs ss env) Q E s
section
variable {X : Cx} {A : Around} {env : Env} {l : List Env} {keep g₀ g : Kn} {md : Md} {mu : Mu} {s : Shared} {cls : Value}
/-- a for loop over what walks, whose turn number k raises -/
theorem loop_coreR {x : Str} {px : Pos} {body : List Stmt} {I : Addr} {fp : List Addr} {n k : Nat} {P : Nat → Value → Prop} {Sw : Nat → Heap → Prop} {RR : Result → Shared → Prop} (W : Walks X.prog X.w A I fp [I] n P Sw)
    (hcls : ∀ i h, Sw i h → ∃ o, h.get? I = some o ∧ o.cls ≠ .type "list" ∧ ∀ v, o.data ≠ .cell v) (hx : Kd env x) (di : Nat → D) (hitem : ∀ i v, P i v → Rep g v (di i)) (hsrc : ∀ b ∈ fp, b = I ∨ ∃ o, g b = some o)
    (S : St X env keep g₀ g s.heap md mu) (a : Apart env keep g₀ g mu I) (hst : Sw 0 s.heap) (J : Nat → Post) (h0 : J 0 md mu) (hkn : k < n) (F : FrsK keep l) (hfr : A.frames = some (env :: l))
    (turn : ∀ i md' mu', i < k → J i md' mu' → Ex X A env (upd md' x (di i)) mu' body (J (i + 1)) No (J (i + 1)) (fun _ => False))
    (last : ∀ md' mu', J k md' mu' → ExS X A env l (upd md' x (di k)) mu' body cls)
    (exc : ∀ e h' tk h₁, Old env keep h₁ → HeldR h₁ (env :: l) e cls env.locals h' → RR (.error (.ref e)) { s with heap := h', toks := tk }) :
    codeAny (model X.prog X.w) A (.forLoop (.Name x px) (.ref I) body [] env) RR s := by
  refine codeAny_forLoop
    (fun m s' => ∃ i h' tk g' md' mu', s' = { s with heap := h', toks := tk } ∧ i ≤ k ∧ m = n + 1 - i ∧ Sw i h' ∧ St X env keep g₀ g' h' md' mu' ∧ Ext g g' ∧ J i md' mu' ∧ Apart env keep g₀ g' mu' I) ?_ (n + 1)
    ⟨0, s.heap, s.toks, g, md, mu, rfl, Nat.zero_le _, rfl, hst, S, Ext.refl g, h0, a⟩
  rintro m s' ⟨i, h', tk, g', md', mu', rfl, hi, rfl, hst', S', x', hJ, a'⟩
  have hlt : i < n := Nat.lt_of_le_of_lt hi hkn
  refine W.item i _ _ _ hlt hst' fun v h₁ tk₁ hP hst₁ hk₁ => ?_
  have S₁ := S'.besides a' hk₁
  by_cases hik : i < k
  · obtain ⟨o, ho, hc0, hc2⟩ := hcls _ _ hst₁
    have hc1 : ∀ vs n, o ≠ lstO vs n := fun vs n e => hc0 (by rw [e])
    have S₁h := (S₁.here).hold ⟨a'.k, a'.g, a'.g, a'.m, a'.l, a'.c⟩ ho
    refine wpAny_assign_Name (store_upd S₁h ((hitem i v hP).mono x') hx fun h₂ tk₂ S₂ => ?_)
    have again : ∀ md'' mu'' g'' h₄ tk₄, J (i + 1) md'' mu'' → St X env (put keep I o) g' g'' h₄ md'' mu'' → ∃ m, m < n + 1 - i ∧ ∃ i h' tk g' md' mu', ({ s with heap := h₄, toks := tk₄ } : Shared) = { s with heap := h', toks := tk } ∧ i ≤ k ∧ m = n + 1 - i ∧ Sw i h' ∧ St X env keep g₀ g' h' md' mu' ∧ Ext g g' ∧ J i md' mu' ∧ Apart env keep g₀ g' mu' I := by
      intro md'' mu'' g'' h₄ tk₄ hJ' S₄
      obtain ⟨S₅, a₅, hI₅⟩ := S₄.unhold a'.k a'.g hc1 hc2
      refine ⟨n + 1 - (i + 1), by omega, i + 1, h₄, tk₄, g'', md'', mu'', rfl, hik, rfl, W.frame _ _ _ hst₁ (fun b hb p e => ?_), S₁.back S₅, x'.trans S₅.ext, hJ', ⟨a₅.k, a'.g₀, a₅.g, a₅.m, a₅.l, a₅.c⟩⟩
      rcases hsrc b hb with rfl | ⟨q, hq⟩
      · rw [ho] at e; cases e; exact hI₅
      · have e1 := S₁.kn _ _ (x' _ _ hq)
        rw [e1] at e; cases e
        exact S₅.kn _ _ (S₅.ext _ _ (x' _ _ hq))
    refine (turn i md' mu' hik hJ).run (put keep I o) g' g' _ _ _ S₂ ?_ ?_ ?_ ?_
    · exact fun md'' mu'' g'' h₄ tk₄ hJ' S₄ => again md'' mu'' g'' h₄ tk₄ hJ' S₄
    · exact fun md'' mu'' g'' h₄ tk₄ hB S₄ => hB.elim
    · exact fun md'' mu'' g'' h₄ tk₄ hJ' S₄ => again md'' mu'' g'' h₄ tk₄ hJ' S₄
    · exact fun d v g'' h₄ tk₄ hR fin rv => hR.elim
  · have hin : i = k := by omega
    subst hin
    refine wpAny_assign_Name (store_upd S₁ ((hitem i v hP).mono x') hx fun h₂ tk₂ S₂ => ?_)
    exact (last md' mu' hJ).run keep g₀ g' _ _ _ S₂ F fun e h₄ h₃ tk₃ O fl => Up.noted O fl hfr fun h₅ hd => exc e h₅ tk₃ h₄ O hd
end
section
variable {X : Cx} {A : Around} {env : Env} {l : List Env} {md : Md} {mu : Mu} {cls : Value} {rest : List Stmt}
theorem ExS.forIter {x : Str} {px pos : Pos} {iter : Expr} {body : List Stmt} (he : EvR X A env l md mu iter cls) (hs : ∀ x, foldedSetIterable iter env x = pure x := by intro _; rfl) : ExS X A env l md mu (.For (.Name x px) iter body [] pos :: rest) cls := by
  refine ⟨fun keep g₀ g s Q E S F u => ?_⟩
  exact wpAny_execs_cons (wpAny_For (he.run keep g₀ g s _ E S F fun e h₁ h' tk O fl => u e h₁ h' tk O fl) hs)
theorem ExS.assignR {x : Str} {p pos : Pos} {e : Expr} (he : EvR X A env l md mu e cls) (hs : swapsWith e (some (.Name x p)) pos.line env = pure false := by rfl) : ExS X A env l md mu (.Assign [.Name x p] e pos :: rest) cls := by
  refine ⟨fun keep g₀ g s Q E S F u => ?_⟩
  exact wpAny_execs_cons (wpAny_Assign_Name (he.run keep g₀ g s _ E S F fun e h₁ h' tk O fl => u e h₁ h' tk O fl) hs)
/-- a for loop whose turn number k raises -/
theorem ExR.forR {x : Str} {px pos : Pos} {iter : Expr} {body : List Stmt} {n : Nat} {di : Nat → D} (k : Nat) (J : Nat → Post) (hit : It X A env md mu iter n di) (hx : Kd env x) (h0 : J 0 md mu) (hk : k < n) (hfr : A.frames = some (env :: l))
    (turn : ∀ i md' mu', i < k → J i md' mu' → Ex X A env (upd md' x (di i)) mu' body (J (i + 1)) No (J (i + 1)) (fun _ => False))
    (last : ∀ md' mu', J k md' mu' → ExS X A env l (upd md' x (di k)) mu' body cls) (hs : ∀ x, foldedSetIterable iter env x = pure x := by intro _; rfl) :
    ExR X A env l md mu (.For (.Name x px) iter body [] pos :: rest) cls := by
  refine ⟨fun keep g₀ g s Q E S F u => ?_⟩
  refine wpAny_execs_cons (wpAny_For (hit.run keep g₀ g s _ E S fun I fp P Sw g₁ h₁ tk₁ S₁ x₁ W hcls hitem hsrc ap hst => ?_) hs)
  refine loop_coreR W hcls hx di hitem hsrc S₁ ap hst J h0 hk F hfr turn last fun e h' tk h₂ O hd => ?_
  exact Up.cameBack O hd fun h'' hd' => u e h'' tk (.held O hd')
end

section
variable {X : Cx} {A : Around} {l : List Env}
/-- the frame of a call, at its start -/
theorem call_st {f : Str} {params : Arguments} {body : List Stmt} {scope : Scope} {ds : List D} {mu : Mu} {a : Addr} {o : Obj} {pm code doc : Value} {g : Kn} {s : Shared} {vs : List Value} {R : Result → Shared → Prop} (ns : List Str) (ho : X.h₀.get? a = some o) (hd : o.data = .func (Calls.docDef f params body scope pm code doc)) (hc : X.h₀.CodeRec code f)
    (hroom : A.depth < recursionLimit) (hlen : ns.length = ds.length) (hnd : ns.Nodup)
    (hbind : ∀ pm code doc (vs : List Value), vs.length = ns.length → bindArgs (Calls.docDef f params body scope pm code doc) ⟨vs, []⟩ = pure (ns.zip vs))
    (hkind : (ns.all fun x => scope.names.lookup x == some .local || scope.names.lookup x == some .cell) = true) (kno : Kno X g mu s.heap) (hr : RepAll g vs ds)
    (h : ∀ h₁ tk₁, St X (fenv f scope s.heap.objs.size a code) (fun b => s.heap.get? b) g g h₁ (ns.zip ds) (ro mu) → wpAny (model X.prog X.w) (A.deeper (fenv f scope s.heap.objs.size a code)) (execs body (fenv f scope s.heap.objs.size a code)) (fun fl s' => R (.ok (.ret (match fl with | .ret v => v | _ => .none))) s')
        (fun e s' => wpAny (model X.prog X.w) (A.deeper (fenv f scope s.heap.objs.size a code)) (leaving (fenv f scope s.heap.objs.size a code) e) (fun _ s'' => R (.error e) s'') (fun e' s'' => R (.error e') s'') s') { s with heap := h₁, toks := tk₁ })
    (hco : scope.isCoroutine = false := by rfl) (hgen : scope.isGenerator = false := by rfl) (hk : scope.kind = .function := by rfl) : codeAny (model X.prog X.w) A (.call (.ref a) ⟨vs, []⟩) R s := by
  have b0 : ∀ b o, X.h₀.get? b = some o → s.heap.get? b = some o := fun b o e => kno.kn _ _ (kno.base b o e)
  have hvl : vs.length = ns.length := by rw [hr.length, hlen]
  have hnm := zip_names (vs := vs) hvl.symm
  have kinds : ∀ n, ∀ x ∈ ns.zip vs, scope.names.lookup x.1 = some .local ∨ (scope.names.lookup x.1 = some .cell ∧ ((cellsFrom n scope.names []).lookup x.1).isSome = true) := fun n x hx => by
    have hm : x.1 ∈ ns := by rw [← hnm]; exact List.mem_map_of_mem hx
    have := List.all_eq_true.mp hkind x.1 hm
    rcases Bool.or_eq_true_iff.mp this with q | q
    · exact .inl (by simpa using q)
    · have q' : scope.names.lookup x.1 = some .cell := by simpa using q
      exact .inr ⟨q', cells_some _ _ _ (.inl q')⟩
  refine codeAny_call_cells (fd := Calls.docDef f params body scope pm code doc) (body := body) (binds := ns.zip vs) hroom (b0 _ _ ho) hd (X.T.nolimit.keeps b0) (hc.keeps b0) rfl (hbind pm code doc vs hvl) rfl (kinds _) (fun s₁ x => ?_) hco hgen hk
  obtain ⟨h₁, tk₁, rfl, hk₁⟩ := x.done
  have hL : s.heap.get? s.heap.objs.size = none := fresh_size _
  have gL : ∀ b, s.heap.objs.size ≤ b → g b = none := fun b hb => by
    cases q : g b with
    | none => rfl
    | some o' => exact absurd (Heap.lt_size (kno.kn _ _ q)) (Nat.not_lt.mpr hb)
  have kL : ∀ b, s.heap.objs.size ≤ b → s.heap.get? b = none := fun b hb => by
    cases q : s.heap.get? b with
    | none => rfl
    | some o' => exact absurd (Heap.lt_size q) (Nat.not_lt.mpr hb)
  have mL : ∀ b, s.heap.objs.size ≤ b → ro mu b = none := fun b hb => by
    cases q : ro mu b with
    | none => rfl
    | some y =>
      obtain ⟨_, w', e⟩ := ro_some (wr := y.1) (ds := y.2) q
      obtain ⟨_, us, n, hu, _⟩ := kno.muok b w' _ e
      exact absurd (Heap.lt_size hu) (Nat.not_lt.mpr hb)
  have S : St X (fenv f scope s.heap.objs.size a code) (fun b => s.heap.get? b) g g h₁ (ns.zip ds) (ro mu) := by
    refine ⟨hk, rfl, rfl, kno.base, Ext.refl g, fun b o' e => hk₁ _ _ (kno.kn _ _ e), fun b o' e => hk₁ _ _ e, fun b o' e => .inl e, ⟨_, x.toInCall.ns⟩, hL, gL _ (Nat.le_refl _), mL _ (Nat.le_refl _), fun y hy => ?_, fun _ y z c h1 h2 => ?_, fun y e hy => ?_, fun b wr es e => ?_⟩
    · obtain ⟨c, hcc⟩ := Option.isSome_iff_exists.mp (cells_some (x := y) scope.names (s.heap.objs.size + 1) [] (.inl hy))
      have hab := x.above y c (mem_of_lookup hcc)
      have hab' : s.heap.objs.size < c := hab
      exact ⟨c, _, hcc, x.cell y c hcc, fun _ => kL c (Nat.le_of_lt hab'), gL c (Nat.le_of_lt hab'), mL c (Nat.le_of_lt hab'), Nat.ne_of_gt hab'⟩
    · exact name_of_addr x.apart (mem_of_lookup h1) (mem_of_lookup h2)
    · obtain ⟨v, hv, rv⟩ := zip_rep hr hy
      refine ⟨v, ?_, rv⟩
      rcases kinds (s.heap.objs.size + 1) (y, v) hv with q | ⟨q, q2⟩
      · exact .inl ⟨q, _, x.toInCall.ns, bindL_in _ _ y v (by rw [hnm]; exact hnd) hv q⟩
      · obtain ⟨c, hcc⟩ := Option.isSome_iff_exists.mp q2
        refine .inr ⟨q, c, hcc, ?_⟩
        have hce := x.cell y c hcc
        rw [bindC_in _ _ y v (by rw [hnm]; exact hnd) hv q] at hce
        exact hce
    · obtain ⟨rfl, w', e'⟩ := ro_some e
      obtain ⟨m1, us, n, m3, m4⟩ := kno.muok b w' es e'
      exact ⟨m1, ⟨fun q => (nomatch q), fun q => by rw [m3] at q; cases q⟩, us, n, hk₁ _ _ m3, m4⟩
  exact h h₁ tk₁ S
/-- a def that raises, by its body -/
theorem CallR.of {f : Str} {params : Arguments} {body : List Stmt} {scope : Scope} {ds : List D} {mu : Mu} {cls : Value} (ns : List Str) (hdef : IsDef X f params body scope) (hroom : A.depth < recursionLimit) (hfr : A.frames = some l)
    (hlen : ns.length = ds.length) (hnd : ns.Nodup)
    (hbind : ∀ pm code doc (vs : List Value), vs.length = ns.length → bindArgs (Calls.docDef f params body scope pm code doc) ⟨vs, []⟩ = pure (ns.zip vs))
    (hkind : (ns.all fun x => scope.names.lookup x == some .local || scope.names.lookup x == some .cell) = true)
    (hbody : ∀ L a code, ExR X (A.deeper (fenv f scope L a code)) (fenv f scope L a code) l (ns.zip ds) (ro mu) body cls)
    (hco : scope.isCoroutine = false := by rfl) (hgen : scope.isGenerator = false := by rfl) (hk : scope.kind = .function := by rfl) : CallR X A l f ds mu cls := by
  obtain ⟨a, o, pm, code, doc, hf, ho, hd, hc⟩ := hdef
  refine ⟨⟨a, o, _, hf, ho, hd, fun g s vs Q E kno hr F k => ?_⟩⟩
  refine wpAny_call (call_st ns ho hd hc hroom hlen hnd hbind hkind kno hr (fun h₁ tk₁ S => ?_) hco hgen hk)
  refine (hbody s.heap.objs.size a code).run (fun b => s.heap.get? b) g g _ _ _ S F fun e h' tk up => ?_
  exact Up.leaves up F (Around.frames_deeper hfr) fun h'' fl => k e h'' tk fl
end
end Mine

namespace Mine
open PySem PyProof.Rows PySem.W

/-- what is so behind a call that may have caught an exception: the frames of l may have been touched -/
structure AftT (l : List Env) (g : Kn) (h : Heap) (g' : Kn) (h' : Heap) : Prop where
  keep : ∀ b o, h.get? b = some o → b ∉ frs l → h'.get? b = some o
  slots : h.UpToSlots h'
  ext : Ext g g'
  kn : ∀ a o, g' a = some o → h'.get? a = some o
  fresh : ∀ a o, g' a = some o → g a = some o ∨ h.get? a = none
structure CallT (X : Cx) (A : Around) (l : List Env) (f : Str) (ds : List D) (mu : Mu) (d : D) : Prop where
  run : ∃ a o fd, X.mg f = some (.ref a) ∧ X.h₀.get? a = some o ∧ o.data = .func fd ∧
    ∀ (g : Kn) (s : Shared) (vs : List Value) (Q : Value → Shared → Prop) (E : Value → Shared → Prop), Kno X g mu s.heap → RepAll g vs ds → FrsK (fun b => s.heap.get? b) l → (∀ b ∈ frs l, g b = none) →
      (∀ v g' h' tk, AftT l g s.heap g' h' → Rep g' v d → Q v { s with heap := h', toks := tk }) → wpAny (model X.prog X.w) A (PySem.call (.ref a) vs) Q E s
theorem CallD.t {X : Cx} {A : Around} {f : Str} {ds : List D} {mu : Mu} {d : D} (l : List Env) (h : CallD X A f ds mu d) : CallT X A l f ds mu d := by
  obtain ⟨a, o, fd, h1, h2, h3, h4⟩ := h.run
  exact ⟨⟨a, o, fd, h1, h2, h3, fun g s vs Q E kno hr F hg k => h4 g s vs Q E kno hr fun v g' h' tk af r => k v g' h' tk ⟨fun b o e _ => af.keep b o e, Heap.UpToSlots.of_keeps af.keep, af.ext, af.kn, af.fresh⟩ r⟩⟩

section
variable {X : Cx} {A : Around} {env : Env} {md : Md} {mu : Mu}
theorem St.aftT {keep g₀ g g' : Kn} {h h' : Heap} (S : St X env keep g₀ g h md mu) (hf : env.frame = some env.locals) (x : AftT [env] g h g' h') : St X env keep g₀ g' h' md mu := by
  have no : ∀ a, g a = none → ∀ o, h.get? a = some o → g' a = none := fun a ha o ho => by
    cases q : g' a with
    | none => rfl
    | some o' =>
      rcases x.fresh a o' q with e | e
      · rw [ha] at e; cases e
      · rw [ho] at e; cases e
  have hk : ∀ b o, b ≠ env.locals → h.get? b = some o → h'.get? b = some o := fun b o hb e => x.keep b o e (by rw [frs, List.filterMap_cons, hf]; simpa using hb)
  have hv : ∀ y v, HasVar env h y v → HasVar env h' y v := by
    rintro y v (⟨k, m, hn, hm⟩ | ⟨k, c, hc, hv⟩)
    · exact .inl ⟨k, m, x.slots.ns hn, hm⟩
    · obtain ⟨c', _, k1, _, _, _, _, k6⟩ := S.cells y k
      rw [hc] at k1; cases k1
      obtain ⟨o, ho, hd⟩ := hv
      exact .inr ⟨k, c, hc, o, hk _ _ k6 ho, hd⟩
  refine ⟨S.kind, S.glob, S.blt, fun a o e => x.ext _ _ (S.base a o e), S.ext.trans x.ext, x.kn, fun a o e => hk _ _ (by rintro rfl; rw [S.offk] at e; cases e) (S.kp a o e), fun a o e => ?_, ?_, S.offk, ?_, S.offm, fun y hy => ?_, S.inj, fun y d e => ?_, fun a wr ds e => ?_⟩
  · rcases x.fresh a o e with e' | e'
    · exact S.fresh a o e'
    · right
      cases q : keep a with
      | none => rfl
      | some o' => rw [S.kp a o' q] at e'; cases e'
  · obtain ⟨m, hm⟩ := S.loc; exact ⟨m, x.slots.ns hm⟩
  · obtain ⟨m, o, _, _, ho, _⟩ := S.loc; exact no _ S.offg o ho
  · obtain ⟨c, vo, h1, ⟨o, ho, hd⟩, h3, h4, h5, h6⟩ := S.cells y hy
    exact ⟨c, vo, h1, ⟨o, hk _ _ h6 ho, hd⟩, h3, no c h4 o ho, h5, h6⟩
  · obtain ⟨v, hv', hr⟩ := S.vars y d e
    exact ⟨v, hv y v hv', hr.mono x.ext⟩
  · obtain ⟨h1, h2, vs, n, h3, h4⟩ := S.muok a wr ds e
    exact ⟨no a h1 _ h3, h2, vs, n, hk _ _ (by rintro rfl; rw [S.offm] at e; cases e) h3, h4.mono x.ext⟩
/-- a def that may catch, called in the outermost frame -/
theorem Ev.callT {f : Str} {np pos : Pos} {e : Expr} {es : List Expr} {ds : List D} {d : D} (hc : CallT X A [env] f ds mu d) (hes : EvAll X A env md mu (e :: es) ds) (hf : env.kindOf f = some .globalImplicit)
    (hfr : env.frame = some env.locals := by rfl) (hn : starEach (e :: es) env = (false, eval e env) :: starEach es env := by rfl) (hd : (f == ("__debug__" : Str)) = false := by decide) :
    Ev X A env md mu (.Call (.Name f np) (e :: es) [] pos) d := by
  obtain ⟨a, o, fd, hg, ho, hdat, hcall⟩ := hc.run
  refine ⟨fun keep g₀ g s Q E S k => ?_⟩
  have b0 : ∀ b o, X.h₀.get? b = some o → s.heap.get? b = some o := fun b o e => S.kn _ _ (S.base b o e)
  refine wpAny_Call_ofName (Calls.Name_function_global S.kind hf (Calls.loadGlobal_global (mg := X.mg) (by rw [S.glob]; exact X.T.g.keeps b0) hg ?_) hd)
  show wpAny _ _ (callWith pos (.ref a) [] (backTo pos (starEach (e :: es) env)) []) _ _ _
  refine Calls.callWith_function (o := o) (fd := fd) ?_
  rw [hn]
  show wpAny _ _ (evalArgs (.ref a) true ((false, eval e env) :: backTo pos (starEach es env)) []) _ _ _
  refine Calls.evalArgs_plain ?_
  have := hes.run pos keep g₀ g s
  rw [hn] at this
  refine this _ E S fun vs g₁ h₁ tk₁ S₁ x₁ r₁ => ?_
  refine ⟨⟨S₁.kn _ _ (S₁.base _ _ ho), hdat⟩, ?_⟩
  show wpAny _ _ (PySem.call (.ref a) ([] ++ vs) []) _ _ _
  rw [List.nil_append]
  refine hcall g₁ _ vs _ _ S₁.kno r₁ ((S₁.old hfr).frsK fun _ he => nomatch he) (fun b hb => ?_) fun v g₂ h₂ tk₂ af rv => k v g₂ h₂ tk₂ (S₁.aftT hfr af) (x₁.trans af.ext) rv
  rw [frs, List.filterMap_cons, hfr] at hb
  simp only [List.filterMap_nil, List.mem_singleton] at hb
  subst hb; exact S₁.offg
variable {N B C : Post} {R : D → Prop} {rest : List Stmt}
/-- try: nothing is raised -/
theorem Ex.tryN {body : List Stmt} {h₀ : ExceptHandler} {hs : List ExceptHandler} {pos : Pos} {P : Post} (h : Ex X A env md mu body P No No (fun _ => False)) (k : ∀ md' mu', P md' mu' → Ex X A env md' mu' rest N B C R) :
    Ex X A env md mu (.Try body (h₀ :: hs) [] [] pos :: rest) N B C R := by
  refine ⟨fun keep g₀ g s Q E S n b c r => wpAny_execs_cons (wpAny_Try_except ?_)⟩
  refine h.run keep g₀ g s _ _ S (fun md' mu' g' h' tk hm S' => ?_) (fun md' mu' g' h' tk hm S' => hm.elim) (fun md' mu' g' h' tk hm S' => hm.elim) fun d v g' h' tk hm S' rv => hm.elim
  refine wpAny_execs_nil ?_
  exact (k md' mu' hm).run keep g₀ g' _ Q E S' (fun md' mu' g' h' tk => n md' mu' g' h' tk) (fun md' mu' g' h' tk => b md' mu' g' h' tk) (fun md' mu' g' h' tk => c md' mu' g' h' tk) fun d v g' h' tk => r d v g' h' tk
end

section
variable {X : Cx} {A : Around} {l : List Env}
/-- a def that tries a thing which raises, and answers with a word -/
theorem CallT.caught {f : Str} {params : Arguments} {tb rest : List Stmt} {scope : Scope} {ds : List D} {mu : Mu} {x t : Str} {C : Addr} {np rp hp tp kp : Pos} {ck : Nat} (ns : List Str)
    (hdef : IsDef X f params (.Try tb [.ExceptHandler (some (.Name x np)) none [.Return (some (.Constant (.str t) ck kp)) rp] hp] [] [] tp :: rest) scope) (O : Own X x C) (hroom : A.depth < recursionLimit) (hfr : A.frames = some l)
    (hlen : ns.length = ds.length) (hnd : ns.Nodup)
    (hbind : ∀ pm code doc (vs : List Value), vs.length = ns.length → bindArgs (Calls.docDef f params (.Try tb [.ExceptHandler (some (.Name x np)) none [.Return (some (.Constant (.str t) ck kp)) rp] hp] [] [] tp :: rest) scope pm code doc) ⟨vs, []⟩ = pure (ns.zip vs))
    (hkind : (ns.all fun x => scope.names.lookup x == some .local || scope.names.lookup x == some .cell) = true) (hx : scope.names.lookup x = some .globalImplicit)
    (htry : ∀ L a code, ExS X (A.deeper (fenv f scope L a code)) (fenv f scope L a code) l (ns.zip ds) (ro mu) tb (.ref C)) (hdb : (x == ("__debug__" : Str)) = false := by decide)
    (hco : scope.isCoroutine = false := by rfl) (hgen : scope.isGenerator = false := by rfl) (hk : scope.kind = .function := by rfl) : CallT X A l f ds mu (.str t) := by
  obtain ⟨a, o, pm, code, doc, hf, ho, hd, hc⟩ := hdef
  refine ⟨⟨a, o, _, hf, ho, hd, fun g s vs Q E kno hr F hg k => ?_⟩⟩
  refine wpAny_call (call_st ns ho hd hc hroom hlen hnd hbind hkind kno hr (fun h₁ tk₁ S => ?_) hco hgen hk)
  refine wpAny_execs_cons (wpAny_Try_except ?_)
  refine (htry s.heap.objs.size a code).run (fun b => s.heap.get? b) g g _ _ _ S F fun e h₂ h' tk Od fl => ?_
  obtain ⟨B, t', x1, x2, x3⟩ := fl
  refine wpAny_looks_onW (Around.frames_deeper hfr) rfl x1 fun h₄ hheld₄ hsm₄ => ?_
  refine wpAny_landsW hheld₄ fun h₅ hheld hsm₅ => ?_
  have keepH : ∀ h₆ : Heap, B.StaysIn h₆ → ∀ b o, s.heap.get? b = some o → b ∉ frs l → h₆.get? b = some o := fun h₆ st b o e hb => st b o (x2 b o (Od.kp b o e) (not_frs_cons Od hb e))
  have hbase : ∀ h₆ : Heap, B.StaysIn h₆ → ∀ b o, g b = some o → h₆.get? b = some o := fun h₆ st b o e => keepH h₆ st b o (kno.kn _ _ e) fun hb => by rw [hg b hb] at e; cases e
  have b5 : ∀ b o, X.h₀.get? b = some o → h₅.get? b = some o := fun b o e => hbase h₅ hheld.1 b o (kno.base b o e)
  refine handleBy_own (C := C) (x := x) (mg := X.mg) (newId := "Exception.__new__") PySem.F.excBase_Exception.hasBase ?_
  refine Calls.Name_function_global hk hx (Calls.loadGlobal_global (mg := X.mg) (X.T.g.keeps b5) O.bound ⟨rfl, O.keeps b5, hheld.there, ?_⟩) hdb
  refine lands_againW hheld fun h₆ hfl₆ hsm₆ => ?_
  refine wpAny_execs_cons (wpAny_Return_some (Calls.Constant_str ?_))
  refine k _ g h₆ _ ⟨keepH h₆ hfl₆.1, ?_, Ext.refl g, hbase h₆ hfl₆.1, fun a o e => .inl e⟩ (.str t _)
  exact ((((Heap.UpToSlots.of_keeps Od.kp).trans x3).trans hsm₄).trans hsm₅).trans hsm₆
end
end Mine

namespace Mine
open PySem PyProof.Rows PySem.W

section
variable {X : Cx} {A : Around} {env : Env} {md : Md} {mu : Mu} {N B C : Post} {R : D → Prop} {rest : List Stmt}
/-- two lists put together: a new list -/
theorem EvF.cat {l r : Expr} {pos : Pos} {a b : List D} (ha : Ev X A env md mu l (.lst a)) (hb : Ev X A env md mu r (.lst b)) (hsz : a.length + b.length ≤ sizeLine) :
    EvF X A env md mu (.BinOp l .Add r pos) (a ++ b) := by
  refine ⟨fun keep g₀ g s Q E S k => ?_⟩
  refine wpAny_BinOp (ha.run keep g₀ g s _ E S fun u g₁ h₁ tk₁ S₁ x₁ ru => ?_)
  refine hb.run keep g₀ g₁ _ _ E S₁ fun v g₂ h₂ tk₂ S₂ x₂ rv => ?_
  obtain ⟨p, us, n, rfl, hp, rp⟩ := (ru.mono x₂).isL S₂
  obtain ⟨q, vs, m, rfl, hq, rq⟩ := rv.isL S₂
  refine P.add_list hp hq ?_ (by rw [List.size_toArray, List.size_toArray, rp.length, rq.length]; exact hsz)
  have e : us.toArray ++ vs.toArray = (us ++ vs).toArray := by simp
  rw [e]
  have ap := S₂.fresh_apart (fresh_size h₂)
  exact k _ g₂ _ tk₂ ap.m (S₂.allocMu (rp.append rq)) (x₁.trans x₂)
/-- the head of a list: a new list -/
theorem EvF.upto {value e : Expr} {b : Int} {p pos : Pos} {dv : D} {ds : List D} (h : Ev X A env md mu value dv) (q : Sq mu dv ds) (he : Ev X A env md mu e (.int b)) (h0 : 0 ≤ b) (hsz : ds.length ≤ sizeLine) :
    EvF X A env md mu (.Subscript value (.Slice none (some e) none p) pos) (ds.take b.toNat) := by
  refine ⟨fun keep g₀ g s Q E S kk => ?_⟩
  refine Subscript_ (h.run keep g₀ g s _ E S fun v g₁ h₁ tk₁ S₁ x₁ r₁ => ?_)
  refine wpAny_Slice ((show EvOpt X A env md mu none none from trivial).part keep g₀ g₁ _ _ E S₁ fun vl g₂ h₂ tk₂ S₂ x₂ p₂ => (show EvOpt X A env md mu (some e) (some b) from he).part keep g₀ g₂ _ _ E S₂ fun vu g₃ h₃ tk₃ S₃ x₃ p₃ => ?_)
  rw [evalPart_none]
  refine wpAny_pure ?_
  have r₃ := r₁.mono (x₂.trans x₃)
  have S₄ := S₃.push { cls := .type "slice", data := .fields #[vl, vu, .none] }
  obtain ⟨a, vs, n, rfl, hl, hr⟩ := q.isL S₄ r₃
  refine tail_any hl.isList.typeIs slot_list_getitem.lookup (wpAny_getItem_list_slice hl.isList (Heap.IsSliceOf.new ..) p₂ p₃ .none (by simp) ?_ (by rw [List.size_toArray, hr.length]; exact hsz)) rfl
  have he : slicePick vs.toArray none (some b) none = (vs.take b.toNat).toArray := by
    obtain ⟨n, rfl⟩ := Int.eq_ofNat_of_zero_le h0
    exact slicePick_upto' vs.toArray n
  rw [he]
  have ap := S₄.fresh_apart (fresh_size _)
  exact kk _ g₃ _ tk₃ ap.m (S₄.allocMu (hr.take _)) ((x₁.trans x₂).trans x₃)
/-- a triple whose last part is a new list that is to be written on -/
theorem Ex.assignTupF {x : Str} {p tp pos : Pos} {k : Nat} {e₁ e₂ e₃ : Expr} {d₁ d₂ : D} {ds : List D} (h1 : Ev X A env md mu e₁ d₁) (h2 : Ev X A env md mu e₂ d₂) (h3 : EvF X A env md mu e₃ ds) (hx : Kd env x)
    (h : ∀ a, mu a = none → Ex X A env (upd md x (.tup [d₁, d₂, .ptr a])) (mput mu a (true, ds)) rest N B C R) (hs : swapsWith (.Tuple [e₁, e₂, e₃] k tp) (some (.Name x p)) pos.line env = pure false := by rfl)
    (hn : starEach [e₁, e₂, e₃] env = [(false, eval e₁ env), (false, eval e₂ env), (false, eval e₃ env)] := by rfl) :
    Ex X A env md mu (.Assign [.Name x p] (.Tuple [e₁, e₂, e₃] k tp) pos :: rest) N B C R := by
  refine ⟨fun keep g₀ g s Q E S n b c r => ?_⟩
  refine wpAny_execs_cons (wpAny_Assign_Name (Tuple_ ?_) hs)
  rw [hn]
  refine Calls.spliced_cons (h1.run keep g₀ g s _ E S fun v₁ g₁ h₁ tk₁ S₁ x₁ r₁ => ?_)
  refine Calls.spliced_cons (h2.run keep g₀ g₁ _ _ E S₁ fun v₂ g₂ h₂ tk₂ S₂ x₂ r₂ => ?_)
  refine Calls.spliced_cons (h3.run keep g₀ g₂ _ _ E S₂ fun a g₃ h₃ tk₃ ha S₃ x₃ => Calls.spliced_nil ?_)
  refine wpAny_newTuple ?_ (by simp [sizeLine])
  have S₄ := S₃.alloc (tupO [v₁, v₂, .ref a] 0)
  have x₄ := put_ext (o := tupO [v₁, v₂, .ref a] 0) S₃.free_size
  refine store_upd S₄ (.tup put_self (.cons (r₁.mono ((x₂.trans x₃).trans x₄)) (.cons (r₂.mono (x₃.trans x₄)) (.cons (.ptr a) .nil)))) hx fun h₅ tk₅ S₅ => ?_
  exact (h a ha).run keep g₀ _ _ Q E S₅ (fun md' mu' g' h' tk => n md' mu' g' h' tk) (fun md' mu' g' h' tk => b md' mu' g' h' tk) (fun md' mu' g' h' tk => c md' mu' g' h' tk) fun d v g' h' tk => r d v g' h' tk
/-- the last part of a triple is written on no more -/
theorem Ex.freezeIn {x : Str} {a : Addr} {d₁ d₂ : D} {ds : List D} {ss : List Stmt} (hx : md.lookup x = some (.tup [d₁, d₂, .ptr a])) (ha : mu a = some (true, ds)) (h : Ex X A env (upd md x (.tup [d₁, d₂, .lst ds])) (mdel mu a) ss N B C R) : Ex X A env md mu ss N B C R := by
  refine ⟨fun keep g₀ g s Q E S n b c r => ?_⟩
  obtain ⟨g', S', x', rr⟩ := S.freeze ha
  refine h.run keep g₀ g' s Q E { S' with vars := fun y e q => ?_ } n b c r
  rw [lookup_upd] at q
  by_cases hy : y = x
  · subst hy; rw [if_pos rfl] at q; cases q
    obtain ⟨v, hv, rv⟩ := S'.vars y _ hx
    refine ⟨v, hv, ?_⟩
    cases rv with
    | tup he hr =>
      cases hr with
      | cons r1 hr => cases hr with
        | cons r2 hr => cases hr with
          | cons r3 hr =>
            cases hr
            cases r3
            exact .tup he (.cons r1 (.cons r2 (.cons rr .nil)))
  · rw [if_neg hy] at q; exact S'.vars y e q
end
end Mine

namespace Mine
open PySem PyProof.Rows
local macro_rules | `(tactic| walk_at "sz") => `(tactic| (first | assumption | decide | (simp only [List.length_append, List.length_take, List.length_drop, List.length_cons, List.length_nil, List.length_map, List.length_range, List.length_replicate, sizeLine] <;> omega) | (simp [sizeLine] <;> omega)))
local macro_rules | `(tactic| walk_at "kd") => `(tactic| first | exact .inl rfl | exact .inr ⟨rfl, rfl⟩)
local macro_rules | `(tactic| walk_at "evs") => `(tactic| first | exact EvAll.nil | (refine' EvAll.cons ?h1 ?h2; (case h1 => walk_at "ev"); (case h2 => walk_at "evs")))
local macro_rules | `(tactic| walk_at "call") => `(tactic| fail "no call")
local macro_rules | `(tactic| walk_at "at") => `(tactic| assumption)
local macro_rules | `(tactic| walk_at "ev") => `(tactic| first
  | exact Ev.name rfl
  | exact Ev.cint
  | exact Ev.cstr
  | exact Ev.cnone
  | exact Ev.cbool
  | (refine' Ev.item_tup ?h1 (by decide) (by decide) ?h2; (case h1 => walk_at "ev"); (case h2 => rfl))
  | (refine' Ev.upto ?h1 Sq.lst ?h2 ?h3 ?h4; (case h1 => walk_at "ev"); (case h2 => walk_at "ev"); (case h3 => omega); (case h4 => walk_at "sz"))
  | (refine' Ev.from ?h1 Sq.lst ?h2 ?h3 ?h4; (case h1 => walk_at "ev"); (case h2 => walk_at "ev"); (case h3 => omega); (case h4 => walk_at "sz"))
  | (refine' Ev.item ?h1 Sq.lst ?h2 ?h3 ?h4 ?h5; (case h1 => walk_at "ev"); (case h2 => walk_at "ev"); (case h3 => omega); (case h4 => omega); (case h5 => walk_at "at"))
  | (refine' Ev.add ?h1 ?h2; (case h1 => walk_at "ev"); (case h2 => walk_at "ev"))
  | (refine' Ev.sub ?h1 ?h2; (case h1 => walk_at "ev"); (case h2 => walk_at "ev"))
  | (refine' Ev.mul ?h1 ?h2 ?h3; (case h1 => walk_at "ev"); (case h2 => walk_at "ev"); (case h3 => exact mulOk (by omega) (by omega)))
  | (refine' Ev.mod ?h1 ?h2 ?h3; (case h1 => walk_at "ev"); (case h2 => walk_at "ev"); (case h3 => omega))
  | (refine' Ev.cat ?h1 ?h2 ?h3; (case h1 => walk_at "ev"); (case h2 => walk_at "ev"); (case h3 => walk_at "sz"))
  | (refine' Ev.tup ?h1 ?h2; (case h1 => walk_at "evs"); (case h2 => walk_at "sz"))
  | (refine' Ev.lst ?h1 ?h2; (case h1 => walk_at "evs"); (case h2 => walk_at "sz"))
  | (refine' Ev.rep1 ?h1 ?h2 ?h3 ?h4; (case h1 => walk_at "ev"); (case h2 => walk_at "ev"); (case h3 => omega); (case h4 => omega))
  | (refine' Ev.call ?h1 ?h2 ?h3; (case h2 => walk_at "evs"); (case h1 => walk_at "call"); (case h3 => rfl))
  | fail "no ev")
local macro_rules | `(tactic| walk_at "asg") => `(tactic| (refine' Ex.assign ?he ?hx ?hk; (case he => walk_at "ev"); (case hx => walk_at "kd")))
local macro_rules | `(tactic| walk_at "cmd") => `(tactic| (first | exact trivial | (refine' ⟨⟨rfl, rfl, rfl⟩, ?_⟩; walk_at "cmd")))
local macro_rules | `(tactic| walk_at "subs") => `(tactic| (first | exact trivial | (refine' ⟨rfl, ?_⟩; walk_at "subs")))
local macro_rules | `(tactic| walk_at "sub") => `(tactic| (refine' Sub.ofL ?_; walk_at "subs"))
abbrev pw := PySem.Challenge.pw_pd_canopy_3_03
abbrev I (l : List Int) : List D := l.map .int
/-- a leaf -/
def leafD (ks vs : List Int) : D := .tup [.lst (I ks), .lst (I vs), .lst []]
/-- a link of the chain: its pairs, a leaf besides -/
structure Lk where
  ks : List Int
  vs : List Int
  ex : Option (List Int × List Int)
def exl (l : Lk) : List D := match l.ex with | none => [] | some p => [leafD p.1 p.2]
def Lk.c (l : Lk) : Int := match l.ex with | none => 1 | some _ => 2
def rcd (ks vs : List Int) (c : Int) : List Int := (ks.length : Int) :: (ks ++ vs ++ [c])
def exr (l : Lk) : List Int := match l.ex with | none => [] | some p => rcd p.1 p.2 0
def flatL (l : Lk) : List Int := rcd l.ks l.vs l.c ++ exr l
def flats : List Lk → List Int
  | [] => []
  | l :: r => flatL l ++ flats r
def upD (l : Lk) (b : D) : D := .tup [.lst (I l.ks), .lst (I l.vs), .lst (exl l ++ [b])]
def nestD : List Lk → D → D
  | [], b => b
  | l :: r, b => upD l (nestD r b)
structure Wf (l : Lk) : Prop where
  len : l.ks.length = l.vs.length
  few : l.ks.length ≤ 2
  elen : ∀ p, l.ex = some p → p.1.length = p.2.length ∧ p.1.length ≤ 2
theorem flats_append (a b : List Lk) : flats (a ++ b) = flats a ++ flats b := by
  induction a with
  | nil => rfl
  | cons l a ih => rw [List.cons_append, flats, flats, ih, List.append_assoc]
theorem nestD_append (a b : List Lk) (x : D) : nestD (a ++ b) x = nestD a (nestD b x) := by
  induction a with
  | nil => rfl
  | cons l a ih => rw [List.cons_append, nestD, nestD, ih]
theorem rec_len (ks vs : List Int) (c : Int) : (rcd ks vs c).length = ks.length + vs.length + 2 := by simp [rcd]; omega
theorem I_len (l : List Int) : (I l).length = l.length := List.length_map ..
/-- where the parts of a record lie -/
structure At (ds : List D) (p : Nat) (ks vs : List Int) (c : Int) : Prop where
  n : ds[p]? = some (.int ks.length)
  k : (ds.drop (p + 1)).take ks.length = I ks
  v : (ds.drop (p + 1 + ks.length)).take vs.length = I vs
  c : ds[p + 1 + ks.length + vs.length]? = some (.int c)
  sz : p + ks.length + vs.length + 2 ≤ ds.length
theorem dropL {a b : List D} {n : Nat} (h : n = a.length) : (a ++ b).drop n = b := by subst h; simp
theorem takeL {a b : List D} {n : Nat} (h : n = a.length) : (a ++ b).take n = a := by subst h; simp
theorem getL {a b : List D} {x : D} {n : Nat} (h : n = a.length) : (a ++ x :: b)[n]? = some x := by subst h; simp
theorem at_of (pre ks vs post : List Int) (c : Int) : At (I (pre ++ (rcd ks vs c ++ post))) pre.length ks vs c := by
  have e : I (pre ++ (rcd ks vs c ++ post)) = I pre ++ (.int ks.length :: (I ks ++ (I vs ++ (.int c :: I post)))) := by simp [I, rcd]
  have e1 : I (pre ++ (rcd ks vs c ++ post)) = (I pre ++ [.int ks.length]) ++ (I ks ++ (I vs ++ (.int c :: I post))) := by simp [I, rcd]
  have e2 : I (pre ++ (rcd ks vs c ++ post)) = (I pre ++ [.int ks.length] ++ I ks) ++ (I vs ++ (.int c :: I post)) := by simp [I, rcd]
  have e3 : I (pre ++ (rcd ks vs c ++ post)) = (I pre ++ [.int ks.length] ++ I ks ++ I vs) ++ (.int c :: I post) := by simp [I, rcd]
  refine ⟨?_, ?_, ?_, ?_, ?_⟩
  · rw [e]; exact getL (by simp)
  · rw [e1, dropL (by simp)]; exact takeL (by simp)
  · rw [e2, dropL (by simp; omega)]; exact takeL (by simp)
  · rw [e3]; exact getL (by simp; omega)
  · rw [I_len, List.length_append, List.length_append, rec_len]; omega

def forBody : List Stmt → List Stmt
  | [] => []
  | .For _ _ body _ _ :: _ => body
  | _ :: r => forBody r
abbrev lbod : List Stmt := forBody (bodOf pw "unflatten")
abbrev uenv (L a : Addr) (code : Value) : Env := fenv "unflatten" (scoOf pw "unflatten") L a code
/-- the names between the turns -/
abbrev unm (ds : List D) (p : Nat) (sa : Addr) : Md := [("pos", .int p), ("stack", .ptr sa), ("root", .none), ("problem", .none), ("data", .lst ds)]
def entry (z : Addr × Lk) : D := .tup [.tup [.lst (I z.2.ks), .lst (I z.2.vs), .ptr z.1], .int z.2.c]
def Bad : Post := fun md _ => ∃ w, Sub [("problem", .str w)] md
section
variable {X : Cx} {A : Around} {L a : Addr} {code : Value} {mu : Mu} {ds : List D} {p : Nat} {sa : Addr} {es : List D} {i : D} {N C Bk : Post} {R : D → Prop}
/-- data at its end: refused -/
theorem t_end (bl : Blts X) (hs : ds.length ≤ 1000) (hp : ds.length ≤ p) (hb : ∀ md mu, Bad md mu → Bk md mu) : Ex X A (uenv L a code) (upd (unm ds p sa) "_" i) mu lbod N Bk C R := by
  refine Ex.ifT (Ts.is (Ts.cmp (Ev.name rfl) (Ev.len bl.len (Ev.name rfl) Sq.lst rfl (by simp [sizeLine]; omega)) Cm.ge) (decide_eq_true (by omega))) ?_
  walk_at "asg"
  exact Ex.brk (hb _ _ ⟨_, by walk_at "sub"⟩)
abbrev lbod7 : List Stmt := lbod.drop 7
abbrev rdm (ds : List D) (p : Nat) (sa : Addr) (i node : D) (k c : Int) (q : Nat) : Md := ("pos", .int q) :: ("c", .int c) :: ("node", node) :: ("n", .int k) :: ("_", i) :: unm ds p sa
/-- a record is read, its third part a list that nobody will write on -/
theorem t_read {ks vs : List Int} {c : Int} (bl : Blts X) (hs : ds.length ≤ 1000) (H : At ds p ks vs c) (hl : ks.length = vs.length) (h : Ex X A (uenv L a code) (rdm ds p sa i (leafD ks vs) ks.length c (p + ks.length + vs.length + 2)) mu lbod7 N Bk C R) :
    Ex X A (uenv L a code) (upd (unm ds p sa) "_" i) mu lbod N Bk C R := by
  have hsz := H.sz
  have sz : ds.length ≤ sizeLine := by simp [sizeLine]; omega
  refine Ex.ifF (Ts.is (Ts.cmp (Ev.name rfl) (Ev.len bl.len (Ev.name rfl) Sq.lst rfl sz) Cm.ge) (decide_eq_false (by omega))) ?_
  refine Ex.assign (Ev.item (Ev.name rfl) Sq.lst (Ev.name rfl) (by omega) (by omega) H.n) (by walk_at "kd") ?_
  refine Ex.ifF (Ts.is (Ts.cmp (Ev.name rfl) Ev.cint Cm.lt) (decide_eq_false (by omega))) ?_
  refine Ex.ifF (Ts.is (Ts.cmp (Ev.add (Ev.add (Ev.name rfl) (Ev.mul Ev.cint (Ev.name rfl) (mulOk (by decide) (by decide)))) Ev.cint) (Ev.len bl.len (Ev.name rfl) Sq.lst rfl sz) Cm.ge) (decide_eq_false (by omega))) ?_
  refine Ex.assign (d := leafD ks vs) (Ev.tup (EvAll.cons (Ev.is (Ev.between (Ev.name rfl) Sq.lst (Ev.add (Ev.name rfl) Ev.cint) (Ev.add (Ev.add (Ev.name rfl) Ev.cint) (Ev.name rfl)) (by omega) (by omega) (by omega) sz) ?_)
    (EvAll.cons (Ev.is (Ev.between (Ev.name rfl) Sq.lst (Ev.add (Ev.add (Ev.name rfl) Ev.cint) (Ev.name rfl)) (Ev.add (Ev.add (Ev.name rfl) Ev.cint) (Ev.mul Ev.cint (Ev.name rfl) (mulOk (by decide) (by decide)))) (by omega) (by omega) (by omega) sz) ?_) (by walk_at "evs")))) (by walk_at "kd") ?_
  · rw [show ((p : Int) + 1).toNat = p + 1 by omega, show ((p : Int) + 1 + (ks.length : Int) - ((p : Int) + 1)).toNat = ks.length by omega, H.k]
  · rw [show ((p : Int) + 1 + (ks.length : Int)).toNat = p + 1 + ks.length by omega, show ((p : Int) + 1 + 2 * (ks.length : Int) - ((p : Int) + 1 + (ks.length : Int))).toNat = vs.length by omega, H.v]
  refine Ex.assign (d := .int c) (Ev.item (Ev.name rfl) Sq.lst (Ev.add (Ev.add (Ev.name rfl) Ev.cint) (Ev.mul Ev.cint (Ev.name rfl) (mulOk (by decide) (by decide)))) (by omega) (by omega) ?_) (by walk_at "kd") ?_
  · rw [show ((p : Int) + 1 + 2 * (ks.length : Int)).toNat = p + 1 + ks.length + vs.length by omega]; exact H.c
  refine Ex.assign (Ev.is (d' := .int ((p + ks.length + vs.length + 2 : Nat) : Int)) (Ev.add (Ev.add (Ev.name rfl) (Ev.mul Ev.cint (Ev.name rfl) (mulOk (by decide) (by decide)))) Ev.cint) ?_) (by walk_at "kd") h
  congr 1; omega
/-- a record is read, its third part a list that will be written on -/
theorem t_readP {ks vs : List Int} {c : Int} (bl : Blts X) (hs : ds.length ≤ 1000) (H : At ds p ks vs c) (hl : ks.length = vs.length) (h : ∀ b, mu b = none → Ex X A (uenv L a code) (rdm ds p sa i (.tup [.lst (I ks), .lst (I vs), .ptr b]) ks.length c (p + ks.length + vs.length + 2)) (mput mu b (true, [])) lbod7 N Bk C R) :
    Ex X A (uenv L a code) (upd (unm ds p sa) "_" i) mu lbod N Bk C R := by
  have hsz := H.sz
  have sz : ds.length ≤ sizeLine := by simp [sizeLine]; omega
  refine Ex.ifF (Ts.is (Ts.cmp (Ev.name rfl) (Ev.len bl.len (Ev.name rfl) Sq.lst rfl sz) Cm.ge) (decide_eq_false (by omega))) ?_
  refine Ex.assign (Ev.item (Ev.name rfl) Sq.lst (Ev.name rfl) (by omega) (by omega) H.n) (by walk_at "kd") ?_
  refine Ex.ifF (Ts.is (Ts.cmp (Ev.name rfl) Ev.cint Cm.lt) (decide_eq_false (by omega))) ?_
  refine Ex.ifF (Ts.is (Ts.cmp (Ev.add (Ev.add (Ev.name rfl) (Ev.mul Ev.cint (Ev.name rfl) (mulOk (by decide) (by decide)))) Ev.cint) (Ev.len bl.len (Ev.name rfl) Sq.lst rfl sz) Cm.ge) (decide_eq_false (by omega))) ?_
  refine Ex.assignTupF (Ev.is (d' := .lst (I ks)) (Ev.between (Ev.name rfl) Sq.lst (Ev.add (Ev.name rfl) Ev.cint) (Ev.add (Ev.add (Ev.name rfl) Ev.cint) (Ev.name rfl)) (by omega) (by omega) (by omega) sz) ?_)
    (Ev.is (d' := .lst (I vs)) (Ev.between (Ev.name rfl) Sq.lst (Ev.add (Ev.add (Ev.name rfl) Ev.cint) (Ev.name rfl)) (Ev.add (Ev.add (Ev.name rfl) Ev.cint) (Ev.mul Ev.cint (Ev.name rfl) (mulOk (by decide) (by decide)))) (by omega) (by omega) (by omega) sz) ?_) (EvF.lst EvAll.nil) (by walk_at "kd") fun b hb => ?_
  · rw [show ((p : Int) + 1).toNat = p + 1 by omega, show ((p : Int) + 1 + (ks.length : Int) - ((p : Int) + 1)).toNat = ks.length by omega, H.k]
  · rw [show ((p : Int) + 1 + (ks.length : Int)).toNat = p + 1 + ks.length by omega, show ((p : Int) + 1 + 2 * (ks.length : Int) - ((p : Int) + 1 + (ks.length : Int))).toNat = vs.length by omega, H.v]
  refine Ex.assign (d := .int c) (Ev.item (Ev.name rfl) Sq.lst (Ev.add (Ev.add (Ev.name rfl) Ev.cint) (Ev.mul Ev.cint (Ev.name rfl) (mulOk (by decide) (by decide)))) (by omega) (by omega) ?_) (by walk_at "kd") ?_
  · rw [show ((p : Int) + 1 + 2 * (ks.length : Int)).toNat = p + 1 + ks.length + vs.length by omega]; exact H.c
  refine Ex.assign (Ev.is (d' := .int ((p + ks.length + vs.length + 2 : Nat) : Int)) (Ev.add (Ev.add (Ev.name rfl) (Ev.mul Ev.cint (Ev.name rfl) (mulOk (by decide) (by decide)))) Ev.cint) ?_) (by walk_at "kd") (h b hb)
  congr 1; omega

/-- too deep: refused -/
theorem t_deep {q : Nat} {k c : Int} {node : D} (bl : Blts X) (hm : mu sa = some (true, es)) (h60 : 60 ≤ es.length) (hes : es.length ≤ 1000) (hb : ∀ md mu, Bad md mu → Bk md mu) : Ex X A (uenv L a code) (rdm ds p sa i node k c q) mu lbod7 N Bk C R := by
  refine Ex.ite (p := decide (c < 0)) (Ts.cmp (Ev.name rfl) Ev.cint Cm.lt) (fun _ => ?_) fun _ => ?_
  · walk_at "asg"
    exact Ex.brk (hb _ _ ⟨_, by walk_at "sub"⟩)
  · refine Ex.ifT (Ts.is (Ts.cmp (Ev.len bl.len (Ev.name rfl) (Sq.ptr hm) rfl (by simp [sizeLine]; omega)) Ev.cint Cm.ge) (decide_eq_true (by omega))) ?_
    walk_at "asg"
    exact Ex.brk (hb _ _ ⟨_, by walk_at "sub"⟩)
/-- a negative count of children: refused -/
theorem t_neg {q : Nat} {k c : Int} {node : D} (hc : c < 0) (hb : ∀ md mu, Bad md mu → Bk md mu) : Ex X A (uenv L a code) (rdm ds p sa i node k c q) mu lbod7 N Bk C R := by
  refine Ex.ifT (Ts.is (Ts.cmp (Ev.name rfl) Ev.cint Cm.lt) (decide_eq_true hc)) ?_
  walk_at "asg"
  exact Ex.brk (hb _ _ ⟨_, by walk_at "sub"⟩)
/-- a link is put on the stack -/
theorem t_push {q : Nat} {k c : Int} {node : D} (bl : Blts X) (hm : mu sa = some (true, es)) (h60 : es.length < 60) (hc : 0 < c) (h : C (rdm ds p sa i node k c q) (mput mu sa (true, es ++ [.tup [node, .int c]]))) : Ex X A (uenv L a code) (rdm ds p sa i node k c q) mu lbod7 N Bk C R := by
  refine Ex.ifF (Ts.is (Ts.cmp (Ev.name rfl) Ev.cint Cm.lt) (decide_eq_false (by omega))) ?_
  refine Ex.ifF (Ts.is (Ts.cmp (Ev.len bl.len (Ev.name rfl) (Sq.ptr hm) rfl (by simp [sizeLine]; omega)) Ev.cint Cm.ge) (decide_eq_false (by omega))) ?_
  refine Ex.ifT (Ts.is (Ts.cmp (Ev.name rfl) Ev.cint Cm.gt) (decide_eq_true hc)) ?_
  refine Ex.append (Ev.name rfl) hm (Ev.tup (by walk_at "evs")) (by simp [sizeLine]; omega) ?_
  exact Ex.cont h
/-- a negative count of keys: refused -/
theorem t_nneg {n : Int} (bl : Blts X) (hs : ds.length ≤ 1000) (hp : p < ds.length) (hn : ds[p]? = some (.int n)) (h0 : n < 0) (hb : ∀ md mu, Bad md mu → Bk md mu) : Ex X A (uenv L a code) (upd (unm ds p sa) "_" i) mu lbod N Bk C R := by
  refine Ex.ifF (Ts.is (Ts.cmp (Ev.name rfl) (Ev.len bl.len (Ev.name rfl) Sq.lst rfl (by simp [sizeLine]; omega)) Cm.ge) (decide_eq_false (by omega))) ?_
  refine Ex.assign (d := .int n) (Ev.item (Ev.name rfl) Sq.lst (Ev.name rfl) (by omega) (by omega) hn) (by walk_at "kd") ?_
  refine Ex.ifT (Ts.is (Ts.cmp (Ev.name rfl) Ev.cint Cm.lt) (decide_eq_true h0)) ?_
  walk_at "asg"
  exact Ex.brk (hb _ _ ⟨_, by walk_at "sub"⟩)
/-- data ends inside a record: refused -/
theorem t_cut {n : Nat} (bl : Blts X) (hs : ds.length ≤ 1000) (hp : p < ds.length) (hn : ds[p]? = some (.int n)) (h0 : ds.length ≤ p + 2 * n + 1) (hb : ∀ md mu, Bad md mu → Bk md mu) : Ex X A (uenv L a code) (upd (unm ds p sa) "_" i) mu lbod N Bk C R := by
  refine Ex.ifF (Ts.is (Ts.cmp (Ev.name rfl) (Ev.len bl.len (Ev.name rfl) Sq.lst rfl (by simp [sizeLine]; omega)) Cm.ge) (decide_eq_false (by omega))) ?_
  refine Ex.assign (d := .int n) (Ev.item (Ev.name rfl) Sq.lst (Ev.name rfl) (by omega) (by omega) hn) (by walk_at "kd") ?_
  refine Ex.ifF (Ts.is (Ts.cmp (Ev.name rfl) Ev.cint Cm.lt) (decide_eq_false (by omega))) ?_
  refine Ex.ifT (Ts.is (Ts.cmp (Ev.add (Ev.add (Ev.name rfl) (Ev.mul Ev.cint (Ev.name rfl) (mulOk (by decide) (by decide)))) Ev.cint) (Ev.len bl.len (Ev.name rfl) Sq.lst rfl (by simp [sizeLine]; omega)) Cm.ge) (decide_eq_true (by omega))) ?_
  walk_at "asg"
  exact Ex.brk (hb _ _ ⟨_, by walk_at "sub"⟩)
end

end Mine

namespace Mine
open PySem PyProof.Rows
local macro_rules | `(tactic| walk_at "sz") => `(tactic| (first | assumption | decide | (simp only [List.length_append, List.length_take, List.length_drop, List.length_cons, List.length_nil, List.length_map, List.length_range, List.length_replicate, sizeLine] <;> omega) | (simp [sizeLine] <;> omega)))
local macro_rules | `(tactic| walk_at "kd") => `(tactic| first | exact .inl rfl | exact .inr ⟨rfl, rfl⟩)
local macro_rules | `(tactic| walk_at "evs") => `(tactic| first | exact EvAll.nil | (refine' EvAll.cons ?h1 ?h2; (case h1 => walk_at "ev"); (case h2 => walk_at "evs")))
local macro_rules | `(tactic| walk_at "call") => `(tactic| fail "no call")
local macro_rules | `(tactic| walk_at "at") => `(tactic| assumption)
local macro_rules | `(tactic| walk_at "ev") => `(tactic| first
  | exact Ev.name rfl
  | exact Ev.cint
  | exact Ev.cstr
  | exact Ev.cnone
  | exact Ev.cbool
  | (refine' Ev.item_tup ?h1 (by decide) (by decide) ?h2; (case h1 => walk_at "ev"); (case h2 => rfl))
  | (refine' Ev.upto ?h1 Sq.lst ?h2 ?h3 ?h4; (case h1 => walk_at "ev"); (case h2 => walk_at "ev"); (case h3 => omega); (case h4 => walk_at "sz"))
  | (refine' Ev.from ?h1 Sq.lst ?h2 ?h3 ?h4; (case h1 => walk_at "ev"); (case h2 => walk_at "ev"); (case h3 => omega); (case h4 => walk_at "sz"))
  | (refine' Ev.item ?h1 Sq.lst ?h2 ?h3 ?h4 ?h5; (case h1 => walk_at "ev"); (case h2 => walk_at "ev"); (case h3 => omega); (case h4 => omega); (case h5 => walk_at "at"))
  | (refine' Ev.add ?h1 ?h2; (case h1 => walk_at "ev"); (case h2 => walk_at "ev"))
  | (refine' Ev.sub ?h1 ?h2; (case h1 => walk_at "ev"); (case h2 => walk_at "ev"))
  | (refine' Ev.mul ?h1 ?h2 ?h3; (case h1 => walk_at "ev"); (case h2 => walk_at "ev"); (case h3 => exact mulOk (by omega) (by omega)))
  | (refine' Ev.mod ?h1 ?h2 ?h3; (case h1 => walk_at "ev"); (case h2 => walk_at "ev"); (case h3 => omega))
  | (refine' Ev.cat ?h1 ?h2 ?h3; (case h1 => walk_at "ev"); (case h2 => walk_at "ev"); (case h3 => walk_at "sz"))
  | (refine' Ev.tup ?h1 ?h2; (case h1 => walk_at "evs"); (case h2 => walk_at "sz"))
  | (refine' Ev.lst ?h1 ?h2; (case h1 => walk_at "evs"); (case h2 => walk_at "sz"))
  | (refine' Ev.rep1 ?h1 ?h2 ?h3 ?h4; (case h1 => walk_at "ev"); (case h2 => walk_at "ev"); (case h3 => omega); (case h4 => omega))
  | (refine' Ev.call ?h1 ?h2 ?h3; (case h2 => walk_at "evs"); (case h1 => walk_at "call"); (case h3 => rfl))
  | fail "no ev")
local macro_rules | `(tactic| walk_at "asg") => `(tactic| (refine' Ex.assign ?he ?hx ?hk; (case he => walk_at "ev"); (case hx => walk_at "kd")))
local macro_rules | `(tactic| walk_at "cmd") => `(tactic| (first | exact trivial | (refine' ⟨⟨rfl, rfl, rfl⟩, ?_⟩; walk_at "cmd")))
local macro_rules | `(tactic| walk_at "subs") => `(tactic| (first | exact trivial | (refine' ⟨rfl, ?_⟩; walk_at "subs")))
local macro_rules | `(tactic| walk_at "sub") => `(tactic| (refine' Sub.ofL ?_; walk_at "subs"))
theorem exl_c (l : Lk) : ((exl l).length : Int) + 1 = l.c := by
  unfold exl Lk.c
  cases l.ex <;> rfl
theorem exl_le (l : Lk) : (exl l).length ≤ 1 := by
  unfold exl
  cases l.ex <;> simp
theorem last_get {es : List D} {x : D} {k : Int} (h : k = ((es ++ [x]).length : Int) - 1) : (es ++ [x])[k.toNat]? = some x := by
  have e : k.toNat = es.length := by rw [h]; simp
  rw [e]; simp
section
variable {X : Cx} {A : Around} {L a : Addr} {code : Value} {mu : Mu} {ds : List D} {p : Nat} {sa : Addr} {es : List D} {i : D} {N C Bk : Post} {R : D → Prop}
/-- the leaf besides is read -/
theorem t_extra {q : Nat} {k : Int} {x y : List Int} {b : Addr} {l : Lk} (bl : Blts X) (hr : Rm A 1) (hm : mu sa = some (true, es ++ [entry (b, l)])) (hb : mu b = some (true, [])) (hl : l.ex = some (x, y)) (hne : sa ≠ b) (h60 : es.length + 1 < 60)
    (h : ∀ md, Sub (unm ds q sa) md → N md (mput mu b (true, exl l))) : Ex X A (uenv L a code) (rdm ds p sa i (leafD x y) k 0 q) mu lbod7 N Bk C R := by
  have hsz : (es ++ [entry (b, l)]).length ≤ sizeLine := by simp [sizeLine]; omega
  have hlen : (es ++ [entry (b, l)]).length = es.length + 1 := by simp
  refine Ex.ifF (Ts.cmp (Ev.name rfl) Ev.cint Cm.lt) ?_
  refine Ex.ifF (Ts.is (Ts.cmp (Ev.len bl.len (Ev.name rfl) (Sq.ptr hm) rfl hsz) Ev.cint Cm.ge) (decide_eq_false (by rw [hlen]; omega))) ?_
  refine Ex.ifF (Ts.cmp (Ev.name rfl) Ev.cint Cm.gt) ?_
  refine Ex.for1 (fun md' mu' => Sub (unm ds q sa) md' ∧ mu' = mput mu b (true, exl l)) (It.range hr.hand bl.range (Ev.add (Ev.len bl.len (Ev.name rfl) (Sq.ptr hm) rfl hsz) Ev.cint) rfl (by rw [hlen]; omega) (by rw [hlen]; omega)) (by walk_at "kd") (by rw [hlen]; omega) ?_ fun md' mu' hj => ?_
  · refine Ex.ifF (Ts.is (Ts.cmp (Ev.name rfl) (Ev.lst EvAll.nil) (Cm.eqNil (Sq.ptr hm) hr.unit)) (by simp)) ?_
    refine Ex.assign (d := entry (b, l)) (Ev.item (Ev.name rfl) (Sq.ptr hm) (Ev.sub (Ev.len bl.len (Ev.name rfl) (Sq.ptr hm) rfl hsz) Ev.cint) (by rw [hlen]; omega) (by rw [hlen]; omega) (last_get rfl)) (by walk_at "kd") ?_
    refine Ex.append (d := leafD x y) (Ev.item_tup (Ev.item_tup (Ev.name rfl) (by decide) (by decide) rfl) (by decide) (by decide) rfl) hb (Ev.name rfl) (by decide) ?_
    refine Ex.ifT (Ts.is (Ts.cmp (Ev.len bl.len (Ev.item_tup (Ev.item_tup (Ev.name rfl) (by decide) (by decide) rfl) (by decide) (by decide) rfl) (Sq.ptr mput_self) rfl (by simp [sizeLine])) (Ev.item_tup (Ev.name rfl) (by decide) (by decide) rfl) Cm.lt) ?_) ?_
    · unfold Lk.c; rw [hl]; rfl
    · refine Ex.brk ⟨by walk_at "sub", ?_⟩
      unfold exl; rw [hl]; rfl
  · obtain ⟨hs, rfl⟩ := hj
    refine Ex.weaken hs ?_
    refine Ex.ifF (Ts.is (Ts.cmp (Ev.name rfl) (Ev.lst EvAll.nil) (Cm.eqNil (Sq.ptr (ds := es ++ [entry (b, l)]) (wr := true) (by rw [mput_ne hne]; exact hm)) hr.unit)) (by simp)) ?_
    exact Ex.nil (h _ (Sub.refl _))
/-- the last leaf is read: all that is open is closed -/
theorem t_close {q : Nat} {k : Int} {K V : List Int} {zs : List (Addr × Lk)} (bl : Blts X) (hr : Rm A 1) (hm : mu sa = some (true, zs.map entry)) (hz : ∀ z ∈ zs, mu z.1 = some (true, exl z.2)) (hne : ∀ z ∈ zs, z.1 ≠ sa) (hnd : (zs.map (·.1)).Nodup) (h60 : zs.length < 60)
    (h : ∀ md mu', Sub [("root", nestD (zs.map (·.2)) (leafD K V)), ("pos", .int q), ("problem", .none), ("data", .lst ds)] md → Bk md mu') : Ex X A (uenv L a code) (rdm ds p sa i (leafD K V) k 0 q) mu lbod7 N Bk C R := by
  have hsz : (zs.map entry).length ≤ sizeLine := by simp [sizeLine]; omega
  refine Ex.ifF (Ts.cmp (Ev.name rfl) Ev.cint Cm.lt) ?_
  refine Ex.ifF (Ts.is (Ts.cmp (Ev.len bl.len (Ev.name rfl) (Sq.ptr hm) rfl hsz) Ev.cint Cm.ge) (decide_eq_false (by rw [List.length_map]; omega))) ?_
  refine Ex.ifF (Ts.cmp (Ev.name rfl) Ev.cint Cm.gt) ?_
  refine Ex.for (fun j md' mu' => ∃ zs1 zs2 sb, zs = zs1 ++ zs2 ∧ zs1.length + j = zs.length ∧ Sub [("node", nestD (zs2.map (·.2)) (leafD K V)), ("stack", .ptr sb), ("pos", .int q), ("root", .none), ("problem", .none), ("data", .lst ds)] md' ∧
      mu' sb = some (true, zs1.map entry) ∧ (∀ z ∈ zs1, mu' z.1 = some (true, exl z.2)) ∧ ∀ z ∈ zs1, z.1 ≠ sb)
    (fun md' mu' => ∃ sb, Sub [("node", nestD (zs.map (·.2)) (leafD K V)), ("stack", .ptr sb), ("pos", .int q), ("root", .none), ("problem", .none), ("data", .lst ds)] md' ∧ mu' sb = some (true, []))
    (It.range hr.hand bl.range (Ev.add (Ev.len bl.len (Ev.name rfl) (Sq.ptr hm) rfl hsz) Ev.cint) rfl (by rw [List.length_map]; omega) (by rw [List.length_map]; omega)) (by walk_at "kd") ⟨zs, [], sa, by simp, by simp, by walk_at "sub", hm, hz, hne⟩ (fun j md' mu' hj hJ => ?_) fun md' mu' hJ => ?_
  · obtain ⟨zs1, zs2, sb, e1, e2, hs, h1, h2, h3⟩ := hJ
    refine Ex.weaken (hs.cons _ _) ?_
    rcases List.eq_nil_or_concat zs1 with rfl | ⟨ini, z, rfl⟩
    · refine Ex.ifT (Ts.cmp (Ev.name rfl) (Ev.lst EvAll.nil) (Cm.eqNil (Sq.ptr h1) hr.unit)) ?_
      rw [List.nil_append] at e1
      subst e1
      exact Ex.brk ⟨sb, by walk_at "sub", h1⟩
    · rw [List.concat_eq_append] at h1 h2 h3 e1 e2
      rw [List.map_append, List.map_cons, List.map_nil] at h1
      have hl1 : ini.length < 60 := by rw [List.length_append, List.length_singleton] at e2; omega
      have hlen : (ini.map entry ++ [entry z]).length = ini.length + 1 := by simp
      have hsz1 : (ini.map entry ++ [entry z]).length ≤ sizeLine := by rw [hlen]; simp [sizeLine]; omega
      have hzm := h2 z (by simp)
      have hzn := h3 z (by simp)
      have hxl := exl_le z.2
      refine Ex.ifF (Ts.is (Ts.cmp (Ev.name rfl) (Ev.lst EvAll.nil) (Cm.eqNil (Sq.ptr h1) hr.unit)) (by simp)) ?_
      refine Ex.assign (d := entry z) (Ev.item (Ev.name rfl) (Sq.ptr h1) (Ev.sub (Ev.len bl.len (Ev.name rfl) (Sq.ptr h1) rfl hsz1) Ev.cint) (by rw [hlen]; omega) (by rw [hlen]; omega) (last_get rfl)) (by walk_at "kd") ?_
      refine Ex.append (d := nestD (zs2.map (·.2)) (leafD K V)) (Ev.item_tup (Ev.item_tup (Ev.name rfl) (by decide) (by decide) rfl) (by decide) (by decide) rfl) hzm (Ev.name rfl) (by simp [sizeLine]; omega) ?_
      have hsb : mput mu' z.1 (true, exl z.2 ++ [nestD (zs2.map (·.2)) (leafD K V)]) sb = some (true, ini.map entry ++ [entry z]) := by rw [mput_ne (Ne.symm hzn)]; exact h1
      refine Ex.ifF (Ts.is (Ts.cmp (Ev.len bl.len (Ev.item_tup (Ev.item_tup (Ev.name rfl) (by decide) (by decide) rfl) (by decide) (by decide) rfl) (Sq.ptr mput_self) rfl (by simp [sizeLine]; omega)) (Ev.item_tup (Ev.name rfl) (by decide) (by decide) rfl) Cm.lt) (decide_eq_false ?_)) ?_
      · have := exl_c z.2
        rw [List.length_append, List.length_singleton]
        show ¬ ((((exl z.2).length + 1 : Nat) : Int) < z.2.c)
        omega
      refine Ex.assign (d := .tup [.lst (I z.2.ks), .lst (I z.2.vs), .ptr z.1]) (Ev.item_tup (Ev.name rfl) (by decide) (by decide) rfl) (by walk_at "kd") ?_
      refine Ex.assignF (EvF.upto (Ev.name rfl) (Sq.ptr hsb) (Ev.sub (Ev.len bl.len (Ev.name rfl) (Sq.ptr hsb) rfl hsz1) Ev.cint) (by rw [hlen]; omega) hsz1) (by walk_at "kd") fun sc hsc => ?_
      have hzc : z.1 ≠ sc := by rintro rfl; rw [mput_self] at hsc; cases hsc
      refine Ex.freezeIn (x := "node") (a := z.1) (ds := exl z.2 ++ [nestD (zs2.map (·.2)) (leafD K V)]) rfl (by rw [mput_ne hzc, mput_self]) ?_
      refine Ex.nil ⟨ini, z :: zs2, sc, by rw [e1]; simp, by rw [List.length_append, List.length_singleton] at e2; omega, by walk_at "sub", ?_, fun z' hz' => ?_, fun z' hz' => ?_⟩
      · rw [mdel_ne (Ne.symm hzc), mput_self, hlen]
        have : (((ini.length + 1 : Nat) : Int) - 1).toNat = (ini.map entry).length := by rw [List.length_map]; omega
        rw [this, List.take_left]
      · have n1 : z'.1 ≠ z.1 := by
          rw [e1, List.map_append, List.map_append] at hnd
          have := (List.nodup_append.mp (List.nodup_append.mp hnd).1).2.2 z'.1 (List.mem_map_of_mem hz') z.1 (by simp)
          exact this
        have hz2 := h2 z' (by simp [hz'])
        have n2 : z'.1 ≠ sc := by rintro e; rw [← e, mput_ne n1, hz2] at hsc; cases hsc
        rw [mdel_ne n1, mput_ne n2, mput_ne n1]; exact hz2
      · have n1 : z'.1 ≠ z.1 := by
          rw [e1, List.map_append, List.map_append] at hnd
          have := (List.nodup_append.mp (List.nodup_append.mp hnd).1).2.2 z'.1 (List.mem_map_of_mem hz') z.1 (by simp)
          exact this
        have hz2 := h2 z' (by simp [hz'])
        rintro e; rw [← e, mput_ne n1, hz2] at hsc; cases hsc
  · rcases hJ with ⟨zs1, zs2, sb, e1, e2, _⟩ | ⟨sb, hs, h1⟩
    · exfalso
      rw [List.length_map] at e2
      omega
    · refine Ex.weaken hs ?_
      refine Ex.ifT (Ts.cmp (Ev.name rfl) (Ev.lst EvAll.nil) (Cm.eqNil (Sq.ptr h1) hr.unit)) ?_
      walk_at "asg"
      exact Ex.brk (h _ _ (by walk_at "sub"))
end

end Mine

namespace Mine
open PySem PyProof.Rows
local macro_rules | `(tactic| walk_at "sz") => `(tactic| (first | assumption | decide | (simp only [List.length_append, List.length_take, List.length_drop, List.length_cons, List.length_nil, List.length_map, List.length_range, List.length_replicate, sizeLine] <;> omega) | (simp [sizeLine] <;> omega)))
local macro_rules | `(tactic| walk_at "kd") => `(tactic| first | exact .inl rfl | exact .inr ⟨rfl, rfl⟩)
local macro_rules | `(tactic| walk_at "evs") => `(tactic| first | exact EvAll.nil | (refine' EvAll.cons ?h1 ?h2; (case h1 => walk_at "ev"); (case h2 => walk_at "evs")))
local macro_rules | `(tactic| walk_at "call") => `(tactic| fail "no call")
local macro_rules | `(tactic| walk_at "at") => `(tactic| assumption)
local macro_rules | `(tactic| walk_at "ev") => `(tactic| first
  | exact Ev.name rfl
  | exact Ev.cint
  | exact Ev.cstr
  | exact Ev.cnone
  | exact Ev.cbool
  | (refine' Ev.item_tup ?h1 (by decide) (by decide) ?h2; (case h1 => walk_at "ev"); (case h2 => rfl))
  | (refine' Ev.upto ?h1 Sq.lst ?h2 ?h3 ?h4; (case h1 => walk_at "ev"); (case h2 => walk_at "ev"); (case h3 => omega); (case h4 => walk_at "sz"))
  | (refine' Ev.from ?h1 Sq.lst ?h2 ?h3 ?h4; (case h1 => walk_at "ev"); (case h2 => walk_at "ev"); (case h3 => omega); (case h4 => walk_at "sz"))
  | (refine' Ev.item ?h1 Sq.lst ?h2 ?h3 ?h4 ?h5; (case h1 => walk_at "ev"); (case h2 => walk_at "ev"); (case h3 => omega); (case h4 => omega); (case h5 => walk_at "at"))
  | (refine' Ev.add ?h1 ?h2; (case h1 => walk_at "ev"); (case h2 => walk_at "ev"))
  | (refine' Ev.sub ?h1 ?h2; (case h1 => walk_at "ev"); (case h2 => walk_at "ev"))
  | (refine' Ev.mul ?h1 ?h2 ?h3; (case h1 => walk_at "ev"); (case h2 => walk_at "ev"); (case h3 => exact mulOk (by omega) (by omega)))
  | (refine' Ev.mod ?h1 ?h2 ?h3; (case h1 => walk_at "ev"); (case h2 => walk_at "ev"); (case h3 => omega))
  | (refine' Ev.cat ?h1 ?h2 ?h3; (case h1 => walk_at "ev"); (case h2 => walk_at "ev"); (case h3 => walk_at "sz"))
  | (refine' Ev.tup ?h1 ?h2; (case h1 => walk_at "evs"); (case h2 => walk_at "sz"))
  | (refine' Ev.lst ?h1 ?h2; (case h1 => walk_at "evs"); (case h2 => walk_at "sz"))
  | (refine' Ev.rep1 ?h1 ?h2 ?h3 ?h4; (case h1 => walk_at "ev"); (case h2 => walk_at "ev"); (case h3 => omega); (case h4 => omega))
  | (refine' Ev.call ?h1 ?h2 ?h3; (case h2 => walk_at "evs"); (case h1 => walk_at "call"); (case h3 => rfl))
  | fail "no ev")
local macro_rules | `(tactic| walk_at "asg") => `(tactic| (refine' Ex.assign ?he ?hx ?hk; (case he => walk_at "ev"); (case hx => walk_at "kd")))
local macro_rules | `(tactic| walk_at "cmd") => `(tactic| (first | exact trivial | (refine' ⟨⟨rfl, rfl, rfl⟩, ?_⟩; walk_at "cmd")))
local macro_rules | `(tactic| walk_at "subs") => `(tactic| (first | exact trivial | (refine' ⟨rfl, ?_⟩; walk_at "subs")))
local macro_rules | `(tactic| walk_at "sub") => `(tactic| (refine' Sub.ofL ?_; walk_at "subs"))
/-- the stack and the lists of children that are open -/
structure Open (mu : Mu) (sa : Addr) (zs : List (Addr × Lk)) : Prop where
  st : mu sa = some (true, zs.map entry)
  kid : ∀ z ∈ zs, mu z.1 = some (true, exl z.2)
  ne : ∀ z ∈ zs, z.1 ≠ sa
  nd : (zs.map (·.1)).Nodup
def P1 (ls : List Lk) (ds : List D) (j : Nat) : Post := fun md mu => ∃ (zs : List (Addr × Lk)) (todo : List Lk) (sa : Addr), ls = zs.map (·.2) ++ todo ∧ Sub (unm ds (flats (zs.map (·.2))).length sa) md ∧ Open mu sa zs ∧ zs.length ≤ 60 ∧ j ≤ (flats (zs.map (·.2))).length
def P2 (ls : List Lk) (ds : List D) (j : Nat) : Post := fun md mu => ∃ (zs : List (Addr × Lk)) (todo : List Lk) (sa b : Addr) (l : Lk) (x y : List Int), ls = zs.map (·.2) ++ l :: todo ∧ l.ex = some (x, y) ∧ Sub (unm ds ((flats (zs.map (·.2))).length + (rcd l.ks l.vs l.c).length) sa) md ∧
  mu sa = some (true, zs.map entry ++ [entry (b, l)]) ∧ (∀ z ∈ zs, mu z.1 = some (true, exl z.2)) ∧ mu b = some (true, []) ∧ (∀ z ∈ zs, z.1 ≠ sa) ∧ b ≠ sa ∧ (∀ z ∈ zs, z.1 ≠ b) ∧ (zs.map (·.1)).Nodup ∧ zs.length + 1 ≤ 60 ∧ j ≤ (flats (zs.map (·.2))).length + (rcd l.ks l.vs l.c).length
theorem exr_none {l : Lk} (h : l.ex = none) : exr l = [] := by unfold exr; rw [h]
theorem exr_some {l : Lk} {x y : List Int} (h : l.ex = some (x, y)) : exr l = rcd x y 0 := by unfold exr; rw [h]
theorem exl_none {l : Lk} (h : l.ex = none) : exl l = [] := by unfold exl; rw [h]
theorem c_pos (l : Lk) : 0 < l.c := by unfold Lk.c; cases l.ex <;> (dsimp only; decide)
theorem nodup_snoc {zs : List (Addr × Lk)} {b : Addr} {l : Lk} (h : (zs.map (·.1)).Nodup) (hb : ∀ z ∈ zs, z.1 ≠ b) : ((zs ++ [(b, l)]).map (·.1)).Nodup := by
  rw [List.map_append]
  refine List.nodup_append.mpr ⟨h, by simp, fun x hx y hy => ?_⟩
  obtain ⟨z, hz, rfl⟩ := List.mem_map.mp hx
  simp only [List.map_cons, List.map_nil, List.mem_singleton] at hy
  subst hy; exact hb z hz
section
variable {X : Cx} {A : Around} {L a : Addr} {code : Value} {mu : Mu} {Bk : Post}
theorem u_loop (bl : Blts X) (hr : Rm A 1) {ls : List Lk} {tail : List Int} (hw : ∀ l ∈ ls, Wf l) (hs : (flats ls ++ tail).length ≤ 1000) (hbad : 60 ≤ ls.length → ∀ md mu, Bad md mu → Bk md mu)
    (last : ∀ (zs : List (Addr × Lk)) sa mu i, zs.map (·.2) = ls → Open mu sa zs → zs.length ≤ 60 → Ex X A (uenv L a code) (upd (unm (I (flats ls ++ tail)) (flats ls).length sa) "_" i) mu lbod No Bk No (fun _ => False)) :
    Ex X A (uenv L a code) [("data", .lst (I (flats ls ++ tail)))] mu ((bodOf pw "unflatten").take 5) Bk No No (fun _ => False) := by
  have hs' : (I (flats ls ++ tail)).length ≤ 1000 := by rw [I_len]; exact hs
  have hsz : (I (flats ls ++ tail)).length ≤ sizeLine := by simp only [sizeLine]; omega
  walk_at "asg"
  refine Ex.assignF (EvF.lst EvAll.nil) (by walk_at "kd") fun sa hsa => ?_
  walk_at "asg"
  walk_at "asg"
  refine Ex.for (fun j md mu => P1 ls (I (flats ls ++ tail)) j md mu ∨ P2 ls (I (flats ls ++ tail)) j md mu) Bk (It.range hr.hand bl.range (Ev.add (Ev.len bl.len (Ev.name rfl) Sq.lst rfl hsz) Ev.cint) rfl (by omega) (by omega)) (by walk_at "kd") ?_ (fun j md' mu' hj hJ => ?_) fun md' mu' hJ => ?_
  · exact .inl ⟨[], ls, sa, rfl, by walk_at "sub", ⟨mput_self, fun _ h => (nomatch h), fun _ h => (nomatch h), List.nodup_nil⟩, Nat.zero_le _, Nat.zero_le _⟩
  · rcases hJ with ⟨zs, todo, sb, e1, hsub, O, h60, hjp⟩ | ⟨zs, todo, sb, b, l, x, y, e1, hex, hsub, h1, h2, h3, h4, h5, h6, h7, h60, hjp⟩
    · refine Ex.weaken (hsub.cons _ _) ?_
      cases todo with
      | nil =>
        rw [List.append_nil] at e1
        rw [← e1]
        exact (last zs sb mu' _ e1.symm O h60).conseq (fun _ _ h => h.elim) (fun _ _ h => h) (fun _ _ h => h.elim) fun _ h => h
      | cons l todo =>
        have hl := hw l (by rw [e1]; simp)
        have ed : flats ls ++ tail = flats (zs.map (·.2)) ++ (rcd l.ks l.vs l.c ++ (exr l ++ (flats todo ++ tail))) := by rw [e1, flats_append, flats, flatL]; simp
        have H : At (I (flats ls ++ tail)) (flats (zs.map (·.2))).length l.ks l.vs l.c := by rw [ed]; exact at_of _ _ _ _ _
        by_cases hd : 60 ≤ zs.length
        · exact t_read bl hs' H hl.len (t_deep bl O.st (by rw [List.length_map]; exact hd) (by rw [List.length_map]; omega) (hbad (by rw [e1, List.length_append, List.length_map]; omega)))
        · refine t_readP bl hs' H hl.len fun b hb => ?_
          have nb : ∀ x, mu' x ≠ none → x ≠ b := fun x hx e => hx (e ▸ hb)
          have sbb : sb ≠ b := nb sb (by rw [O.st]; exact fun h => nomatch h)
          have zbb : ∀ z ∈ zs, z.1 ≠ b := fun z hz => nb _ (by rw [O.kid z hz]; exact fun h => nomatch h)
          refine t_push bl (es := zs.map entry) (by rw [mput_ne sbb]; exact O.st) (by rw [List.length_map]; omega) (c_pos l) ?_
          have kids : ∀ z ∈ zs, mput (mput mu' b (true, [])) sb (true, zs.map entry ++ [entry (b, l)]) z.1 = some (true, exl z.2) := fun z hz => by rw [mput_ne (O.ne z hz), mput_ne (zbb z hz)]; exact O.kid z hz
          cases hx : l.ex with
          | none =>
            refine .inl ⟨zs ++ [(b, l)], todo, sb, by rw [e1]; simp, ?_, ⟨?_, fun z hz => ?_, fun z hz => ?_, nodup_snoc O.nd zbb⟩, by rw [List.length_append, List.length_singleton]; omega, ?_⟩
            · have e : (flats ((zs ++ [(b, l)]).map (·.2))).length = (flats (zs.map (·.2))).length + l.ks.length + l.vs.length + 2 := by
                rw [List.map_append, flats_append, List.length_append]; simp only [List.map_cons, List.map_nil, flats, flatL, exr_none hx, List.append_nil, rec_len]; omega
              rw [e]
              walk_at "sub"
            · rw [List.map_append]; exact mput_self
            · rcases List.mem_append.mp hz with hz | hz
              · exact kids z hz
              · simp only [List.mem_singleton] at hz; subst hz
                rw [exl_none hx]
                rw [mput_ne (Ne.symm sbb)]; exact mput_self
            · rcases List.mem_append.mp hz with hz | hz
              · exact O.ne z hz
              · simp only [List.mem_singleton] at hz; subst hz; exact Ne.symm sbb
            · rw [List.map_append, flats_append, List.length_append]; simp only [List.map_cons, List.map_nil, flats, flatL, List.length_append, rec_len]; omega
          | some xy =>
            obtain ⟨x, y⟩ := xy
            refine .inr ⟨zs, todo, sb, b, l, x, y, e1, hx, ?_, mput_self, kids, ?_, O.ne, Ne.symm sbb, zbb, O.nd, by omega, ?_⟩
            · have e : (flats (zs.map (·.2))).length + (rcd l.ks l.vs l.c).length = (flats (zs.map (·.2))).length + l.ks.length + l.vs.length + 2 := by rw [rec_len]; omega
              rw [e]
              walk_at "sub"
            · rw [mput_ne (Ne.symm sbb)]; exact mput_self
            · rw [rec_len]; omega
    · refine Ex.weaken (hsub.cons _ _) ?_
      have hl := (hw l (by rw [e1]; simp)).elen _ hex
      have ed : flats ls ++ tail = (flats (zs.map (·.2)) ++ rcd l.ks l.vs l.c) ++ (rcd x y 0 ++ (flats todo ++ tail)) := by rw [e1, flats_append, flats, flatL, exr_some hex]; simp
      have H : At (I (flats ls ++ tail)) ((flats (zs.map (·.2))).length + (rcd l.ks l.vs l.c).length) x y 0 := by
        rw [← List.length_append, ed]; exact at_of _ _ _ _ _
      by_cases hd : 60 ≤ zs.length + 1
      · exact t_read bl hs' H hl.1 (t_deep bl h1 (by rw [List.length_append, List.length_map, List.length_singleton]; exact hd) (by rw [List.length_append, List.length_map, List.length_singleton]; omega) (hbad (by rw [e1, List.length_append, List.length_map, List.length_cons]; omega)))
      · refine t_read bl hs' H hl.1 (t_extra (l := l) (b := b) bl hr h1 h3 hex (Ne.symm h5) (by rw [List.length_map]; omega) fun md hmd => ?_)
        refine .inl ⟨zs ++ [(b, l)], todo, sb, by rw [e1]; simp, ?_, ⟨?_, fun z hz => ?_, fun z hz => ?_, nodup_snoc h7 h6⟩, by rw [List.length_append, List.length_singleton]; omega, ?_⟩
        · have e : (flats ((zs ++ [(b, l)]).map (·.2))).length = (flats (zs.map (·.2))).length + (rcd l.ks l.vs l.c).length + x.length + y.length + 2 := by
            rw [List.map_append, flats_append, List.length_append]; simp only [List.map_cons, List.map_nil, flats, flatL, exr_some hex, List.append_nil, List.length_append, rec_len]; omega
          rw [e]; exact hmd
        · rw [mput_ne (Ne.symm h5), h1, List.map_append]; rfl
        · rcases List.mem_append.mp hz with hz | hz
          · rw [mput_ne (h6 z hz)]; exact h2 z hz
          · simp only [List.mem_singleton] at hz; subst hz; exact mput_self
        · rcases List.mem_append.mp hz with hz | hz
          · exact h4 z hz
          · simp only [List.mem_singleton] at hz; subst hz; exact h5
        · rw [List.map_append, flats_append, List.length_append]; simp only [List.map_cons, List.map_nil, flats, flatL, List.length_append, rec_len, exr_some hex] at hjp ⊢; omega
  · have hbk : Bk md' mu' := by
      rcases hJ with (⟨zs, todo, sb, e1, _, _, _, hjp⟩ | ⟨zs, todo, sb, b, l, x, y, e1, hex, _, _, _, _, _, _, _, _, _, hjp⟩) | hb
      · exfalso
        have : (flats (zs.map (·.2))).length ≤ (flats ls ++ tail).length := by rw [e1, flats_append, List.length_append, List.length_append]; omega
        rw [I_len] at hjp
        omega
      · exfalso
        have : (flats (zs.map (·.2))).length + (rcd l.ks l.vs l.c).length ≤ (flats ls ++ tail).length := by rw [e1, flats_append, flats, flatL, List.length_append, List.length_append, List.length_append, List.length_append]; omega
        rw [I_len] at hjp
        omega
      · exact hb
    exact Ex.nil hbk
end

end Mine

namespace Mine
open PySem PyProof.Rows
local macro_rules | `(tactic| walk_at "sz") => `(tactic| (first | assumption | decide | (simp only [List.length_append, List.length_take, List.length_drop, List.length_cons, List.length_nil, List.length_map, List.length_range, List.length_replicate, sizeLine] <;> omega) | (simp [sizeLine] <;> omega)))
local macro_rules | `(tactic| walk_at "kd") => `(tactic| first | exact .inl rfl | exact .inr ⟨rfl, rfl⟩)
local macro_rules | `(tactic| walk_at "evs") => `(tactic| first | exact EvAll.nil | (refine' EvAll.cons ?h1 ?h2; (case h1 => walk_at "ev"); (case h2 => walk_at "evs")))
local macro_rules | `(tactic| walk_at "call") => `(tactic| fail "no call")
local macro_rules | `(tactic| walk_at "at") => `(tactic| assumption)
local macro_rules | `(tactic| walk_at "ev") => `(tactic| first
  | exact Ev.name rfl
  | exact Ev.cint
  | exact Ev.cstr
  | exact Ev.cnone
  | exact Ev.cbool
  | (refine' Ev.item_tup ?h1 (by decide) (by decide) ?h2; (case h1 => walk_at "ev"); (case h2 => rfl))
  | (refine' Ev.upto ?h1 Sq.lst ?h2 ?h3 ?h4; (case h1 => walk_at "ev"); (case h2 => walk_at "ev"); (case h3 => omega); (case h4 => walk_at "sz"))
  | (refine' Ev.from ?h1 Sq.lst ?h2 ?h3 ?h4; (case h1 => walk_at "ev"); (case h2 => walk_at "ev"); (case h3 => omega); (case h4 => walk_at "sz"))
  | (refine' Ev.item ?h1 Sq.lst ?h2 ?h3 ?h4 ?h5; (case h1 => walk_at "ev"); (case h2 => walk_at "ev"); (case h3 => omega); (case h4 => omega); (case h5 => walk_at "at"))
  | (refine' Ev.add ?h1 ?h2; (case h1 => walk_at "ev"); (case h2 => walk_at "ev"))
  | (refine' Ev.sub ?h1 ?h2; (case h1 => walk_at "ev"); (case h2 => walk_at "ev"))
  | (refine' Ev.mul ?h1 ?h2 ?h3; (case h1 => walk_at "ev"); (case h2 => walk_at "ev"); (case h3 => exact mulOk (by omega) (by omega)))
  | (refine' Ev.mod ?h1 ?h2 ?h3; (case h1 => walk_at "ev"); (case h2 => walk_at "ev"); (case h3 => omega))
  | (refine' Ev.cat ?h1 ?h2 ?h3; (case h1 => walk_at "ev"); (case h2 => walk_at "ev"); (case h3 => walk_at "sz"))
  | (refine' Ev.tup ?h1 ?h2; (case h1 => walk_at "evs"); (case h2 => walk_at "sz"))
  | (refine' Ev.lst ?h1 ?h2; (case h1 => walk_at "evs"); (case h2 => walk_at "sz"))
  | (refine' Ev.rep1 ?h1 ?h2 ?h3 ?h4; (case h1 => walk_at "ev"); (case h2 => walk_at "ev"); (case h3 => omega); (case h4 => omega))
  | (refine' Ev.call ?h1 ?h2 ?h3; (case h2 => walk_at "evs"); (case h1 => walk_at "call"); (case h3 => rfl))
  | fail "no ev")
local macro_rules | `(tactic| walk_at "asg") => `(tactic| (refine' Ex.assign ?he ?hx ?hk; (case he => walk_at "ev"); (case hx => walk_at "kd")))
local macro_rules | `(tactic| walk_at "cmd") => `(tactic| (first | exact trivial | (refine' ⟨⟨rfl, rfl, rfl⟩, ?_⟩; walk_at "cmd")))
local macro_rules | `(tactic| walk_at "subs") => `(tactic| (first | exact trivial | (refine' ⟨rfl, ?_⟩; walk_at "subs")))
local macro_rules | `(tactic| walk_at "sub") => `(tactic| (refine' Sub.ofL ?_; walk_at "subs"))
theorem nest_tup (ls : List Lk) (K V : List Int) : ∃ xs, nestD ls (leafD K V) = .tup xs := by
  cases ls with
  | nil => exact ⟨_, rfl⟩
  | cons l r => exact ⟨_, rfl⟩
section
variable {X : Cx} {A : Around} {mu : Mu} {l : List Env}
theorem zip1 {x : Str} {d : D} : [x].zip [d] = [(x, d)] := rfl
/-- unflatten gives the nest -/
theorem unflatten_ok (bl : Blts X) (hd : HasDef X pw "unflatten") (hr : Rm A 2) {ls : List Lk} {K V : List Int} (hw : ∀ l ∈ ls, Wf l) (hK : K.length = V.length) (hs : (flats ls ++ rcd K V 0).length ≤ 1000) (h60 : ls.length < 60) :
    CallD X A "unflatten" [.lst (I (flats ls ++ rcd K V 0))] mu (nestD ls (leafD K V)) := by
  refine CallD.of ["data"] hd hr.room rfl (by decide) (fun pm code doc ws hw => ?_) (by decide) fun L a code => ?_
  · match ws, hw with
    | [x], _ => rfl
  have hr' := hr.deep (fenv "unflatten" (scoOf pw "unflatten") L a code)
  have hs' : (I (flats ls ++ rcd K V 0)).length ≤ 1000 := by rw [I_len]; exact hs
  rw [← List.take_append_drop 5 (bodOf pw "unflatten")]
  refine Ex.seq (M := fun md _ => Sub [("root", nestD ls (leafD K V)), ("pos", .int ((flats ls ++ rcd K V 0).length : Nat)), ("problem", .none), ("data", .lst (I (flats ls ++ rcd K V 0)))] md) ?_ fun md' mu' hm => ?_
  · refine (u_loop (Bk := fun md _ => Sub [("root", nestD ls (leafD K V)), ("pos", .int ((flats ls ++ rcd K V 0).length : Nat)), ("problem", .none), ("data", .lst (I (flats ls ++ rcd K V 0)))] md) bl hr' hw hs (fun h => by omega) fun zs sa mu i hz O hz60 => ?_).conseq (fun _ _ h => h) (fun _ _ h => h.elim) (fun _ _ h => h.elim) fun _ h => h.elim
    have H := at_of (flats ls) K V [] 0
    rw [List.append_nil] at H
    refine t_read bl hs' H hK (t_close bl hr' O.st O.kid O.ne O.nd (by rw [← hz, List.length_map] at h60; exact h60) fun md mu' hm => ?_)
    rw [hz] at hm
    rw [List.length_append, rec_len]
    rw [show (flats ls).length + (K.length + V.length + 2) = (flats ls).length + K.length + V.length + 2 by omega]
    exact hm
  · refine Ex.weaken hm ?_
    obtain ⟨xs, hx⟩ := nest_tup ls K V
    refine Ex.ifF (Ts.is (Ts.and2 (Ts.cmp (Ev.name rfl) Ev.cnone Cm.isNone) (Ts.cmp (Ev.name rfl) Ev.cnone Cm.isNone)) (by rw [hx]; rfl)) ?_
    refine Ex.ifF (Ts.is (Ts.and2 (Ts.cmp (Ev.name rfl) Ev.cnone Cm.isNone) (Ts.cmp (Ev.name rfl) (Ev.len bl.len (Ev.name rfl) Sq.lst rfl (by simp only [sizeLine]; omega)) Cm.nei)) (by rw [I_len]; simp)) ?_
    refine Ex.ifF (Ts.cmp (Ev.name rfl) Ev.cnone Cm.isNotNone) ?_
    exact Ex.ret (Ev.name rfl) rfl
/-- what unflatten refuses -/
inductive Spoilt (K V : List Int) (n : Nat) : List Int → Prop
  | deep {t : List Int} : 60 ≤ n → Spoilt K V n (rcd K V 0 ++ t)
  | none : Spoilt K V n []
  | cut : Spoilt K V n ((K.length : Int) :: (K ++ V))
  | more {t : List Int} : t ≠ [] → Spoilt K V n (rcd K V 0 ++ t)
  | neg {t : List Int} : Spoilt K V n (rcd K V (-1) ++ t)
  | nneg {k : Int} {t : List Int} : k < 0 → Spoilt K V n (k :: t)
def Bad2 (ls : List Lk) (K V : List Int) (ds : List D) : Post := fun md mu => Bad md mu ∨ ∃ p : Nat, p ≠ ds.length ∧ Sub [("root", nestD ls (leafD K V)), ("pos", .int p), ("problem", .none), ("data", .lst ds)] md
theorem unflatten_bad (bl : Blts X) (hd : HasDef X pw "unflatten") {C : Addr} (O : Own X "FormatError" C) (hr : Rm A 2) (hfr : A.frames = some l) {ls : List Lk} {K V tail : List Int} (hw : ∀ l ∈ ls, Wf l) (hK : K.length = V.length) (hs : (flats ls ++ tail).length ≤ 1000) (ht : Spoilt K V ls.length tail) :
    CallR X A l "unflatten" [.lst (I (flats ls ++ tail))] mu (.ref C) := by
  refine CallR.of ["data"] hd hr.room hfr rfl (by decide) (fun pm code doc ws hw => ?_) (by decide) fun L a code => ?_
  · match ws, hw with
    | [x], _ => rfl
  have hr' := hr.deep (fenv "unflatten" (scoOf pw "unflatten") L a code)
  have hs' : (I (flats ls ++ tail)).length ≤ 1000 := by rw [I_len]; exact hs
  have hb : ∀ md mu, Bad md mu → Bad2 ls K V (I (flats ls ++ tail)) md mu := fun _ _ h => .inl h
  rw [← List.take_append_drop 5 (bodOf pw "unflatten")]
  refine ExR.seq (P := Bad2 ls K V (I (flats ls ++ tail))) ?_ fun md' mu' hm => ?_
  · refine u_loop (Bk := Bad2 ls K V (I (flats ls ++ tail))) bl hr' hw hs (fun _ => hb) fun zs sa mu i hz O hz60 => ?_
    have hzl : zs.length = ls.length := by rw [← hz, List.length_map]
    have close : ∀ t, tail = rcd K V 0 ++ t → t ≠ [] → Ex X (A.deeper (fenv "unflatten" (scoOf pw "unflatten") L a code)) (uenv L a code) (upd (unm (I (flats ls ++ tail)) (flats ls).length sa) "_" i) mu lbod No (Bad2 ls K V (I (flats ls ++ tail))) No (fun _ => False) := by
      intro t e hne
      have H := at_of (flats ls) K V t 0
      rw [← e] at H
      by_cases h60 : 60 ≤ zs.length
      · exact t_read bl hs' H hK (t_deep bl O.st (by rw [List.length_map]; exact h60) (by rw [List.length_map]; omega) hb)
      · refine t_read bl hs' H hK (t_close bl hr' O.st O.kid O.ne O.nd (by omega) fun md mu' hm => .inr ⟨_, ?_, hz ▸ hm⟩)
        rw [I_len, e, List.length_append, List.length_append, rec_len]
        have : 0 < t.length := List.length_pos_iff.mpr hne
        omega
    cases ht with
    | @deep t h60 =>
      have H := at_of (flats ls) K V t 0
      exact t_read bl hs' H hK (t_deep bl O.st (by rw [List.length_map]; omega) (by rw [List.length_map]; omega) hb)
    | none => exact t_end bl hs' (by rw [I_len, List.append_nil]; exact Nat.le_refl _) hb
    | cut =>
      refine t_cut (n := K.length) bl hs' (by rw [I_len, List.length_append, List.length_cons]; omega) ?_ (by rw [I_len, List.length_append, List.length_cons, List.length_append]; omega) hb
      rw [show I (flats ls ++ (K.length : Int) :: (K ++ V)) = I (flats ls) ++ .int K.length :: I (K ++ V) by simp [I]]
      exact getL (by simp)
    | @more t hne => exact close t rfl hne
    | @neg t =>
      have H := at_of (flats ls) K V t (-1)
      exact t_read bl hs' H hK (t_neg (by decide) hb)
    | @nneg k t hk =>
      refine t_nneg (n := k) bl hs' (by rw [I_len, List.length_append, List.length_cons]; omega) ?_ hk hb
      rw [show I (flats ls ++ k :: t) = I (flats ls) ++ .int k :: I t by simp [I]]
      exact getL (by simp)
  · rcases hm with ⟨w, hm⟩ | ⟨p, hp, hm⟩
    · refine ExR.weaken hm ?_
      refine ExR.ifF (Ts.andF (Ts.cmp (Ev.name rfl) Ev.cnone Cm.isNone)) ?_
      refine ExR.ifF (Ts.andF (Ts.cmp (Ev.name rfl) Ev.cnone Cm.isNone)) ?_
      refine ExR.ifT (Ts.cmp (Ev.name rfl) Ev.cnone Cm.isNotNone) ?_
      exact ExR.raise O hr'.hand (Ev.name rfl) rfl
    · refine ExR.weaken hm ?_
      obtain ⟨xs, hx⟩ := nest_tup ls K V
      refine ExR.ifF (Ts.is (Ts.and2 (Ts.cmp (Ev.name rfl) Ev.cnone Cm.isNone) (Ts.cmp (Ev.name rfl) Ev.cnone Cm.isNone)) (by rw [hx]; rfl)) ?_
      refine ExR.ifT (Ts.is (Ts.and2 (Ts.cmp (Ev.name rfl) Ev.cnone Cm.isNone) (Ts.cmp (Ev.name rfl) (Ev.len bl.len (Ev.name rfl) Sq.lst rfl (by simp only [sizeLine]; omega)) Cm.nei)) ?_) ?_
      · have : ((p : Int) != ((I (flats ls ++ tail)).length : Int)) = true := by simp only [bne_iff_ne, ne_eq]; omega
        rw [this]; rfl
      refine ExR.assign Ev.cstr (by walk_at "kd") ?_
      refine ExR.ifT (Ts.cmp (Ev.name rfl) Ev.cnone Cm.isNotNone) ?_
      exact ExR.raise O hr'.hand (Ev.name rfl) rfl
end

end Mine

namespace Mine
open PySem PyProof.Rows
local macro_rules | `(tactic| walk_at "sz") => `(tactic| (first | assumption | decide | (simp only [List.length_append, List.length_take, List.length_drop, List.length_cons, List.length_nil, List.length_map, List.length_range, List.length_replicate, sizeLine] <;> omega) | (simp [sizeLine] <;> omega)))
local macro_rules | `(tactic| walk_at "kd") => `(tactic| first | exact .inl rfl | exact .inr ⟨rfl, rfl⟩)
local macro_rules | `(tactic| walk_at "evs") => `(tactic| first | exact EvAll.nil | (refine' EvAll.cons ?h1 ?h2; (case h1 => walk_at "ev"); (case h2 => walk_at "evs")))
local macro_rules | `(tactic| walk_at "call") => `(tactic| fail "no call")
local macro_rules | `(tactic| walk_at "at") => `(tactic| assumption)
local macro_rules | `(tactic| walk_at "ev") => `(tactic| first
  | exact Ev.name rfl
  | exact Ev.cint
  | exact Ev.cstr
  | exact Ev.cnone
  | exact Ev.cbool
  | (refine' Ev.item_tup ?h1 (by decide) (by decide) ?h2; (case h1 => walk_at "ev"); (case h2 => rfl))
  | (refine' Ev.upto ?h1 Sq.lst ?h2 ?h3 ?h4; (case h1 => walk_at "ev"); (case h2 => walk_at "ev"); (case h3 => omega); (case h4 => walk_at "sz"))
  | (refine' Ev.from ?h1 Sq.lst ?h2 ?h3 ?h4; (case h1 => walk_at "ev"); (case h2 => walk_at "ev"); (case h3 => omega); (case h4 => walk_at "sz"))
  | (refine' Ev.item ?h1 Sq.lst ?h2 ?h3 ?h4 ?h5; (case h1 => walk_at "ev"); (case h2 => walk_at "ev"); (case h3 => omega); (case h4 => omega); (case h5 => walk_at "at"))
  | (refine' Ev.add ?h1 ?h2; (case h1 => walk_at "ev"); (case h2 => walk_at "ev"))
  | (refine' Ev.sub ?h1 ?h2; (case h1 => walk_at "ev"); (case h2 => walk_at "ev"))
  | (refine' Ev.mul ?h1 ?h2 ?h3; (case h1 => walk_at "ev"); (case h2 => walk_at "ev"); (case h3 => exact mulOk (by omega) (by omega)))
  | (refine' Ev.mod ?h1 ?h2 ?h3; (case h1 => walk_at "ev"); (case h2 => walk_at "ev"); (case h3 => omega))
  | (refine' Ev.cat ?h1 ?h2 ?h3; (case h1 => walk_at "ev"); (case h2 => walk_at "ev"); (case h3 => walk_at "sz"))
  | (refine' Ev.tup ?h1 ?h2; (case h1 => walk_at "evs"); (case h2 => walk_at "sz"))
  | (refine' Ev.lst ?h1 ?h2; (case h1 => walk_at "evs"); (case h2 => walk_at "sz"))
  | (refine' Ev.rep1 ?h1 ?h2 ?h3 ?h4; (case h1 => walk_at "ev"); (case h2 => walk_at "ev"); (case h3 => omega); (case h4 => omega))
  | (refine' Ev.call ?h1 ?h2 ?h3; (case h2 => walk_at "evs"); (case h1 => walk_at "call"); (case h3 => rfl))
  | fail "no ev")
local macro_rules | `(tactic| walk_at "asg") => `(tactic| (refine' Ex.assign ?he ?hx ?hk; (case he => walk_at "ev"); (case hx => walk_at "kd")))
local macro_rules | `(tactic| walk_at "cmd") => `(tactic| (first | exact trivial | (refine' ⟨⟨rfl, rfl, rfl⟩, ?_⟩; walk_at "cmd")))
local macro_rules | `(tactic| walk_at "subs") => `(tactic| (first | exact trivial | (refine' ⟨rfl, ?_⟩; walk_at "subs")))
local macro_rules | `(tactic| walk_at "sub") => `(tactic| (refine' Sub.ofL ?_; walk_at "subs"))
abbrev fle (L a : Addr) (code : Value) : Env := fenv "flatten" (scoOf pw "flatten") L a code
abbrev fbod : List Stmt := forBody (bodOf pw "flatten")
def asgOf : List Stmt → Expr
  | [] => .Tuple [] 0 ⟨0, 0, 0, 0⟩
  | .Assign _ e _ :: _ => e
  | _ :: r => asgOf r
section
variable {X : Cx} {A : Around} {mu : Mu} {l : List Env} {L a : Addr} {code : Value} {R : D → Prop} {B C : Post}
/-- one child: its flat form goes behind out -/
theorem f_child (bl : Blts X) (hr : Rm A 1) {node child : D} {d : Int} {o : Addr} {cur items : List D} (hsz : cur.length + items.length ≤ 1000) (hc : CallD X A "flatten" [child, .int (d - 1)] (mput mu o (true, cur)) (.lst items))
    (N : Post) (h : ∀ md, Sub [("node", node), ("depth", .int d), ("out", .ptr o)] md → N md (mput mu o (true, cur ++ items))) :
    Ex X A (fle L a code) [("child", child), ("node", node), ("depth", .int d), ("out", .ptr o)] (mput mu o (true, cur)) fbod N B C R := by
  refine Ex.forMM (fun _ => [("node", node), ("depth", .int d), ("out", .ptr o)]) (fun k => mput mu o (true, cur ++ items.take k)) No (It.lst hr.hand (Ev.call hc (EvAll.cons (Ev.name rfl) (EvAll.cons (Ev.sub (Ev.name rfl) Ev.cint) EvAll.nil)) rfl)) (by walk_at "kd") (by walk_at "sub") (by rw [List.take_zero, List.append_nil]) (fun k hk => ?_) ?_ fun _ _ h => h.elim
  · refine Ex.append (Ev.name rfl) mput_self (Ev.name rfl) (by rw [List.length_append, List.length_take]; simp only [sizeLine]; omega) ?_
    refine Ex.nil ⟨by walk_at "sub", ?_⟩
    rw [mput_mput, List.append_assoc]
    have : items.getD k .none = items[k] := by rw [List.getD_eq_getElem?_getD, List.getElem?_eq_getElem hk]; rfl
    rw [this, List.take_append_getElem hk]
  · refine Ex.nil ?_
    rw [List.take_length]
    exact h _ (Sub.refl _)
theorem f_out (bl : Blts X) {ks vs : List Int} {kids : List D} {d : Int} (hsz : ks.length + vs.length + kids.length ≤ 900) :
    EvF X A (fle L a code) [("node", .tup [.lst (I ks), .lst (I vs), .lst kids]), ("depth", .int d)] mu (asgOf (bodOf pw "flatten")) (I (rcd ks vs kids.length)) := by
  have e : I (rcd ks vs kids.length) = [.int ((I ks).length : Nat)] ++ I ks ++ I vs ++ [.int (kids.length : Nat)] := by simp [I, rcd]
  rw [e]
  have s1 : (I ks).length ≤ sizeLine := by rw [I_len]; simp only [sizeLine]; omega
  have s2 : (I vs).length ≤ sizeLine := by rw [I_len]; simp only [sizeLine]; omega
  refine EvF.cat (Ev.cat (Ev.cat (Ev.lst (EvAll.cons (Ev.len bl.len (Ev.item_tup (Ev.name rfl) (by decide) (by decide) rfl) Sq.lst rfl s1) EvAll.nil)) (EvF.ev (EvF.listOf bl.list (Ev.item_tup (Ev.name rfl) (by decide) (by decide) rfl) Sq.lst rfl s1)) ?_)
    (EvF.ev (EvF.listOf bl.list (Ev.item_tup (Ev.name rfl) (by decide) (by decide) rfl) Sq.lst rfl s2)) ?_) (Ev.lst (EvAll.cons (Ev.len bl.len (Ev.item_tup (Ev.name rfl) (by decide) (by decide) rfl) Sq.lst rfl (by simp only [sizeLine]; omega)) EvAll.nil)) ?_
  · rw [I_len] at *; simp only [List.length_cons, List.length_nil, sizeLine]; omega
  · simp only [List.length_append, I_len, List.length_cons, List.length_nil, sizeLine]; omega
  · simp only [List.length_append, I_len, List.length_cons, List.length_nil, sizeLine]; omega
abbrev ndD (ks vs : List Int) (kids : List D) : D := .tup [.lst (I ks), .lst (I vs), .lst kids]
theorem flat_len_take {fls : List (List Int)} (k : Nat) : (fls.take k).flatten.length ≤ fls.flatten.length := by
  have : fls.flatten = (fls.take k).flatten ++ (fls.drop k).flatten := by rw [← List.flatten_append, List.take_append_drop]
  rw [this, List.length_append]; omega
/-- what is so between the children -/
def fJ (mu : Mu) (o : Addr) (ks vs : List Int) (kids : List D) (fls : List (List Int)) (d : Int) (j : Nat) : Post := fun md mu' => Sub [("node", ndD ks vs kids), ("depth", .int d), ("out", .ptr o)] md ∧ mu' = mput mu o (true, I (rcd ks vs kids.length ++ (fls.take j).flatten))
theorem f_turn (bl : Blts X) (hr : Rm A 1) {ks vs : List Int} {kids : List D} {fls : List (List Int)} {d : Int} {o : Addr} {j : Nat} (hj : j < kids.length) (hl : fls.length = kids.length) (hsz : (rcd ks vs kids.length ++ fls.flatten).length ≤ 1000)
    (hc : ∀ mu', CallD X A "flatten" [kids.getD j .none, .int (d - 1)] mu' (.lst (I (fls.getD j [])))) {md : Md} {mu' : Mu} (hJ : fJ mu o ks vs kids fls d j md mu') :
    Ex X A (fle L a code) (upd md "child" (kids.getD j .none)) mu' fbod (fJ mu o ks vs kids fls d (j + 1)) B C R := by
  obtain ⟨hs, rfl⟩ := hJ
  refine Ex.weaken (hs.cons _ _) ?_
  have hjl : j < fls.length := by omega
  have eg : fls.getD j [] = fls[j] := by rw [List.getD_eq_getElem?_getD, List.getElem?_eq_getElem hjl]; rfl
  have et : (fls.take (j + 1)).flatten = (fls.take j).flatten ++ fls.getD j [] := by rw [eg, ← List.take_append_getElem hjl, List.flatten_append, List.flatten_cons, List.flatten_nil, List.append_nil]
  have hlt := flat_len_take (fls := fls) (j + 1)
  rw [et, List.length_append] at hlt
  refine f_child bl hr ?_ (hc _) _ fun md' hs' => ⟨hs', ?_⟩
  · rw [I_len, I_len, List.length_append]
    rw [List.length_append] at hsz
    omega
  · rw [et, ← List.append_assoc]; simp [I]
theorem flatten_node (bl : Blts X) (hd : HasDef X pw "flatten") (hr : Rm A 2) {ks vs : List Int} {kids : List D} {fls : List (List Int)} {d : Int} (h0 : d ≠ 0) (hl : fls.length = kids.length) (hk : kids.length ≤ 2) (hsz : (rcd ks vs kids.length ++ fls.flatten).length ≤ 800)
    (hc : ∀ L a code mu' j, j < kids.length → CallD X (A.deeper (fle L a code)) "flatten" [kids.getD j .none, .int (d - 1)] mu' (.lst (I (fls.getD j [])))) : CallD X A "flatten" [ndD ks vs kids, .int d] mu (.lst (I (rcd ks vs kids.length ++ fls.flatten))) := by
  refine CallD.of ["node", "depth"] hd hr.room rfl (by decide) (fun pm code doc ws hw => ?_) (by decide) fun L a code => ?_
  · match ws, hw with
    | [x, y], _ => rfl
  have hr' := hr.deep (fenv "flatten" (scoOf pw "flatten") L a code)
  rw [List.length_append, rec_len] at hsz
  refine Ex.ifF (Ts.is (Ts.cmp (Ev.name rfl) Ev.cint Cm.eqi) (by simpa using h0)) ?_
  refine Ex.assignF (f_out bl (by omega)) (by walk_at "kd") fun o ho => ?_
  refine Ex.for (fJ (ro mu) o ks vs kids fls d) No (It.lst hr'.hand (Ev.item_tup (Ev.name rfl) (by decide) (by decide) rfl)) (by walk_at "kd") ⟨by walk_at "sub", by rw [List.take_zero, List.flatten_nil, List.append_nil]⟩ (fun j md' mu' hj hJ => ?_) fun md' mu' hJ => ?_
  · exact f_turn bl hr' hj hl (by rw [List.length_append, rec_len]; omega) (fun mu' => hc L a code mu' j hj) hJ
  · rcases hJ with ⟨hs, rfl⟩ | hb
    · refine Ex.weaken hs ?_
      refine Ex.freeze (x := "out") (a := o) rfl mput_self ?_
      refine Ex.ret (Ev.name rfl) ?_
      rw [← hl, List.take_length]
    · exact hb.elim
/-- the depth is used up -/
theorem flatten_zero (hd : HasDef X pw "flatten") {Cl : Addr} (O : Own X "DepthError" Cl) (hr : Rm A 1) (hfr : A.frames = some l) {node : D} : CallR X A l "flatten" [node, .int 0] mu (.ref Cl) := by
  refine CallR.of ["node", "depth"] hd hr.room hfr rfl (by decide) (fun pm code doc ws hw => ?_) (by decide) fun L a code => ?_
  · match ws, hw with
    | [x, y], _ => rfl
  have hr' := hr.deep (fenv "flatten" (scoOf pw "flatten") L a code)
  refine ExR.ifT (Ts.cmp (Ev.name rfl) Ev.cint Cm.eqi) ?_
  exact ExR.raise O hr'.hand Ev.cstr rfl
/-- the child number k is too deep -/
theorem flatten_deep (bl : Blts X) (hd : HasDef X pw "flatten") {cls : Value} (hr : Rm A 2) (hfr : A.frames = some l) {ks vs : List Int} {kids : List D} {fls : List (List Int)} {d : Int} {k : Nat} (h0 : d ≠ 0) (hl : fls.length = kids.length) (hk : kids.length ≤ 2) (hkk : k < kids.length) (hsz : (rcd ks vs kids.length ++ fls.flatten).length ≤ 800)
    (hc : ∀ L a code mu' j, j < k → CallD X (A.deeper (fle L a code)) "flatten" [kids.getD j .none, .int (d - 1)] mu' (.lst (I (fls.getD j []))))
    (hb : ∀ L a code mu', CallR X (A.deeper (fle L a code)) (fle L a code :: l) "flatten" [kids.getD k .none, .int (d - 1)] mu' cls) : CallR X A l "flatten" [ndD ks vs kids, .int d] mu cls := by
  refine CallR.of ["node", "depth"] hd hr.room hfr rfl (by decide) (fun pm code doc ws hw => ?_) (by decide) fun L a code => ?_
  · match ws, hw with
    | [x, y], _ => rfl
  have hr' := hr.deep (fenv "flatten" (scoOf pw "flatten") L a code)
  rw [List.length_append, rec_len] at hsz
  refine ExR.ifF (Ts.is (Ts.cmp (Ev.name rfl) Ev.cint Cm.eqi) (by simpa using h0)) ?_
  refine ExR.assignF (f_out bl (by omega)) (by walk_at "kd") fun o ho => ?_
  refine ExR.forR k (fJ (ro mu) o ks vs kids fls d) (It.lst hr'.hand (Ev.item_tup (Ev.name rfl) (by decide) (by decide) rfl)) (by walk_at "kd") ⟨by walk_at "sub", by rw [List.take_zero, List.flatten_nil, List.append_nil]⟩ hkk (Around.frames_deeper hfr) (fun j md' mu' hj hJ => ?_) fun md' mu' hJ => ?_
  · exact f_turn bl hr' (by omega) hl (by rw [List.length_append, rec_len]; omega) (fun mu' => hc L a code mu' j hj) hJ
  · obtain ⟨hs, rfl⟩ := hJ
    refine ExS.forIter (EvR.call (hb L a code _) (EvAll.cons (Ev.name ?_) (EvAll.cons (Ev.sub (Ev.name ?_) Ev.cint) EvAll.nil)) rfl)
    · rw [lookup_upd, if_pos rfl]
    · exact (hs.cons _ _) _ _ rfl
end

end Mine

namespace Mine
open PySem PyProof.Rows
local macro_rules | `(tactic| walk_at "sz") => `(tactic| (first | assumption | decide | (simp only [List.length_append, List.length_take, List.length_drop, List.length_cons, List.length_nil, List.length_map, List.length_range, List.length_replicate, sizeLine] <;> omega) | (simp [sizeLine] <;> omega)))
local macro_rules | `(tactic| walk_at "kd") => `(tactic| first | exact .inl rfl | exact .inr ⟨rfl, rfl⟩)
local macro_rules | `(tactic| walk_at "evs") => `(tactic| first | exact EvAll.nil | (refine' EvAll.cons ?h1 ?h2; (case h1 => walk_at "ev"); (case h2 => walk_at "evs")))
local macro_rules | `(tactic| walk_at "call") => `(tactic| fail "no call")
local macro_rules | `(tactic| walk_at "at") => `(tactic| assumption)
local macro_rules | `(tactic| walk_at "ev") => `(tactic| first
  | exact Ev.name rfl
  | exact Ev.cint
  | exact Ev.cstr
  | exact Ev.cnone
  | exact Ev.cbool
  | (refine' Ev.item_tup ?h1 (by decide) (by decide) ?h2; (case h1 => walk_at "ev"); (case h2 => rfl))
  | (refine' Ev.upto ?h1 Sq.lst ?h2 ?h3 ?h4; (case h1 => walk_at "ev"); (case h2 => walk_at "ev"); (case h3 => omega); (case h4 => walk_at "sz"))
  | (refine' Ev.from ?h1 Sq.lst ?h2 ?h3 ?h4; (case h1 => walk_at "ev"); (case h2 => walk_at "ev"); (case h3 => omega); (case h4 => walk_at "sz"))
  | (refine' Ev.item ?h1 Sq.lst ?h2 ?h3 ?h4 ?h5; (case h1 => walk_at "ev"); (case h2 => walk_at "ev"); (case h3 => omega); (case h4 => omega); (case h5 => walk_at "at"))
  | (refine' Ev.add ?h1 ?h2; (case h1 => walk_at "ev"); (case h2 => walk_at "ev"))
  | (refine' Ev.sub ?h1 ?h2; (case h1 => walk_at "ev"); (case h2 => walk_at "ev"))
  | (refine' Ev.mul ?h1 ?h2 ?h3; (case h1 => walk_at "ev"); (case h2 => walk_at "ev"); (case h3 => exact mulOk (by omega) (by omega)))
  | (refine' Ev.mod ?h1 ?h2 ?h3; (case h1 => walk_at "ev"); (case h2 => walk_at "ev"); (case h3 => omega))
  | (refine' Ev.cat ?h1 ?h2 ?h3; (case h1 => walk_at "ev"); (case h2 => walk_at "ev"); (case h3 => walk_at "sz"))
  | (refine' Ev.tup ?h1 ?h2; (case h1 => walk_at "evs"); (case h2 => walk_at "sz"))
  | (refine' Ev.lst ?h1 ?h2; (case h1 => walk_at "evs"); (case h2 => walk_at "sz"))
  | (refine' Ev.rep1 ?h1 ?h2 ?h3 ?h4; (case h1 => walk_at "ev"); (case h2 => walk_at "ev"); (case h3 => omega); (case h4 => omega))
  | (refine' Ev.call ?h1 ?h2 ?h3; (case h2 => walk_at "evs"); (case h1 => walk_at "call"); (case h3 => rfl))
  | fail "no ev")
local macro_rules | `(tactic| walk_at "asg") => `(tactic| (refine' Ex.assign ?he ?hx ?hk; (case he => walk_at "ev"); (case hx => walk_at "kd")))
local macro_rules | `(tactic| walk_at "cmd") => `(tactic| (first | exact trivial | (refine' ⟨⟨rfl, rfl, rfl⟩, ?_⟩; walk_at "cmd")))
local macro_rules | `(tactic| walk_at "subs") => `(tactic| (first | exact trivial | (refine' ⟨rfl, ?_⟩; walk_at "subs")))
local macro_rules | `(tactic| walk_at "sub") => `(tactic| (refine' Sub.ofL ?_; walk_at "subs"))
def exf (l : Lk) : List (List Int) := match l.ex with | none => [] | some p => [rcd p.1 p.2 0]
theorem exf_flat (l : Lk) : (exf l).flatten = exr l := by unfold exf exr; cases l.ex <;> simp
theorem exf_len (l : Lk) : (exf l).length = (exl l).length := by unfold exf exl; cases l.ex <;> rfl
section
variable {X : Cx} {A : Around} {mu : Mu} {fr : List Env}
theorem flatten_leaf (bl : Blts X) (hd : HasDef X pw "flatten") (hr : Rm A 2) {ks vs : List Int} {d : Int} (h0 : d ≠ 0) (hsz : (rcd ks vs 0).length ≤ 800) : CallD X A "flatten" [leafD ks vs, .int d] mu (.lst (I (rcd ks vs 0))) := by
  have := flatten_node (X := X) (A := A) (mu := mu) bl hd hr (ks := ks) (vs := vs) (kids := []) (fls := []) h0 rfl (by decide) (by simpa using hsz) fun L a code mu' j hj => absurd hj (Nat.not_lt_zero _)
  show CallD X A "flatten" [ndD ks vs [], .int d] mu (.lst (I (rcd ks vs 0)))
  simpa using this
theorem flatten_ok (bl : Blts X) (hd : HasDef X pw "flatten") {K V : List Int} : ∀ (ls : List Lk) {A : Around} {mu : Mu} {d : Int}, Rm A (ls.length + 2) → (ls.length : Int) < d → (flats ls ++ rcd K V 0).length ≤ 800 →
    CallD X A "flatten" [nestD ls (leafD K V), .int d] mu (.lst (I (flats ls ++ rcd K V 0)))
  | [], A, mu, d, hr, hlt, hsz => flatten_leaf bl hd hr (by simp at hlt; omega) (by simpa [flats] using hsz)
  | l :: r, A, mu, d, hr, hlt, hsz => by
    rw [List.length_cons] at hlt
    have hc := exl_c l
    have h1 := exl_le l
    have hlen : ((exl l ++ [nestD r (leafD K V)]).length : Int) = l.c := by rw [List.length_append, List.length_singleton]; omega
    have e : flats (l :: r) ++ rcd K V 0 = rcd l.ks l.vs ((exl l ++ [nestD r (leafD K V)]).length : Nat) ++ (exf l ++ [flats r ++ rcd K V 0]).flatten := by
      rw [hlen, List.flatten_append, exf_flat, flats, flatL]; simp
    rw [e] at hsz ⊢
    refine flatten_node bl hd (hr.less (by rw [List.length_cons]; omega)) (by omega) (by rw [List.length_append, List.length_append, exf_len]; rfl) (by rw [List.length_append, List.length_singleton]; omega) hsz fun L a code mu' j hj => ?_
    have hr' : Rm (A.deeper (fle L a code)) (r.length + 2) := hr.deep _
    have hszr : (flats r ++ rcd K V 0).length ≤ 800 := by
      simp only [List.flatten_append, List.flatten_cons, List.flatten_nil, List.append_nil, List.length_append] at hsz ⊢
      omega
    have below := flatten_ok bl hd r (A := A.deeper (fle L a code)) (mu := mu') (d := d - 1) hr' (by omega) hszr
    cases hx : l.ex with
    | none =>
      have e1 : exl l = [] := by unfold exl; rw [hx]
      have e2 : exf l = [] := by unfold exf; rw [hx]
      rw [e1] at hj
      rw [e1, e2]
      have : j = 0 := by simp at hj; exact hj
      subst this
      exact below
    | some p =>
      have e1 : exl l = [leafD p.1 p.2] := by unfold exl; rw [hx]
      have e2 : exf l = [rcd p.1 p.2 0] := by unfold exf; rw [hx]
      rw [e1] at hj
      rw [e2] at hsz
      simp only [List.flatten_append, List.flatten_cons, List.flatten_nil, List.append_nil, List.length_append] at hsz
      rw [e1, e2]
      match j, hj with
      | 0, _ => exact flatten_leaf bl hd (hr'.less (by omega)) (by omega) (by omega)
      | 1, _ => exact below
theorem flatten_bad (bl : Blts X) (hd : HasDef X pw "flatten") {C : Addr} (O : Own X "DepthError" C) {b : D} : ∀ (ls : List Lk) {A : Around} {fr : List Env} {mu : Mu} {d : Int}, (∀ l ∈ ls, Wf l) → Rm A (ls.length + 2) → A.frames = some fr → 0 ≤ d → d ≤ (ls.length : Int) →
    CallR X A fr "flatten" [nestD ls b, .int d] mu (.ref C)
  | [], A, fr, mu, d, hw, hr, hfr, h0, hle => by
    have : d = 0 := by simp at hle; omega
    subst this
    exact flatten_zero hd O (hr.less (by omega)) hfr
  | l :: r, A, fr, mu, d, hw, hr, hfr, h0, hle => by
    rw [List.length_cons] at hle
    by_cases hz : d = 0
    · subst hz
      exact flatten_zero hd O (hr.less (by omega)) hfr
    have hl := hw l (.head _)
    have hc := exl_c l
    have h1 := exl_le l
    have below : ∀ L a code mu', CallR X (A.deeper (fle L a code)) (fle L a code :: fr) "flatten" [nestD r b, .int (d - 1)] mu' (.ref C) := fun L a code mu' =>
      flatten_bad bl hd O r (fun l hl => hw l (.tail _ hl)) (hr.deep _) (Around.frames_deeper hfr) (by omega) (by omega)
    have hr2 : Rm A 2 := hr.less (by rw [List.length_cons]; omega)
    have hq := hl.len
    have hq2 := hl.few
    cases hx : l.ex with
    | none =>
      have e1 : exl l = [] := by unfold exl; rw [hx]
      refine flatten_deep (k := 0) (fls := [[]]) bl hd hr2 hfr hz (by rw [e1]; rfl) (by rw [e1]; simp) (by rw [e1]; simp) (by rw [e1]; rw [List.length_append, rec_len]; simp; omega) (fun L a code mu' j hj => absurd hj (Nat.not_lt_zero _)) fun L a code mu' => ?_
      rw [e1]
      exact below L a code mu'
    | some p =>
      have e1 : exl l = [leafD p.1 p.2] := by unfold exl; rw [hx]
      have hp := hl.elen p hx
      by_cases hz1 : d = 1
      · subst hz1
        refine flatten_deep (k := 0) (fls := [[], []]) bl hd hr2 hfr hz (by rw [e1]; rfl) (by rw [e1]; simp) (by rw [e1]; simp) (by rw [e1]; rw [List.length_append, rec_len]; simp; omega) (fun L a code mu' j hj => absurd hj (Nat.not_lt_zero _)) fun L a code mu' => ?_
        rw [e1]
        exact flatten_zero hd O ((hr.deep _).less (by rw [List.length_cons]; omega)) (Around.frames_deeper hfr)
      · refine flatten_deep (k := 1) (fls := [rcd p.1 p.2 0, []]) bl hd hr2 hfr hz (by rw [e1]; rfl) (by rw [e1]; simp) (by rw [e1]; simp) (by rw [e1]; rw [List.length_append, rec_len]; simp [rec_len]; omega) (fun L a code mu' j hj => ?_) fun L a code mu' => ?_
        · have : j = 0 := by omega
          subst this
          rw [e1]
          exact flatten_leaf bl hd ((hr.deep _).less (by rw [List.length_cons]; omega)) (by omega) (by rw [rec_len]; omega)
        · rw [e1]
          exact below L a code mu'
end

end Mine

namespace Mine
open PySem PyProof.Rows
local macro_rules | `(tactic| walk_at "sz") => `(tactic| (first | assumption | decide | (simp only [List.length_append, List.length_take, List.length_drop, List.length_cons, List.length_nil, List.length_map, List.length_range, List.length_replicate, sizeLine] <;> omega) | (simp [sizeLine] <;> omega)))
local macro_rules | `(tactic| walk_at "kd") => `(tactic| first | exact .inl rfl | exact .inr ⟨rfl, rfl⟩)
local macro_rules | `(tactic| walk_at "evs") => `(tactic| first | exact EvAll.nil | (refine' EvAll.cons ?h1 ?h2; (case h1 => walk_at "ev"); (case h2 => walk_at "evs")))
local macro_rules | `(tactic| walk_at "call") => `(tactic| fail "no call")
local macro_rules | `(tactic| walk_at "at") => `(tactic| assumption)
local macro_rules | `(tactic| walk_at "ev") => `(tactic| first
  | exact Ev.name rfl
  | exact Ev.cint
  | exact Ev.cstr
  | exact Ev.cnone
  | exact Ev.cbool
  | (refine' Ev.item_tup ?h1 (by decide) (by decide) ?h2; (case h1 => walk_at "ev"); (case h2 => rfl))
  | (refine' Ev.upto ?h1 Sq.lst ?h2 ?h3 ?h4; (case h1 => walk_at "ev"); (case h2 => walk_at "ev"); (case h3 => omega); (case h4 => walk_at "sz"))
  | (refine' Ev.from ?h1 Sq.lst ?h2 ?h3 ?h4; (case h1 => walk_at "ev"); (case h2 => walk_at "ev"); (case h3 => omega); (case h4 => walk_at "sz"))
  | (refine' Ev.item ?h1 Sq.lst ?h2 ?h3 ?h4 ?h5; (case h1 => walk_at "ev"); (case h2 => walk_at "ev"); (case h3 => omega); (case h4 => omega); (case h5 => walk_at "at"))
  | (refine' Ev.add ?h1 ?h2; (case h1 => walk_at "ev"); (case h2 => walk_at "ev"))
  | (refine' Ev.sub ?h1 ?h2; (case h1 => walk_at "ev"); (case h2 => walk_at "ev"))
  | (refine' Ev.mul ?h1 ?h2 ?h3; (case h1 => walk_at "ev"); (case h2 => walk_at "ev"); (case h3 => exact mulOk (by omega) (by omega)))
  | (refine' Ev.mod ?h1 ?h2 ?h3; (case h1 => walk_at "ev"); (case h2 => walk_at "ev"); (case h3 => omega))
  | (refine' Ev.cat ?h1 ?h2 ?h3; (case h1 => walk_at "ev"); (case h2 => walk_at "ev"); (case h3 => walk_at "sz"))
  | (refine' Ev.tup ?h1 ?h2; (case h1 => walk_at "evs"); (case h2 => walk_at "sz"))
  | (refine' Ev.lst ?h1 ?h2; (case h1 => walk_at "evs"); (case h2 => walk_at "sz"))
  | (refine' Ev.rep1 ?h1 ?h2 ?h3 ?h4; (case h1 => walk_at "ev"); (case h2 => walk_at "ev"); (case h3 => omega); (case h4 => omega))
  | (refine' Ev.call ?h1 ?h2 ?h3; (case h2 => walk_at "evs"); (case h1 => walk_at "call"); (case h3 => rfl))
  | fail "no ev")
local macro_rules | `(tactic| walk_at "asg") => `(tactic| (refine' Ex.assign ?he ?hx ?hk; (case he => walk_at "ev"); (case hx => walk_at "kd")))
local macro_rules | `(tactic| walk_at "cmd") => `(tactic| (first | exact trivial | (refine' ⟨⟨rfl, rfl, rfl⟩, ?_⟩; walk_at "cmd")))
local macro_rules | `(tactic| walk_at "subs") => `(tactic| (first | exact trivial | (refine' ⟨rfl, ?_⟩; walk_at "subs")))
local macro_rules | `(tactic| walk_at "sub") => `(tactic| (refine' Sub.ofL ?_; walk_at "subs"))
def cv (ns : List Int) (i : Int) : Int := ns[i.toNat]?.getD i
def mkL (kind k v : Int) : Lk := if kind = 0 then ⟨[], [], none⟩ else if kind = 1 then ⟨[k], [v], none⟩ else if kind = 2 then ⟨[], [], some ([], [])⟩ else if kind = 3 then ⟨[], [], some ([k], [v])⟩ else ⟨[k], [v], some ([], [])⟩
theorem mkL_wf (kind k v : Int) : Wf (mkL kind k v) := by
  unfold mkL
  split
  · exact ⟨rfl, by decide, fun p h => nomatch h⟩
  split
  · exact ⟨rfl, by simp, fun p h => nomatch h⟩
  split
  · exact ⟨rfl, by decide, fun p h => by cases h; exact ⟨rfl, by decide⟩⟩
  split
  · exact ⟨rfl, Nat.zero_le _, fun p h => by cases h; exact ⟨rfl, by simp⟩⟩
  · exact ⟨rfl, by simp, fun p h => by cases h; exact ⟨rfl, by decide⟩⟩
section
variable {X : Cx} {A : Around} {mu : Mu} {fr : List Env}
theorem Ev.neg {env : Env} {md : Md} {e : Expr} {pos : Pos} {i : Int} (h : Ev X A env md mu e (.int i)) : Ev X A env md mu (.UnaryOp .USub e pos) (.int (-i)) := by
  refine ⟨fun keep g₀ g s Q E S k => wpAny_UnaryOp (h.run keep g₀ g s _ E S fun v g₁ h₁ tk₁ S₁ x₁ r₁ => ?_)⟩
  cases r₁
  exact PyProof.Rows.neg_int (k _ g₁ h₁ _ S₁ x₁ (.int _ _))
theorem cell_call {l : Addr} {ns : List Int} (bl : Blts X) (sc : Scr X l ns) (hd : HasDef X pw "_law_cell") (hr : Rm A 1) {i : Int} (hi : 0 ≤ i) : CallD X A "_law_cell" [.ptr l, .int i] mu (.int (cv ns i)) := by
  refine CallD.of ["script", "at"] hd hr.room rfl (by decide) (fun pm code doc ws hw => ?_) (by decide) fun L a code => ?_
  · match ws, hw with
    | [x, y], _ => rfl
  unfold cv
  refine Ex.ite (p := decide (i < ns.length)) (Ts.cmp (Ev.name rfl) (Ev.lenScr sc bl.len (Ev.name rfl) rfl) Cm.lt) (fun hp => ?_) fun hp => ?_
  · have hp' : i.toNat < ns.length := by simp at hp; omega
    refine Ex.ret (Ev.itemScr sc (Ev.name rfl) (Ev.name rfl) hi (List.getElem?_eq_getElem hp')) ?_
    rw [List.getElem?_eq_getElem hp']; rfl
  · have hp' : ns.length ≤ i.toNat := by simp at hp; omega
    refine Ex.ret (Ev.name rfl) ?_
    rw [List.getElem?_eq_none hp']; rfl
theorem link_call (hd : HasDef X pw "_law_link") (hr : Rm A 1) {kind k v : Int} {below : D} : CallD X A "_law_link" [.int kind, .int k, .int v, below] mu (.tup [.lst (I (flatL (mkL kind k v))), upD (mkL kind k v) below]) := by
  refine CallD.of ["kind", "k", "v", "below"] hd hr.room rfl (by decide) (fun pm code doc ws hw => ?_) (by decide) fun L a code => ?_
  · match ws, hw with
    | [x, y, z, w], _ => rfl
  refine Ex.ite (p := kind == 0) (Ts.cmp (Ev.name rfl) Ev.cint Cm.eqi) (fun hp => ?_) fun h0 => ?_
  · have hp : kind = 0 := by simpa using hp
    subst hp
    refine Ex.ret (by walk_at "ev") ?_
    rfl
  have h0 : kind ≠ 0 := by simpa using h0
  refine Ex.ite (p := kind == 1) (Ts.cmp (Ev.name rfl) Ev.cint Cm.eqi) (fun hp => ?_) fun h1 => ?_
  · have hp : kind = 1 := by simpa using hp
    subst hp
    refine Ex.ret (by walk_at "ev") ?_
    rfl
  have h1 : kind ≠ 1 := by simpa using h1
  refine Ex.ite (p := kind == 2) (Ts.cmp (Ev.name rfl) Ev.cint Cm.eqi) (fun hp => ?_) fun h2 => ?_
  · have hp : kind = 2 := by simpa using hp
    subst hp
    refine Ex.ret (by walk_at "ev") ?_
    rfl
  have h2 : kind ≠ 2 := by simpa using h2
  refine Ex.ite (p := kind == 3) (Ts.cmp (Ev.name rfl) Ev.cint Cm.eqi) (fun hp => ?_) fun h3 => ?_
  · have hp : kind = 3 := by simpa using hp
    subst hp
    refine Ex.ret (by walk_at "ev") ?_
    rfl
  have h3 : kind ≠ 3 := by simpa using h3
  refine Ex.ret (by walk_at "ev") ?_
  unfold mkL
  rw [if_neg h0, if_neg h1, if_neg h2, if_neg h3]
  rfl
/-- reading what can be read -/
theorem read_ok (hd : HasDef X pw "_law_read") (hr : Rm A 1) {data d : D} (hc : ∀ L a code mu', CallD X (A.deeper (fenv "_law_read" (scoOf pw "_law_read") L a code)) "unflatten" [data] mu' d) : CallT X A fr "_law_read" [data] mu d := by
  refine CallD.t fr ?_
  refine CallD.of ["data"] hd hr.room rfl (by decide) (fun pm code doc ws hw => ?_) (by decide) fun L a code => ?_
  · match ws, hw with
    | [x], _ => rfl
  refine Ex.tryN (P := fun md _ => Sub [("got", d)] md) (Ex.assign (Ev.call (hc L a code _) (by walk_at "evs") rfl) (by walk_at "kd") (Ex.nil (by walk_at "sub"))) fun md' mu' hs => ?_
  exact Ex.weaken hs (Ex.ret (Ev.name rfl) rfl)
theorem read_bad (hd : HasDef X pw "_law_read") (hr : Rm A 1) (hfr : A.frames = some fr) {C : Addr} (O : Own X "FormatError" C) {data : D} (hc : ∀ L a code mu', CallR X (A.deeper (fenv "_law_read" (scoOf pw "_law_read") L a code)) (fenv "_law_read" (scoOf pw "_law_read") L a code :: fr) "unflatten" [data] mu' (.ref C)) :
    CallT X A fr "_law_read" [data] mu (.str "refused") := by
  refine CallT.caught ["data"] hd O hr.room hfr rfl (by decide) (fun pm code doc ws hw => ?_) (by decide) rfl fun L a code => ?_
  · match ws, hw with
    | [x], _ => rfl
  exact ExS.assignR (EvR.call (hc L a code _) (by walk_at "evs") rfl)
theorem flat_ok (hd : HasDef X pw "_law_flat") (hr : Rm A 1) {nest d : D} {b : Int} (hc : ∀ L a code mu', CallD X (A.deeper (fenv "_law_flat" (scoOf pw "_law_flat") L a code)) "flatten" [nest, .int b] mu' d) : CallT X A fr "_law_flat" [nest, .int b] mu d := by
  refine CallD.t fr ?_
  refine CallD.of ["nest", "budget"] hd hr.room rfl (by decide) (fun pm code doc ws hw => ?_) (by decide) fun L a code => ?_
  · match ws, hw with
    | [x, y], _ => rfl
  refine Ex.tryN (P := fun md _ => Sub [("got", d)] md) (Ex.assign (Ev.call (hc L a code _) (by walk_at "evs") rfl) (by walk_at "kd") (Ex.nil (by walk_at "sub"))) fun md' mu' hs => ?_
  exact Ex.weaken hs (Ex.ret (Ev.name rfl) rfl)
theorem flat_bad (hd : HasDef X pw "_law_flat") (hr : Rm A 1) (hfr : A.frames = some fr) {C : Addr} (O : Own X "DepthError" C) {nest : D} {b : Int} (hc : ∀ L a code mu', CallR X (A.deeper (fenv "_law_flat" (scoOf pw "_law_flat") L a code)) (fenv "_law_flat" (scoOf pw "_law_flat") L a code :: fr) "flatten" [nest, .int b] mu' (.ref C)) :
    CallT X A fr "_law_flat" [nest, .int b] mu (.str "too deep") := by
  refine CallT.caught ["nest", "budget"] hd O hr.room hfr rfl (by decide) (fun pm code doc ws hw => ?_) (by decide) rfl fun L a code => ?_
  · match ws, hw with
    | [x, y], _ => rfl
  exact ExS.assignR (EvR.call (hc L a code _) (by walk_at "evs") rfl)
end

end Mine

namespace Mine
open PySem PyProof.Rows
local macro_rules | `(tactic| walk_at "sz") => `(tactic| (first | assumption | decide | (simp only [List.length_append, List.length_take, List.length_drop, List.length_cons, List.length_nil, List.length_map, List.length_range, List.length_replicate, sizeLine] <;> omega) | (simp [sizeLine] <;> omega)))
local macro_rules | `(tactic| walk_at "kd") => `(tactic| first | exact .inl rfl | exact .inr ⟨rfl, rfl⟩)
local macro_rules | `(tactic| walk_at "evs") => `(tactic| first | exact EvAll.nil | (refine' EvAll.cons ?h1 ?h2; (case h1 => walk_at "ev"); (case h2 => walk_at "evs")))
local macro_rules | `(tactic| walk_at "call") => `(tactic| fail "no call")
local macro_rules | `(tactic| walk_at "at") => `(tactic| assumption)
local macro_rules | `(tactic| walk_at "ev") => `(tactic| first
  | exact Ev.name rfl
  | exact Ev.cint
  | exact Ev.cstr
  | exact Ev.cnone
  | exact Ev.cbool
  | (refine' Ev.item_tup ?h1 (by decide) (by decide) ?h2; (case h1 => walk_at "ev"); (case h2 => rfl))
  | (refine' Ev.upto ?h1 Sq.lst ?h2 ?h3 ?h4; (case h1 => walk_at "ev"); (case h2 => walk_at "ev"); (case h3 => omega); (case h4 => walk_at "sz"))
  | (refine' Ev.from ?h1 Sq.lst ?h2 ?h3 ?h4; (case h1 => walk_at "ev"); (case h2 => walk_at "ev"); (case h3 => omega); (case h4 => walk_at "sz"))
  | (refine' Ev.item ?h1 Sq.lst ?h2 ?h3 ?h4 ?h5; (case h1 => walk_at "ev"); (case h2 => walk_at "ev"); (case h3 => omega); (case h4 => omega); (case h5 => walk_at "at"))
  | (refine' Ev.add ?h1 ?h2; (case h1 => walk_at "ev"); (case h2 => walk_at "ev"))
  | (refine' Ev.sub ?h1 ?h2; (case h1 => walk_at "ev"); (case h2 => walk_at "ev"))
  | (refine' Ev.mul ?h1 ?h2 ?h3; (case h1 => walk_at "ev"); (case h2 => walk_at "ev"); (case h3 => exact mulOk (by omega) (by omega)))
  | (refine' Ev.mod ?h1 ?h2 ?h3; (case h1 => walk_at "ev"); (case h2 => walk_at "ev"); (case h3 => omega))
  | (refine' Ev.cat ?h1 ?h2 ?h3; (case h1 => walk_at "ev"); (case h2 => walk_at "ev"); (case h3 => walk_at "sz"))
  | (refine' Ev.tup ?h1 ?h2; (case h1 => walk_at "evs"); (case h2 => walk_at "sz"))
  | (refine' Ev.lst ?h1 ?h2; (case h1 => walk_at "evs"); (case h2 => walk_at "sz"))
  | (refine' Ev.rep1 ?h1 ?h2 ?h3 ?h4; (case h1 => walk_at "ev"); (case h2 => walk_at "ev"); (case h3 => omega); (case h4 => omega))
  | (refine' Ev.call ?h1 ?h2 ?h3; (case h2 => walk_at "evs"); (case h1 => walk_at "call"); (case h3 => rfl))
  | fail "no ev")
local macro_rules | `(tactic| walk_at "asg") => `(tactic| (refine' Ex.assign ?he ?hx ?hk; (case he => walk_at "ev"); (case hx => walk_at "kd")))
local macro_rules | `(tactic| walk_at "cmd") => `(tactic| (first | exact trivial | (refine' ⟨⟨rfl, rfl, rfl⟩, ?_⟩; walk_at "cmd")))
local macro_rules | `(tactic| walk_at "subs") => `(tactic| (first | exact trivial | (refine' ⟨rfl, ?_⟩; walk_at "subs")))
local macro_rules | `(tactic| walk_at "sub") => `(tactic| (refine' Sub.ofL ?_; walk_at "subs"))
def spT (how : Int) (K V : List Int) : List Int := if how = 0 then (K.length : Int) :: (K ++ V) else if how = 1 then [] else if how = 2 then rcd K V 0 ++ [0] else if how = 3 then rcd K V (-1) ++ [] else [1, 1, 1, 1, -2, 0]
theorem I_append (a b : List Int) : I (a ++ b) = I a ++ I b := List.map_append
section
variable {X : Cx} {A : Around} {mu : Mu}
theorem spoilt_call (bl : Blts X) (hd : HasDef X pw "_law_spoilt") (hr : Rm A 1) {how : Int} {F K V : List Int} (hsz : (F ++ rcd K V 0).length ≤ 900) :
    CallD X A "_law_spoilt" [.int how, .lst (I (F ++ rcd K V 0)), .int ((rcd K V 0).length : Nat)] mu (.lst (I (F ++ spT how K V))) := by
  refine CallD.of ["how", "flat", "size"] hd hr.room rfl (by decide) (fun pm code doc ws hw => ?_) (by decide) fun L a code => ?_
  · match ws, hw with
    | [x, y, z], _ => rfl
  have s1 : (I (F ++ rcd K V 0)).length ≤ sizeLine := by rw [I_len]; simp only [sizeLine]; omega
  have hlen : (I (F ++ rcd K V 0)).length = F.length + K.length + V.length + 2 := by rw [I_len, List.length_append, rec_len]; omega
  have l0 : (rcd K V 0).length = K.length + V.length + 2 := rec_len ..
  rw [List.length_append, l0] at hsz
  have t1 : (I (F ++ rcd K V 0)).take (((I (F ++ rcd K V 0)).length : Int) - 1).toNat = I (F ++ ((K.length : Int) :: (K ++ V))) := by
    rw [show I (F ++ rcd K V 0) = I (F ++ ((K.length : Int) :: (K ++ V))) ++ [.int 0] by simp [I, rcd]]
    refine takeL ?_
    rw [List.length_append, List.length_singleton]; omega
  have t2 : (I (F ++ rcd K V 0)).take (((I (F ++ rcd K V 0)).length : Int) - ((rcd K V 0).length : Nat)).toNat = I F := by
    rw [I_append]
    refine takeL ?_
    rw [List.length_append, I_len, I_len]; omega
  refine Ex.ite (p := how == 0) (Ts.cmp (Ev.name rfl) Ev.cint Cm.eqi) (fun hp => ?_) fun h0 => ?_
  · have hp : how = 0 := by simpa using hp
    subst hp
    refine Ex.ret (Ev.upto (Ev.name rfl) Sq.lst (Ev.sub (Ev.len bl.len (Ev.name rfl) Sq.lst rfl s1) Ev.cint) (by rw [hlen]; omega) s1) ?_
    rw [t1]; rfl
  have h0 : how ≠ 0 := by simpa using h0
  refine Ex.ite (p := how == 1) (Ts.cmp (Ev.name rfl) Ev.cint Cm.eqi) (fun hp => ?_) fun h1 => ?_
  · have hp : how = 1 := by simpa using hp
    subst hp
    refine Ex.ret (Ev.upto (Ev.name rfl) Sq.lst (Ev.sub (Ev.len bl.len (Ev.name rfl) Sq.lst rfl s1) (Ev.name rfl)) (by rw [hlen, l0]; omega) s1) ?_
    rw [t2]
    show D.lst (I F) = .lst (I (F ++ []))
    rw [List.append_nil]
  have h1 : how ≠ 1 := by simpa using h1
  refine Ex.ite (p := how == 2) (Ts.cmp (Ev.name rfl) Ev.cint Cm.eqi) (fun hp => ?_) fun h2 => ?_
  · have hp : how = 2 := by simpa using hp
    subst hp
    refine Ex.ret (Ev.cat (Ev.name rfl) (Ev.lst (EvAll.cons Ev.cint EvAll.nil)) (by rw [hlen]; simp [sizeLine]; omega)) ?_
    show D.lst (I (F ++ rcd K V 0) ++ [.int 0]) = .lst (I (F ++ (rcd K V 0 ++ [0])))
    rw [← List.append_assoc, I_append (F ++ rcd K V 0)]; rfl
  have h2 : how ≠ 2 := by simpa using h2
  refine Ex.ite (p := how == 3) (Ts.cmp (Ev.name rfl) Ev.cint Cm.eqi) (fun hp => ?_) fun h3 => ?_
  · have hp : how = 3 := by simpa using hp
    subst hp
    refine Ex.ret (Ev.cat (Ev.upto (Ev.name rfl) Sq.lst (Ev.sub (Ev.len bl.len (Ev.name rfl) Sq.lst rfl s1) Ev.cint) (by rw [hlen]; omega) s1) (Ev.lst (EvAll.cons (Ev.neg Ev.cint) EvAll.nil)) (by rw [List.length_take, hlen]; simp [sizeLine]; omega)) ?_
    rw [t1]
    show D.lst (I (F ++ ((K.length : Int) :: (K ++ V))) ++ [.int (-1)]) = .lst (I (F ++ (rcd K V (-1) ++ [])))
    congr 1
    simp [I, rcd]
  have h3 : how ≠ 3 := by simpa using h3
  refine Ex.ret (Ev.cat (Ev.upto (Ev.name rfl) Sq.lst (Ev.sub (Ev.len bl.len (Ev.name rfl) Sq.lst rfl s1) (Ev.name rfl)) (by rw [hlen, l0]; omega) s1) (Ev.lst (EvAll.cons Ev.cint (EvAll.cons Ev.cint (EvAll.cons Ev.cint (EvAll.cons Ev.cint (EvAll.cons (Ev.neg Ev.cint) (EvAll.cons Ev.cint EvAll.nil))))))) (by rw [List.length_take, hlen]; simp [sizeLine]; omega)) ?_
  rw [t2]
  unfold spT
  rw [if_neg h0, if_neg h1, if_neg h2, if_neg h3, I_append]
  rfl
end

def kindAt (ns : List Int) (links : Int) (i : Nat) : Int := if (i : Int) = cv ns 3 % (links + 1) then cv ns 4 % 5 else cv ns 5 % 2
def lkAt (ns : List Int) (links : Int) (i : Nat) : Lk := mkL (kindAt ns links i) (cv ns 6 + i) (cv ns 7 - i)
def chn (ns : List Int) (links : Int) : Nat → List Lk
  | 0 => []
  | i + 1 => lkAt ns links i :: chn ns links i
def leafK (ns : List Int) : List Int := (List.range (cv ns 2 % 3).toNat).map fun (j : Nat) => cv ns (10 + j)
def leafV (ns : List Int) : List Int := (List.range (cv ns 2 % 3).toNat).map fun (j : Nat) => cv ns (12 + j)
theorem chn_len (ns : List Int) (links : Int) (i : Nat) : (chn ns links i).length = i := by
  induction i with
  | zero => rfl
  | succ i ih => rw [chn, List.length_cons, ih]
theorem chn_wf (ns : List Int) (links : Int) (i : Nat) : ∀ l ∈ chn ns links i, Wf l := by
  induction i with
  | zero => intro l hl; cases hl
  | succ i ih =>
    intro l hl
    rw [chn] at hl
    rcases List.mem_cons.mp hl with rfl | hl
    · exact mkL_wf ..
    · exact ih l hl
theorem flatL_len {l : Lk} (h : Wf l) : (flatL l).length ≤ 12 := by
  have h1 := h.len
  have h2 := h.few
  rw [flatL, List.length_append, rec_len]
  cases hx : l.ex with
  | none => rw [exr_none hx, List.length_nil]; omega
  | some p =>
    have h3 := h.elen p hx
    rw [exr_some (x := p.1) (y := p.2) hx, rec_len]; omega
theorem flats_len {ls : List Lk} (h : ∀ l ∈ ls, Wf l) : (flats ls).length ≤ 12 * ls.length := by
  induction ls with
  | nil => exact Nat.zero_le _
  | cons l r ih =>
    have h1 := flatL_len (h l (.head _))
    have h2 := ih fun l hl => h l (.tail _ hl)
    rw [flats, List.length_append, List.length_cons]; omega
section
variable {X : Cx} {A : Around} {mu : Mu}
abbrev cbod : List Stmt := forBody (bodOf pw "_law_chain")
abbrev chnm (l : Addr) (ns : List Int) (links : Int) (i : Nat) : Md := [("script", .ptr l), ("place", .int (cv ns 3 % (links + 1))), ("k", .int (cv ns 6)), ("v", .int (cv ns 7)), ("flat", .lst (I (flats (chn ns links i) ++ rcd (leafK ns) (leafV ns) 0))), ("nest", nestD (chn ns links i) (leafD (leafK ns) (leafV ns))), ("size", .int ((rcd (leafK ns) (leafV ns) 0).length : Nat))]
theorem chain_call (bl : Blts X) {l : Addr} {ns : List Int} (sc : Scr X l ns) (hcell : HasDef X pw "_law_cell") (hlink : HasDef X pw "_law_link") (hd : HasDef X pw "_law_chain") (hr : Rm A 2) {links : Int} (h0 : 0 ≤ links) (h1 : links ≤ 62) :
    CallD X A "_law_chain" [.ptr l, .int links] mu (.tup [.lst (I (flats (chn ns links links.toNat) ++ rcd (leafK ns) (leafV ns) 0)), nestD (chn ns links links.toNat) (leafD (leafK ns) (leafV ns)), .int ((rcd (leafK ns) (leafV ns) 0).length : Nat)]) := by
  refine CallD.of ["script", "links"] hd hr.room rfl (by decide) (fun pm code doc ws hw => ?_) (by decide) fun L a code => ?_
  · match ws, hw with
    | [x, y], _ => rfl
  have hr' := hr.deep (fenv "_law_chain" (scoOf pw "_law_chain") L a code)
  have cc : ∀ (k : Int) (hk : 0 ≤ k) u, CallD X (A.deeper (fenv "_law_chain" (scoOf pw "_law_chain") L a code)) "_law_cell" [.ptr l, .int k] u (.int (cv ns k)) := fun k hk u => cell_call bl sc hcell hr' hk
  have hn1 : 0 ≤ cv ns 2 % 3 ∧ cv ns 2 % 3 < 3 := by omega
  have lk : (leafK ns).length = (cv ns 2 % 3).toNat := by unfold leafK; simp
  have lv : (leafV ns).length = (cv ns 2 % 3).toNat := by unfold leafV; simp
  refine Ex.assign (Ev.mod (Ev.call (cc 2 (by decide) _) (by walk_at "evs") rfl) Ev.cint (by decide)) (by walk_at "kd") ?_
  refine Ex.assignCompZ (cmd := [("script", .ptr l)]) (de := fun j => .int (cv ns (10 + j))) (CompOk.of (by walk_at "cmd")) (It.range hr'.hand bl.range (Ev.name rfl) rfl (by omega) (by omega)) (by walk_at "sz") (fun C i hi => Ev.call (cc _ (by omega) _) (by walk_at "evs") rfl) (by walk_at "kd") ?_
  refine Ex.assignCompZ (cmd := [("script", .ptr l)]) (de := fun j => .int (cv ns (12 + j))) (CompOk.of (by walk_at "cmd")) (It.range hr'.hand bl.range (Ev.name rfl) rfl (by omega) (by omega)) (by walk_at "sz") (fun C i hi => Ev.call (cc _ (by omega) _) (by walk_at "evs") rfl) (by walk_at "kd") ?_
  rw [show ((List.range (cv ns 2 % 3).toNat).map fun (j : Nat) => D.int (cv ns (10 + j))) = I (leafK ns) by simp [I, leafK], show ((List.range (cv ns 2 % 3).toNat).map fun (j : Nat) => D.int (cv ns (12 + j))) = I (leafV ns) by simp [I, leafV]]
  have lI : (I (leafK ns)).length ≤ 2 := by rw [I_len]; omega
  have lJ : (I (leafV ns)).length ≤ 2 := by rw [I_len]; omega
  walk_at "asg"
  refine Ex.assign (d := .lst (I (rcd (leafK ns) (leafV ns) 0))) (Ev.is (Ev.cat (Ev.cat (Ev.cat (Ev.lst (EvAll.cons (Ev.name rfl) EvAll.nil)) (Ev.name rfl) (by simp only [List.length_cons, List.length_nil, sizeLine]; omega)) (Ev.name rfl) (by simp only [List.length_append, List.length_cons, List.length_nil, sizeLine]; omega)) (Ev.lst (EvAll.cons Ev.cint EvAll.nil)) (by simp only [List.length_append, List.length_cons, List.length_nil, sizeLine]; omega)) ?_) (by walk_at "kd") ?_
  · have : cv ns 2 % 3 = ((leafK ns).length : Int) := by rw [lk]; omega
    rw [this]
    congr 1
    simp [I, rcd]
  have hrl : (rcd (leafK ns) (leafV ns) 0).length ≤ 6 := by rw [rec_len]; omega
  refine Ex.assign (d := .int ((rcd (leafK ns) (leafV ns) 0).length : Nat)) (Ev.is (Ev.len bl.len (Ev.name rfl) Sq.lst rfl (by rw [I_len]; simp only [sizeLine]; omega)) (by rw [I_len])) (by walk_at "kd") ?_
  refine Ex.assign (Ev.mod (Ev.call (cc 3 (by decide) _) (by walk_at "evs") rfl) (Ev.add (Ev.name rfl) Ev.cint) (by omega)) (by walk_at "kd") ?_
  refine Ex.assign (Ev.call (cc 6 (by decide) _) (by walk_at "evs") rfl) (by walk_at "kd") ?_
  refine Ex.assign (Ev.call (cc 7 (by decide) _) (by walk_at "evs") rfl) (by walk_at "kd") ?_
  refine Ex.forMM (chnm l ns links) (fun _ => ro mu) No (It.range hr'.hand bl.range (Ev.name rfl) rfl (by omega) (by omega)) (by walk_at "kd") (by walk_at "sub") rfl (fun i hi => ?_) ?_ fun _ _ h => h.elim
  · have hfl := flats_len (chn_wf ns links i)
    rw [chn_len] at hfl
    have hll := flatL_len (mkL_wf (kindAt ns links i) (cv ns 6 + i) (cv ns 7 - i))
    have rest : ∀ kd, kd = kindAt ns links i → Ex X (A.deeper (fenv "_law_chain" (scoOf pw "_law_chain") L a code)) (fenv "_law_chain" (scoOf pw "_law_chain") L a code) (("kind", .int kd) :: ("i", .int i) :: chnm l ns links i) (ro mu) (cbod.drop 2)
        (fun md' mu' => Sub (chnm l ns links (i + 1)) md' ∧ mu' = ro mu) No (fun md' mu' => Sub (chnm l ns links (i + 1)) md' ∧ mu' = ro mu) (· = .tup [.lst (I (flats (chn ns links links.toNat) ++ rcd (leafK ns) (leafV ns) 0)), nestD (chn ns links links.toNat) (leafD (leafK ns) (leafV ns)), .int ((rcd (leafK ns) (leafV ns) 0).length : Nat)]) := by
      rintro kd rfl
      refine Ex.assign (Ev.call (link_call hlink hr') (EvAll.cons (Ev.name rfl) (EvAll.cons (Ev.add (Ev.name rfl) (Ev.name rfl)) (EvAll.cons (Ev.sub (Ev.name rfl) (Ev.name rfl)) (EvAll.cons (Ev.name rfl) EvAll.nil)))) rfl) (by walk_at "kd") ?_
      refine Ex.assign (d := .lst (I (flats (chn ns links (i + 1)) ++ rcd (leafK ns) (leafV ns) 0))) (Ev.is (Ev.cat (Ev.item_tup (Ev.name rfl) (by decide) (by decide) rfl) (Ev.name rfl) ?_) ?_) (by walk_at "kd") ?_
      · rw [I_len, I_len, List.length_append]; simp only [sizeLine]; omega
      · rw [← I_append, chn, flats, List.append_assoc]; rfl
      refine Ex.assign (d := nestD (chn ns links (i + 1)) (leafD (leafK ns) (leafV ns))) (Ev.item_tup (Ev.name rfl) (by decide) (by decide) rfl) (by walk_at "kd") ?_
      exact Ex.nil ⟨by walk_at "sub", rfl⟩
    refine Ex.assign (Ev.mod (Ev.call (cc 5 (by decide) _) (by walk_at "evs") rfl) Ev.cint (by decide)) (by walk_at "kd") ?_
    refine Ex.ite (p := (i : Int) == cv ns 3 % (links + 1)) (Ts.cmp (Ev.name rfl) (Ev.name rfl) Cm.eqi) (fun hp => ?_) fun hp => ?_
    · have hp : (i : Int) = cv ns 3 % (links + 1) := by simpa using hp
      refine Ex.assign (Ev.mod (Ev.call (cc 4 (by decide) _) (by walk_at "evs") rfl) Ev.cint (by decide)) (by walk_at "kd") ?_
      refine Ex.weaken ?_ (rest (cv ns 4 % 5) (by unfold kindAt; rw [if_pos hp]))
      walk_at "sub"
    · have hp : ¬ (i : Int) = cv ns 3 % (links + 1) := by simpa using hp
      exact rest (cv ns 5 % 2) (by unfold kindAt; rw [if_neg hp])
  · exact Ex.ret (Ev.tup (EvAll.cons (Ev.name rfl) (EvAll.cons (Ev.name rfl) (EvAll.cons (Ev.name rfl) EvAll.nil)))) rfl
end

end Mine

namespace Mine
open PySem PyProof.Rows
local macro_rules | `(tactic| walk_at "sz") => `(tactic| (first | assumption | decide | (simp only [List.length_append, List.length_take, List.length_drop, List.length_cons, List.length_nil, List.length_map, List.length_range, List.length_replicate, sizeLine] <;> omega) | (simp [sizeLine] <;> omega)))
local macro_rules | `(tactic| walk_at "kd") => `(tactic| first | exact .inl rfl | exact .inr ⟨rfl, rfl⟩)
local macro_rules | `(tactic| walk_at "evs") => `(tactic| first | exact EvAll.nil | (refine' EvAll.cons ?h1 ?h2; (case h1 => walk_at "ev"); (case h2 => walk_at "evs")))
local macro_rules | `(tactic| walk_at "call") => `(tactic| fail "no call")
local macro_rules | `(tactic| walk_at "at") => `(tactic| assumption)
local macro_rules | `(tactic| walk_at "ev") => `(tactic| first
  | exact Ev.name rfl
  | exact Ev.cint
  | exact Ev.cstr
  | exact Ev.cnone
  | exact Ev.cbool
  | (refine' Ev.item_tup ?h1 (by decide) (by decide) ?h2; (case h1 => walk_at "ev"); (case h2 => rfl))
  | (refine' Ev.upto ?h1 Sq.lst ?h2 ?h3 ?h4; (case h1 => walk_at "ev"); (case h2 => walk_at "ev"); (case h3 => omega); (case h4 => walk_at "sz"))
  | (refine' Ev.from ?h1 Sq.lst ?h2 ?h3 ?h4; (case h1 => walk_at "ev"); (case h2 => walk_at "ev"); (case h3 => omega); (case h4 => walk_at "sz"))
  | (refine' Ev.item ?h1 Sq.lst ?h2 ?h3 ?h4 ?h5; (case h1 => walk_at "ev"); (case h2 => walk_at "ev"); (case h3 => omega); (case h4 => omega); (case h5 => walk_at "at"))
  | (refine' Ev.add ?h1 ?h2; (case h1 => walk_at "ev"); (case h2 => walk_at "ev"))
  | (refine' Ev.sub ?h1 ?h2; (case h1 => walk_at "ev"); (case h2 => walk_at "ev"))
  | (refine' Ev.mul ?h1 ?h2 ?h3; (case h1 => walk_at "ev"); (case h2 => walk_at "ev"); (case h3 => exact mulOk (by omega) (by omega)))
  | (refine' Ev.mod ?h1 ?h2 ?h3; (case h1 => walk_at "ev"); (case h2 => walk_at "ev"); (case h3 => omega))
  | (refine' Ev.cat ?h1 ?h2 ?h3; (case h1 => walk_at "ev"); (case h2 => walk_at "ev"); (case h3 => walk_at "sz"))
  | (refine' Ev.tup ?h1 ?h2; (case h1 => walk_at "evs"); (case h2 => walk_at "sz"))
  | (refine' Ev.lst ?h1 ?h2; (case h1 => walk_at "evs"); (case h2 => walk_at "sz"))
  | (refine' Ev.rep1 ?h1 ?h2 ?h3 ?h4; (case h1 => walk_at "ev"); (case h2 => walk_at "ev"); (case h3 => omega); (case h4 => omega))
  | (refine' Ev.call ?h1 ?h2 ?h3; (case h2 => walk_at "evs"); (case h1 => walk_at "call"); (case h3 => rfl))
  | fail "no ev")
local macro_rules | `(tactic| walk_at "asg") => `(tactic| (refine' Ex.assign ?he ?hx ?hk; (case he => walk_at "ev"); (case hx => walk_at "kd")))
local macro_rules | `(tactic| walk_at "cmd") => `(tactic| (first | exact trivial | (refine' ⟨⟨rfl, rfl, rfl⟩, ?_⟩; walk_at "cmd")))
local macro_rules | `(tactic| walk_at "subs") => `(tactic| (first | exact trivial | (refine' ⟨rfl, ?_⟩; walk_at "subs")))
local macro_rules | `(tactic| walk_at "sub") => `(tactic| (refine' Sub.ofL ?_; walk_at "subs"))
theorem ints_ok (l : List Int) : Ok 1 (.lst (I l)) := Ok.lst fun d hd => by
  obtain ⟨i, _, rfl⟩ := List.mem_map.mp hd
  exact Ok.int
theorem leaf_ok (K V : List Int) : Ok 2 (leafD K V) := Ok.tup fun d hd => by
  simp only [List.mem_cons, List.not_mem_nil, or_false] at hd
  rcases hd with rfl | rfl | rfl
  · exact ints_ok K
  · exact ints_ok V
  · exact Ok.lst fun d hd => nomatch hd
theorem nest_ok (K V : List Int) : ∀ ls : List Lk, Ok (2 * ls.length + 2) (nestD ls (leafD K V))
  | [] => leaf_ok K V
  | l :: r => by
    have ih := nest_ok K V r
    refine Ok.mono (n := (2 * r.length + 2) + 1 + 1) (by rw [List.length_cons]; omega) (Ok.tup fun d hd => ?_)
    simp only [List.mem_cons, List.not_mem_nil, or_false] at hd
    rcases hd with rfl | rfl | rfl
    · exact Ok.mono (by omega) (ints_ok l.ks)
    · exact Ok.mono (by omega) (ints_ok l.vs)
    · refine Ok.lst fun d hd => ?_
      rcases List.mem_append.mp hd with hd | hd
      · unfold exl at hd
        cases hx : l.ex with
        | none => rw [hx] at hd; cases hd
        | some p =>
          rw [hx] at hd
          simp only [List.mem_singleton] at hd
          subst hd
          exact Ok.mono (by omega) (leaf_ok p.1 p.2)
      · simp only [List.mem_singleton] at hd
        subst hd; exact ih
/-- the defs and the classes of the text -/
structure Defs (X : Cx) (C₁ C₂ : Addr) : Prop where
  cell : HasDef X pw "_law_cell"
  link : HasDef X pw "_law_link"
  chain : HasDef X pw "_law_chain"
  spoilt : HasDef X pw "_law_spoilt"
  read : HasDef X pw "_law_read"
  flat : HasDef X pw "_law_flat"
  unfl : HasDef X pw "unflatten"
  fl : HasDef X pw "flatten"
  law : HasDef X pw "law"
  deep : Own X "DepthError" C₁
  form : Own X "FormatError" C₂
section
variable {X : Cx} {A : Around} {fr : List Env} {mu : Mu} {C₁ C₂ : Addr} {ls : List Lk} {K V : List Int}
theorem flatT_bad (bl : Blts X) (df : Defs X C₁ C₂) (hr : Rm A 100) (hfr : A.frames = some fr) (hw : ∀ l ∈ ls, Wf l) (h62 : ls.length ≤ 62) {d : Int} (h0 : 0 ≤ d) (h1 : d ≤ ls.length) : CallT X A fr "_law_flat" [nestD ls (leafD K V), .int d] mu (.str "too deep") :=
  flat_bad df.flat (hr.less (by decide)) hfr df.deep fun L a code mu' => flatten_bad bl df.fl df.deep ls hw ((hr.deep _).less (by omega)) (Around.frames_deeper hfr) h0 h1
theorem flatT_ok (bl : Blts X) (df : Defs X C₁ C₂) (hr : Rm A 100) (h62 : ls.length ≤ 62) (hsz : (flats ls ++ rcd K V 0).length ≤ 800) {d : Int} (h1 : (ls.length : Int) < d) : CallT X A fr "_law_flat" [nestD ls (leafD K V), .int d] mu (.lst (I (flats ls ++ rcd K V 0))) :=
  flat_ok df.flat (hr.less (by decide)) fun L a code mu' => flatten_ok bl df.fl ls ((hr.deep _).less (by omega)) h1 hsz
theorem readT_ok (bl : Blts X) (df : Defs X C₁ C₂) (hr : Rm A 100) (hw : ∀ l ∈ ls, Wf l) (hK : K.length = V.length) (hs : (flats ls ++ rcd K V 0).length ≤ 1000) (h60 : ls.length < 60) : CallT X A fr "_law_read" [.lst (I (flats ls ++ rcd K V 0))] mu (nestD ls (leafD K V)) :=
  read_ok df.read (hr.less (by decide)) fun L a code mu' => unflatten_ok bl df.unfl ((hr.deep _).less (by decide)) hw hK hs h60
theorem readT_bad (bl : Blts X) (df : Defs X C₁ C₂) (hr : Rm A 100) (hfr : A.frames = some fr) (hw : ∀ l ∈ ls, Wf l) (hK : K.length = V.length) {tail : List Int} (hs : (flats ls ++ tail).length ≤ 1000) (ht : Spoilt K V ls.length tail) : CallT X A fr "_law_read" [.lst (I (flats ls ++ tail))] mu (.str "refused") :=
  read_bad df.read (hr.less (by decide)) hfr df.form fun L a code mu' => unflatten_bad bl df.unfl df.form ((hr.deep _).less (by decide)) (Around.frames_deeper hfr) hw hK hs ht
theorem readT_spoilt (bl : Blts X) (df : Defs X C₁ C₂) (hr : Rm A 100) (hfr : A.frames = some fr) (hw : ∀ l ∈ ls, Wf l) (hK : K.length = V.length) (hs : (flats ls ++ rcd K V 0).length ≤ 900) (how : Int) : CallT X A fr "_law_read" [.lst (I (flats ls ++ spT how K V))] mu (.str "refused") := by
  rw [List.length_append, rec_len] at hs
  unfold spT
  split
  · exact readT_bad bl df hr hfr hw hK (by rw [List.length_append, List.length_cons, List.length_append]; omega) .cut
  split
  · exact readT_bad bl df hr hfr hw hK (by rw [List.append_nil]; omega) .none
  split
  · exact readT_bad bl df hr hfr hw hK (by rw [List.length_append, List.length_append, rec_len, List.length_singleton]; omega) (.more (by simp))
  split
  · exact readT_bad bl df hr hfr hw hK (by rw [List.length_append, List.length_append, rec_len, List.length_nil]; omega) .neg
  · have e : flats ls ++ [1, 1, 1, 1, -2, 0] = flats (ls ++ [⟨[1], [1], none⟩]) ++ [-2, 0] := by rw [flats_append, List.append_assoc]; rfl
    rw [e]
    refine readT_bad (K := K) (V := V) bl df hr hfr (fun l hl => ?_) hK (by rw [← e, List.length_append]; simp; omega) (.nneg (by decide))
    rcases List.mem_append.mp hl with hl | hl
    · exact hw l hl
    · simp only [List.mem_singleton] at hl
      subst hl
      exact ⟨rfl, by decide, fun p h => nomatch h⟩
end

abbrev lenv (L a : Addr) (code : Value) : Env := fenv "law" (scoOf pw "law") L a code
section
variable {X : Cx} {A : Around} {mu : Mu} {C₁ C₂ : Addr} {L a : Addr} {code : Value} {l : Addr} {ns : List Int} {ls : List Lk} {K V : List Int} {links : Int}
abbrev madeD (ls : List Lk) (K V : List Int) : D := .tup [.lst (I (flats ls ++ rcd K V 0)), nestD ls (leafD K V), .int ((rcd K V 0).length : Nat)]
abbrev lnm (l : Addr) (ls : List Lk) (K V : List Int) : Md := [("script", .ptr l), ("links", .int ls.length), ("made", madeD ls K V), ("flat", .lst (I (flats ls ++ rcd K V 0))), ("nest", nestD ls (leafD K V))]
theorem law_t10 (bl : Blts X) (df : Defs X C₁ C₂) (sc : Scr X l ns) (hr : Rm A 100) (hfr : A.frames = some [lenv L a code]) (hw : ∀ l ∈ ls, Wf l) (hK : K.length = V.length) (hs : (flats ls ++ rcd K V 0).length ≤ 800) {w : D} {n : Nat} (hn : n ≤ 600) (ok : Ok n w)
    (rd : ∀ mu', CallT X A [lenv L a code] "_law_read" [.lst (I (flats ls ++ rcd K V 0))] mu' w) : Ex X A (lenv L a code) (("want", w) :: lnm l ls K V) mu ((bodOf pw "law").drop 10) No No No (· = .bool true) := by
  have s1 : (I (flats ls ++ rcd K V 0)).length ≤ sizeLine := by rw [I_len]; simp only [sizeLine]; omega
  refine Ex.assign (EvF.ev (EvF.listOf bl.list (Ev.name rfl) Sq.lst rfl s1)) (by walk_at "kd") ?_
  refine Ex.ifF (Ts.cmp (Ev.callT (rd _) (by walk_at "evs") rfl) (Ev.name rfl) (Cm.ne_same ok (hr.cmp hn))) ?_
  refine Ex.ifF (Ts.cmp (Ev.name rfl) (Ev.name rfl) (Cm.ne_same (ints_ok _) (hr.cmp (by decide)))) ?_
  refine Ex.assign (Ev.call (spoilt_call bl df.spoilt (hr.less (by decide)) (by omega)) (EvAll.cons (Ev.mod (Ev.call (cell_call bl sc df.cell (hr.less (by decide)) (i := 9) (by decide)) (by walk_at "evs") rfl) Ev.cint (by decide)) (EvAll.cons (Ev.name rfl) (EvAll.cons (Ev.item_tup (Ev.name rfl) (by decide) (by decide) rfl) EvAll.nil))) rfl) (by walk_at "kd") ?_
  generalize cv ns 9 % 5 = how
  have s2 : (I (flats ls ++ spT how K V)).length ≤ sizeLine := by
    rw [List.length_append, rec_len] at hs
    rw [I_len, List.length_append]
    have : (spT how K V).length ≤ K.length + V.length + 10 := by
      unfold spT
      split
      · simp
      split
      · simp
      split
      · rw [List.length_append, rec_len]; simp
      split
      · rw [List.length_append, rec_len]; simp
      · simp
    simp only [sizeLine]; omega
  refine Ex.assign (EvF.ev (EvF.listOf bl.list (Ev.name rfl) Sq.lst rfl s2)) (by walk_at "kd") ?_
  refine Ex.ifF (Ts.cmp (Ev.callT (readT_spoilt bl df hr hfr hw hK (by omega) how) (by walk_at "evs") rfl) Ev.cstr (Cm.ne_same (n := 0) (by simp only [Ok]; decide +kernel) (hr.cmp (by decide)))) ?_
  refine Ex.ifF (Ts.cmp (Ev.name rfl) (Ev.name rfl) (Cm.ne_same (ints_ok _) (hr.cmp (by decide)))) ?_
  exact Ex.ret Ev.cbool rfl
theorem law_t8 (bl : Blts X) (df : Defs X C₁ C₂) (sc : Scr X l ns) (hr : Rm A 100) (hfr : A.frames = some [lenv L a code]) (hw : ∀ l ∈ ls, Wf l) (hK : K.length = V.length) (hs : (flats ls ++ rcd K V 0).length ≤ 800) (h62 : ls.length ≤ 62) :
    Ex X A (lenv L a code) (lnm l ls K V) mu ((bodOf pw "law").drop 8) No No No (· = .bool true) := by
  walk_at "asg"
  by_cases h60 : ls.length < 60
  · refine Ex.ifF (Ts.is (Ts.cmp (Ev.add (Ev.name rfl) Ev.cint) Ev.cint Cm.gt) (decide_eq_false (by omega))) ?_
    exact law_t10 bl df sc hr hfr hw hK hs (by omega) (nest_ok K V ls) fun mu' => readT_ok bl df hr hw hK (by omega) h60
  · refine Ex.ifT (Ts.is (Ts.cmp (Ev.add (Ev.name rfl) Ev.cint) Ev.cint Cm.gt) (decide_eq_true (by omega))) ?_
    walk_at "asg"
    refine Ex.weaken ?_ (law_t10 (w := .str "refused") (n := 0) bl df sc hr hfr hw hK hs (by decide) (by simp only [Ok]; decide +kernel) fun mu' => ?_)
    · walk_at "sub"
    · have := readT_bad (X := X) (A := A) (mu := mu') (ls := ls) (K := K) (V := V) (tail := rcd K V 0 ++ []) bl df hr hfr hw hK (by rw [List.append_nil]; omega) (.deep (by omega))
      rw [List.append_nil] at this
      exact this
theorem law_t6 (bl : Blts X) (df : Defs X C₁ C₂) (sc : Scr X l ns) (hr : Rm A 100) (hfr : A.frames = some [lenv L a code]) (hw : ∀ l ∈ ls, Wf l) (hK : K.length = V.length) (hs : (flats ls ++ rcd K V 0).length ≤ 800) (h62 : ls.length ≤ 62) {near : Int} (hn0 : 0 ≤ near) (hn1 : near ≤ ls.length) :
    Ex X A (lenv L a code) (("near", .int near) :: lnm l ls K V) mu ((bodOf pw "law").drop 6) No No No (· = .bool true) := by
  refine Ex.forMM (fun _ => lnm l ls K V) (fun _ => mu) No (It.tup hr.hand (Ev.tup (EvAll.cons (Ev.name rfl) (EvAll.cons (Ev.sub (Ev.name rfl) (Ev.name rfl)) EvAll.nil)))) (by walk_at "kd") (by walk_at "sub") rfl (fun i hi => ?_) ?_ fun _ _ h => h.elim
  · match i, hi with
    | 0, _ =>
      refine Ex.ifF (Ts.cmp (Ev.callT (flatT_bad bl df hr hfr hw h62 hn0 hn1) (by walk_at "evs") rfl) Ev.cstr (Cm.ne_same (n := 0) (by simp only [Ok]; decide +kernel) (hr.cmp (by decide)))) ?_
      exact Ex.nil ⟨by walk_at "sub", rfl⟩
    | 1, _ =>
      refine Ex.ifF (Ts.cmp (Ev.callT (flatT_bad bl df hr hfr hw h62 (d := ls.length - near) (by omega) (by omega)) (by walk_at "evs") rfl) Ev.cstr (Cm.ne_same (n := 0) (by simp only [Ok]; decide +kernel) (hr.cmp (by decide)))) ?_
      exact Ex.nil ⟨by walk_at "sub", rfl⟩
  · refine Ex.ite (p := decide ((ls.length : Int) ≤ 6)) (Ts.cmp (Ev.name rfl) Ev.cint Cm.le) (fun hp => ?_) fun hp => ?_
    · refine Ex.ifF (Ts.cmp (Ev.callT (flatT_ok bl df hr h62 hs (d := ls.length + 1) (by omega)) (EvAll.cons (Ev.name rfl) (EvAll.cons (Ev.add (Ev.name rfl) Ev.cint) EvAll.nil)) rfl) (Ev.name rfl) (Cm.ne_same (ints_ok _) (hr.cmp (by decide)))) ?_
      exact law_t8 bl df sc hr hfr hw hK hs h62
    · exact law_t8 bl df sc hr hfr hw hK hs h62
theorem law_call (bl : Blts X) (df : Defs X C₁ C₂) (sc : Scr X l ns) : CallD X callerA "law" [.ptr l] (fun _ => none) (.bool true) := by
  refine CallD.of ["script"] df.law caller_rm.room rfl (by decide) (fun pm code doc ws hw => ?_) (by decide) fun L a code => ?_
  · match ws, hw with
    | [x], _ => rfl
  have hr : Rm (callerA.deeper (lenv L a code)) 100 := (caller_rm.deep (lenv L a code)).less (by decide)
  have hfr : (callerA.deeper (lenv L a code)).frames = some [lenv L a code] := rfl
  have cc : ∀ (k : Int) (hk : 0 ≤ k) u, CallD X (callerA.deeper (lenv L a code)) "_law_cell" [.ptr l, .int k] u (.int (cv ns k)) := fun k hk u => cell_call bl sc df.cell (hr.less (by decide)) hk
  have rest : ∀ links : Int, 0 ≤ links → links ≤ 62 → Ex X (callerA.deeper (lenv L a code)) (lenv L a code) [("script", .ptr l), ("links", .int links)] (ro fun _ => none) ((bodOf pw "law").drop 2) No No No (· = .bool true) := by
    intro links h0 h1
    have hw := chn_wf ns links links.toNat
    have hl : ((chn ns links links.toNat).length : Int) = links := by rw [chn_len]; omega
    have h62 : (chn ns links links.toNat).length ≤ 62 := by omega
    have hfl := flats_len hw
    have lk : (leafK ns).length = (cv ns 2 % 3).toNat := by unfold leafK; simp
    have lv : (leafV ns).length = (cv ns 2 % 3).toNat := by unfold leafV; simp
    have hs : (flats (chn ns links links.toNat) ++ rcd (leafK ns) (leafV ns) 0).length ≤ 800 := by rw [List.length_append, rec_len]; omega
    refine Ex.assign (Ev.call (chain_call bl sc df.cell df.link df.chain (hr.less (by decide)) h0 h1) (by walk_at "evs") rfl) (by walk_at "kd") ?_
    refine Ex.assign (Ev.item_tup (Ev.name rfl) (by decide) (by decide) rfl) (by walk_at "kd") ?_
    refine Ex.assign (Ev.item_tup (Ev.name rfl) (by decide) (by decide) rfl) (by walk_at "kd") ?_
    refine Ex.assign (Ev.mod (Ev.mod (Ev.call (cc 8 (by decide) _) (by walk_at "evs") rfl) Ev.cint (by decide)) (Ev.add (Ev.name rfl) Ev.cint) (by omega)) (by walk_at "kd") ?_
    have n0 := Int.emod_nonneg (cv ns 8 % 4) (b := links + 1) (by omega)
    have n1 := Int.emod_lt_of_pos (cv ns 8 % 4) (b := links + 1) (by omega)
    refine Ex.weaken ?_ (law_t6 (near := cv ns 8 % 4 % (links + 1)) bl df sc hr hfr hw (by rw [lk, lv]) hs h62 n0 (by omega))
    rw [lnm, hl]
    walk_at "sub"
  refine Ex.assign (Ev.mod (Ev.call (cc 0 (by decide) _) (by walk_at "evs") rfl) Ev.cint (by decide)) (by walk_at "kd") ?_
  refine Ex.ite (p := cv ns 1 % 2 == 1) (Ts.cmp (Ev.mod (Ev.call (cc 1 (by decide) _) (by walk_at "evs") rfl) Ev.cint (by decide)) Ev.cint Cm.eqi) (fun _ => ?_) fun _ => ?_
  · refine Ex.assign (Ev.add Ev.cint (Ev.mod (Ev.call (cc 0 (by decide) _) (by walk_at "evs") rfl) Ev.cint (by decide))) (by walk_at "kd") ?_
    refine Ex.weaken ?_ (rest (57 + cv ns 0 % 6) (by omega) (by omega))
    walk_at "sub"
  · refine Ex.weaken ?_ (rest (cv ns 0 % 7) (by omega) (by omega))
    walk_at "sub"
end

end Mine

namespace Mine
open PySem PySem.W PyProof.Rows
set_option maxHeartbeats 8000000
open_top hd3 for PySem.Challenge.rw_pd_canopy_3_03
end Mine
open PySem PySem.W PyProof.Rows Mine
set_option maxHeartbeats 8000000 in
theorem PySem.Challenge.cw_pd_canopy_3_03_holds : PySem.Challenge.rw_pd_canopy_3_03.Holds := by
  refine Mine.hd3 ?_
  k_fill
  intro w s₀ s₁ mg mb G Y fa o pm cd doc dV kV ho hd hcd hD hmg hg args vals as hpre hlay hrd hwl hlo
  refine Ground.open G ?_
  intro T B D TE TW
  wrow_args hpre hlay hrd hwl hlo
  rename IntsAre _ _ => hI
  rename Heap.IsList _ _ _ => hL
  rename ¬ (_ : Int) < _ => hlen
  obtain ⟨C₁, O₁, _⟩ := T.ownAt (x := "DepthError") (newId := "Exception.__new__") (bm := [.type "Exception", .type "BaseException", .type "object"]) (by kernel_rfl)
  obtain ⟨C₂, O₂, _⟩ := T.ownAt (x := "FormatError") (newId := "Exception.__new__") (bm := [.type "Exception", .type "BaseException", .type "object"]) (by kernel_rfl)
  refine law_link T hmg hg (fun _ => rfl) (by first | rfl | wrow_post) (Mine.law_call (C₁ := C₁) (C₂ := C₂) ⟨?_, ?_, ?_⟩ ⟨?_, ?_, ?_, ?_, ?_, ?_, ?_, ?_, ?_, O₁, O₂⟩ ⟨⟨_, hL, hI⟩, by omega⟩)
  all_goals first | exact hasDef_of (by kernel_rfl) | exact blt_of (by decide +kernel) (by decide +kernel) (by decide +kernel) (by decide +kernel) (by decide +kernel) (by decide +kernel) (by boot_by_name)
#print axioms PySem.Challenge.cw_pd_canopy_3_03_holds
