import PyProof.Rows.All
import HandS.ClsMeth
import HandS.Comp
import HandS.Conv
import HandS.Deep
import HandS.Defaults
import HandS.ExcCtx
import HandS.ExcField
import HandS.ExcInit
import HandS.ExcIs
import HandS.ExcOwn
import HandS.Flow
import HandS.ForExc
import HandS.ForMost
import HandS.Head0
import HandS.Head1
import HandS.Head2
import HandS.HeadEnd
import HandS.HeadHook1
import HandS.HeadHook2
import HandS.Hot
import HandS.HotCalls
import HandS.IsInst
import HandS.More
import HandS.Style
import HandS.TupAny
import HandS.TupMul
import HandS.WordsExc
import HandS.Zip
import KE.KExcIs
import OpenK.AllK
import PyProof.Rows.StrRev
import PyProof.StrOps2
import PyProof.StrWalks
import PySem.Challenge.RW_wordsums_k01_sheets_refused
import Wide.All
import Wide.FinOn
set_option Elab.async false
set_option linter.all false
set_option maxRecDepth 100000
set_option maxHeartbeats 2000000
/-! The value layer, part a: data by value, how they lie in the heap, the step. -/
namespace MM
open PySem PySem.Spec PyProof.Rows L2

abbrev St := L2.St
abbrev T := List Nat
def tS (l : T) : Str := ⟨l.toArray⟩
theorem tS_inj {a b : T} (h : tS a = tS b) : a = b := by
  have e : a.toArray = b.toArray := congrArg Str.cps h
  simpa using congrArg Array.toList e
theorem tS_len (l : T) : (tS l).length = l.length := by
  show l.toArray.size = l.length
  simp
theorem tS_cps (l : T) : (tS l).cps.toList = l := by
  show l.toArray.toList = l
  simp
abbrev KD := Sum Int T
def kK : KD → Key
  | .inl i => .inl i
  | .inr l => .inr (tS l)
theorem kK_inj : ∀ {a b : KD}, kK a = kK b → a = b
  | .inl i, .inl j, h => by cases (Sum.inl.inj h); rfl
  | .inr i, .inr j, h => by cases tS_inj (Sum.inr.inj h); rfl
  | .inl _, .inr _, h => nomatch h
  | .inr _, .inl _, h => nomatch h

inductive D where
  | non | bl (b : Bool) | int (i : Int) | str (l : T)
  | tup (ds : List D) | lst (ds : List D) | dic (kv : List (KD × D)) | ins (c : Nat) (ds : List D) | scr (ns : List Int) | exn (c : Nat) (ds : List D)

structure CI where
  K : PySem.W.Frag
  C : Nat → Addr
  nm : Nat → List Str
  md : Nat → List Bool
  lk : Option Addr
  /-- within an except suite: the exception's address, its class, its dict -/
  xa : Option (Addr × Nat × Option Addr)

def LB : Nat := 1000000
theorem LB_line {n : Nat} (h : n ≤ LB) : n < sizeLine := Nat.lt_of_le_of_lt h (by rw [sizeLine_eq]; decide)
mutual
inductive Rp (c : CI) (F : Hp) : V → D → Prop
  | non : Rp c F .non .non
  | bl (b : Bool) : Rp c F (.bl b) (.bl b)
  | int (i : Int) : Rp c F (.int i) (.int i)
  | str (l : T) (h : l.length ≤ LB) : Rp c F (.str (tS l)) (.str l)
  | tup {a : Addr} {vs : List V} {ds : List D} : F a = some (.tup vs) → ds.length ≤ LB → Rps c F vs ds → Rp c F (.ref a) (.tup ds)
  | lst {a : Addr} {vs : List V} {ds : List D} : F a = some (.lst vs) → ds.length ≤ LB → Rps c F vs ds → Rp c F (.ref a) (.lst ds)
  | dic {a : Addr} {kvs : List (Key × V)} {kv : List (KD × D)} {vs : List V} {ds : List D} : F a = some (.dK kvs) → kv.length ≤ LB → kvs.map (·.1) = kv.map (fun p => kK p.1) → vs = kvs.map (·.2) → ds = kv.map (·.2) → Rps c F vs ds → Rp c F (.ref a) (.dic kv)
  | ins {a dx : Addr} {k : Nat} {fs : List (Str × V)} {vs : List V} {ds : List D} : F a = some (.ins (c.C k) dx fs) → fs.map (·.1) = (c.nm k).take ds.length → vs = fs.map (·.2) → Rps c F vs ds → Rp c F (.ref a) (.ins k ds)
  | scr {a : Addr} {ns : List Int} : ns.length ≤ LB → SqL c.K F a (ns.map V.int) → Rp c F (.ref a) (.scr ns)
  | exn0 {a : Addr} {k : Nat} : c.xa = some (a, k, none) → Rp c F (.ref a) (.exn k [])
  | exn {a dd : Addr} {k : Nat} {fs : List (Str × V)} {vs : List V} {ds : List D} : c.xa = some (a, k, some dd) → F dd = some (.xd fs) → fs.map (·.1) = (c.nm k).take ds.length → vs = fs.map (·.2) → Rps c F vs ds → Rp c F (.ref a) (.exn k ds)
inductive Rps (c : CI) (F : Hp) : List V → List D → Prop
  | nil : Rps c F [] []
  | cons {v : V} {vs : List V} {d : D} {ds : List D} : Rp c F v d → Rps c F vs ds → Rps c F (v :: vs) (d :: ds)
end

def Le (F F' : Hp) : Prop := ∀ a o, F a = some o → F' a = some o
theorem Le.refl (F : Hp) : Le F F := fun _ _ h => h
theorem Le.trans {F G H : Hp} (a : Le F G) (b : Le G H) : Le F H := fun x o h => b x o (a x o h)
theorem Le.new {F : Hp} {p : Addr} (o : HO) (h : F p = none) : Le F (upd F p o) := fun a u e => by
  rw [upd_ne (ne_of_none e h)]
  exact e
theorem le_sqL {K : PySem.W.Frag} {F F' : Hp} {a : Addr} {xs : List V} (e : Le F F') (h : SqL K F a xs) : SqL K F' a xs := by
  rcases h with (h | ⟨o, h⟩) | h
  · exact .inl (.inl (e _ _ h))
  · exact .inl (.inr ⟨o, e _ _ h⟩)
  · exact .inr h
mutual
theorem Rp.mono {c : CI} {F F' : Hp} (e : Le F F') : ∀ {v : V} {d : D}, Rp c F v d → Rp c F' v d
  | _, _, .non => .non
  | _, _, .bl b => .bl b
  | _, _, .int i => .int i
  | _, _, .str l h => .str l h
  | _, _, .tup h z r => .tup (e _ _ h) z (Rps.mono e r)
  | _, _, .lst h z r => .lst (e _ _ h) z (Rps.mono e r)
  | _, _, .dic h z h1 h2 h3 r => .dic (e _ _ h) z h1 h2 h3 (Rps.mono e r)
  | _, _, .ins h h1 h2 r => .ins (e _ _ h) h1 h2 (Rps.mono e r)
  | _, _, .scr z h => .scr z (le_sqL e h)
  | _, _, .exn0 h => .exn0 h
  | _, _, .exn h h1 h2 h3 r => .exn h (e _ _ h1) h2 h3 (Rps.mono e r)
theorem Rps.mono {c : CI} {F F' : Hp} (e : Le F F') : ∀ {vs : List V} {ds : List D}, Rps c F vs ds → Rps c F' vs ds
  | _, _, .nil => .nil
  | _, _, .cons r t => .cons (Rp.mono e r) (Rps.mono e t)
end
section
variable {c : CI} {F : Hp}
theorem Rps.length : ∀ {vs : List V} {ds : List D}, Rps c F vs ds → vs.length = ds.length
  | _, _, .nil => rfl
  | _, _, .cons _ t => congrArg (· + 1) t.length
theorem Rps.get : ∀ {vs : List V} {ds : List D} {i : Nat} {d : D}, Rps c F vs ds → ds[i]? = some d → ∃ v, vs[i]? = some v ∧ Rp c F v d
  | _, _, _, _, .nil, e => by simp at e
  | _, _, 0, _, .cons r _, e => by
    simp at e
    subst e
    exact ⟨_, rfl, r⟩
  | _, _, i + 1, d, .cons _ t, e => by
    obtain ⟨v, h1, h2⟩ := Rps.get (i := i) (d := d) t (by simpa using e)
    exact ⟨v, by simpa using h1, h2⟩
theorem Rps.getv : ∀ {vs : List V} {ds : List D} {i : Nat} {v : V}, Rps c F vs ds → vs[i]? = some v → ∃ d, ds[i]? = some d ∧ Rp c F v d
  | _, _, _, _, .nil, e => by simp at e
  | _, _, 0, _, .cons r _, e => by
    simp at e
    subst e
    exact ⟨_, rfl, r⟩
  | _, _, i + 1, d, .cons _ t, e => by
    obtain ⟨v, h1, h2⟩ := Rps.getv (i := i) (v := d) t (by simpa using e)
    exact ⟨v, by simpa using h1, h2⟩
theorem Rps.append : ∀ {vs ws : List V} {ds es : List D}, Rps c F vs ds → Rps c F ws es → Rps c F (vs ++ ws) (ds ++ es)
  | _, _, _, _, .nil, s => s
  | _, _, _, _, .cons r t, s => .cons r (Rps.append t s)
theorem Rps.take : ∀ {vs : List V} {ds : List D} (n : Nat), Rps c F vs ds → Rps c F (vs.take n) (ds.take n)
  | _, _, 0, _ => .nil
  | _, _, _ + 1, .nil => .nil
  | _, _, n + 1, .cons r t => .cons r (Rps.take n t)
theorem Rps.drop : ∀ {vs : List V} {ds : List D} (n : Nat), Rps c F vs ds → Rps c F (vs.drop n) (ds.drop n)
  | _, _, 0, r => r
  | _, _, _ + 1, .nil => .nil
  | _, _, n + 1, .cons _ t => Rps.drop n t
theorem Rps.set : ∀ {vs : List V} {ds : List D} (i : Nat) {v : V} {d : D}, Rps c F vs ds → Rp c F v d → Rps c F (vs.set i v) (ds.set i d)
  | _, _, _, _, _, .nil, _ => .nil
  | _, _, 0, _, _, .cons _ t, r => .cons r t
  | _, _, i + 1, _, _, .cons q t, r => .cons q (Rps.set i t r)
theorem Rps.reverse : ∀ {vs : List V} {ds : List D}, Rps c F vs ds → Rps c F vs.reverse ds.reverse
  | _, _, .nil => .nil
  | _, _, .cons r t => by
    rw [List.reverse_cons, List.reverse_cons]
    exact (Rps.reverse t).append (.cons r .nil)
theorem Rps.erase : ∀ {vs : List V} {ds : List D} (i : Nat), Rps c F vs ds → Rps c F (vs.eraseIdx i) (ds.eraseIdx i)
  | _, _, _, .nil => .nil
  | _, _, 0, .cons _ t => t
  | _, _, i + 1, .cons q t => .cons q (Rps.erase i t)
theorem Rps.ints : ∀ {vs : List V} {ns : List Int}, Rps c F vs (ns.map D.int) → vs = ns.map V.int
  | _, [], .nil => rfl
  | _, n :: ns, .cons r t => by
    cases r
    rw [Rps.ints t]
    rfl
theorem Rps.of_ints : ∀ (ns : List Int), Rps c F (ns.map V.int) (ns.map D.int)
  | [] => .nil
  | n :: ns => .cons (.int n) (Rps.of_ints ns)
theorem Rps.of_strs : ∀ (ns : List T), (∀ l, l ∈ ns → l.length ≤ LB) → Rps c F (ns.map fun l => V.str (tS l)) (ns.map D.str)
  | [], _ => .nil
  | n :: ns, h => .cons (.str n (h n List.mem_cons_self)) (Rps.of_strs ns fun l m => h l (List.mem_cons_of_mem _ m))
theorem Rps.strs : ∀ {vs : List V} {ns : List T}, Rps c F vs (ns.map D.str) → vs = ns.map fun l => V.str (tS l)
  | _, [], .nil => rfl
  | _, n :: ns, .cons r t => by
    cases r
    rw [Rps.strs t]
    rfl
end

/-- what F knows stands in H (a dict perhaps locked) -/
def Ag (lk : Option Addr) (F H : Hp) : Prop := ∀ a o, F a = some o → H a = some o ∨ lk = some a ∧ ∃ kvs ob, o = .dK kvs ∧ H a = some (.frz ob o)
theorem Ag.exact {F H : Hp} (g : Ag none F H) {a : Addr} {o : HO} (h : F a = some o) : H a = some o := by
  rcases g a o h with h | ⟨e, _⟩
  · exact h
  · cases e
theorem Ag.lst {lk : Option Addr} {F H : Hp} (g : Ag lk F H) {a : Addr} {vs : List V} (h : F a = some (.lst vs)) : H a = some (.lst vs) := by
  rcases g a _ h with h | ⟨_, _, _, e, _⟩
  · exact h
  · cases e
theorem Ag.tup {lk : Option Addr} {F H : Hp} (g : Ag lk F H) {a : Addr} {vs : List V} (h : F a = some (.tup vs)) : H a = some (.tup vs) := by
  rcases g a _ h with h | ⟨_, _, _, e, _⟩
  · exact h
  · cases e
theorem Ag.ins {lk : Option Addr} {F H : Hp} (g : Ag lk F H) {a C dx : Addr} {fs : List (Str × V)} (h : F a = some (.ins C dx fs)) : H a = some (.ins C dx fs) := by
  rcases g a _ h with h | ⟨_, _, _, e, _⟩
  · exact h
  · cases e
theorem Ag.dic {lk : Option Addr} {F H : Hp} (g : Ag lk F H) {a : Addr} {kvs : List (Key × V)} (h : F a = some (.dK kvs)) : Rd H a (.dK kvs) := by
  rcases g a _ h with h | ⟨_, _, ob, e, h⟩
  · exact .inl h
  · exact .inr ⟨ob, h⟩
theorem Ag.sqL {lk : Option Addr} {F H : Hp} (g : Ag lk F H) {K : PySem.W.Frag} {a : Addr} {xs : List V} (h : SqL K F a xs) : SqL K H a xs := by
  rcases h with (h | ⟨o, h⟩) | h
  · exact .inl (.inl (g.lst h))
  · rcases g a _ h with h | ⟨_, _, _, e, _⟩
    · exact .inl (.inr ⟨o, h⟩)
    · cases e
  · exact .inr h
theorem Ag.non {lk : Option Addr} {F H : Hp} (g : Ag lk F H) {a : Addr} (h : H a = none) : F a = none := by
  cases e : F a with
  | none => rfl
  | some o =>
    rcases g a o e with q | ⟨_, _, _, _, q⟩ <;> rw [h] at q <;> cases q

/-! ### owned objects -/
inductive Ow1 (c : CI) (F H : Hp) : V → D → Addr → Prop
  | lst {a : Addr} {vs : List V} {ds : List D} : H a = some (.lst vs) → ds.length ≤ LB → Rps c F vs ds → Ow1 c F H (.ref a) (.lst ds) a
  | dic {a : Addr} {kvs : List (Key × V)} {kv : List (KD × D)} : H a = some (.dK kvs) → kv.length ≤ LB → kvs.map (·.1) = kv.map (fun p => kK p.1) → Rps c F (kvs.map (·.2)) (kv.map (·.2)) → Ow1 c F H (.ref a) (.dic kv) a
/-- the fields of an instance: m says which are owned -/
inductive OwF (c : CI) (F H : Hp) : List Bool → List V → List D → List Addr → Prop
  | nil (m : List Bool) : OwF c F H m [] [] []
  | frz {m : List Bool} {v : V} {d : D} {vs : List V} {ds : List D} {O : List Addr} : Rp c F v d → OwF c F H m vs ds O → OwF c F H (false :: m) (v :: vs) (d :: ds) O
  | own {m : List Bool} {v : V} {d : D} {a : Addr} {vs : List V} {ds : List D} {O : List Addr} : Ow1 c F H v d a → OwF c F H m vs ds O → OwF c F H (true :: m) (v :: vs) (d :: ds) (a :: O)
inductive Ow (c : CI) (md : Nat → List Bool) (F H : Hp) : V → D → List Addr → Prop
  | one {v : V} {d : D} {a : Addr} : Ow1 c F H v d a → Ow c md F H v d [a]
  | ins {a dx : Addr} {k : Nat} {fs : List (Str × V)} {ds : List D} {O : List Addr} : H a = some (.ins (c.C k) dx fs) → H dx = some (.own a) → fs.map (·.1) = (c.nm k).take ds.length → OwF c F H (md k) (fs.map (·.2)) ds O → (a :: dx :: O).Nodup → Ow c md F H (.ref a) (.ins k ds) (a :: dx :: O)

/-- a slot's mode: frozen, owned, owned and never stored (a parameter by reference), such with its field j lent -/
inductive Md where
  | frz | own | pin | bor (j : Nat)
  deriving DecidableEq
def Hold (c : CI) (m : Md) (F H : Hp) (v : V) (d : D) (O : List Addr) : Prop := match m with
  | .frz => Rp c F v d ∧ O = []
  | .own => Ow c c.md F H v d O
  | .pin => Ow c c.md F H v d O
  | .bor j => Ow c (fun k => (c.md k).set j false) F H v d O
abbrev Sl := List (Option D)
abbrev Ms := List Md
abbrev Os := Nat → List Addr
def mdOf (μ : Ms) (i : Nat) : Md := μ.getD i .frz

structure Re (c : CI) (μ : Ms) (F H : Hp) (σ : St) (sl : Sl) (O : Os) : Prop where
  ag : Ag c.lk F H
  len : sl.length = σ.length
  at_ : ∀ (i : Nat) (d : D), sl[i]? = some (some d) → ∃ v, σ[i]? = some (some v) ∧ Hold c (mdOf μ i) F H v d (O i)
  emp : ∀ (i : Nat), (∀ d, sl[i]? ≠ some (some d)) → O i = []
  dis : ∀ (i j : Nat) (a : Addr), a ∈ O i → a ∈ O j → i = j
  fre : ∀ (i : Nat) (a : Addr), a ∈ O i → F a = none

structure Stp (F H : Hp) (O : Os) (F' H' : Hp) (O' : Os) : Prop where
  ff : Le F F'
  kp : ∀ a o, H a = some o → (∀ i, a ∉ O i) → H' a = some o
  fo : ∀ a o, F' a = some o → F a = some o ∨ H a = none ∨ ∃ i, a ∈ O i
  ow : ∀ i a, a ∈ O' i → H a = none ∨ ∃ j, a ∈ O j
  al : ∀ a, H' a = none → H a = none
  pk : ∀ i, (∃ N, O' i = O i ++ N ∧ ∀ a, a ∈ N → H a = none) ∨ O' i = [] ∨ ∀ a, a ∈ O' i → H a = none
theorem pk_refl {H : Hp} (L : List Addr) : (∃ N, L = L ++ N ∧ ∀ a, a ∈ N → H a = none) ∨ L = [] ∨ ∀ a, a ∈ L → H a = none := .inl ⟨[], by simp, fun _ h => nomatch h⟩
theorem Stp.refl (F H : Hp) (O : Os) : Stp F H O F H O := ⟨Le.refl _, fun _ _ h _ => h, fun _ _ h => .inl h, fun i _ h => .inr ⟨i, h⟩, fun _ h => h, fun _ => pk_refl _⟩
theorem Stp.trans {F H F1 H1 F2 H2 : Hp} {O O1 O2 : Os} (a : Stp F H O F1 H1 O1) (b : Stp F1 H1 O1 F2 H2 O2) : Stp F H O F2 H2 O2 where
  ff := a.ff.trans b.ff
  kp := fun x o h n => b.kp x o (a.kp x o h n) fun i hi => by
    rcases a.ow i x hi with e | ⟨j, hj⟩
    · rw [h] at e; cases e
    · exact n j hj
  fo := fun x o h => by
    have none_of : H1 x = none → H x = none ∨ ∃ i, x ∈ O i := fun e => by
      cases q : H x with
      | none => exact .inl rfl
      | some u =>
        by_cases z : ∃ i, x ∈ O i
        · exact .inr z
        · rw [a.kp x u q fun i hi => z ⟨i, hi⟩] at e; cases e
    rcases b.fo x o h with e | e | ⟨i, hi⟩
    · exact a.fo x o e
    · rcases none_of e with e | e
      · exact .inr (.inl e)
      · exact .inr (.inr e)
    · rcases a.ow i x hi with e | e
      · exact .inr (.inl e)
      · exact .inr (.inr e)
  ow := fun i x h => by
    rcases b.ow i x h with e | ⟨j, hj⟩
    · cases q : H x with
      | none => exact .inl rfl
      | some u =>
        by_cases z : ∃ i, x ∈ O i
        · exact .inr z
        · rw [a.kp x u q fun i hi => z ⟨i, hi⟩] at e; cases e
    · exact a.ow j x hj
  al := fun x h => a.al x (b.al x h)
  pk := fun i => by
    rcases b.pk i with ⟨N, e, n⟩ | e | e
    · rcases a.pk i with ⟨M, e2, n2⟩ | e2 | e2
      · refine .inl ⟨M ++ N, by rw [e, e2, List.append_assoc], fun x hx => ?_⟩
        rcases List.mem_append.mp hx with z | z
        · exact n2 x z
        · exact a.al x (n x z)
      · refine .inr (.inr fun x hx => ?_)
        rw [e, e2] at hx
        exact a.al x (n x (by simpa using hx))
      · refine .inr (.inr fun x hx => ?_)
        rw [e] at hx
        rcases List.mem_append.mp hx with z | z
        · exact e2 x z
        · exact a.al x (n x z)
    · exact .inr (.inl e)
    · exact .inr (.inr fun x hx => a.al x (e x hx))

theorem upd_al {H : Hp} {p : Addr} {o : HO} : ∀ a, upd H p o a = none → H a = none := fun a h => by
  by_cases z : a = p
  · rw [z, upd_same] at h; cases h
  · rw [upd_ne z] at h; exact h
theorem Ow1.mono {c : CI} {F H F' H' : Hp} {v : V} {d : D} {a : Addr} (e : Le F F') (k : ∀ o, H a = some o → H' a = some o) (h : Ow1 c F H v d a) : Ow1 c F' H' v d a := by
  cases h with
  | lst h z r => exact .lst (k _ h) z (r.mono e)
  | dic h z h1 r => exact .dic (k _ h) z h1 (r.mono e)
theorem OwF.mono {c : CI} {F H F' H' : Hp} (e : Le F F') : ∀ {m : List Bool} {vs : List V} {ds : List D} {O : List Addr}, OwF c F H m vs ds O → (∀ a, a ∈ O → ∀ o, H a = some o → H' a = some o) → OwF c F' H' m vs ds O
  | _, _, _, _, .nil m, _ => .nil m
  | _, _, _, _, .frz r t, k => .frz (r.mono e) (t.mono e k)
  | _, _, _, _, .own r t, k => .own (r.mono e (k _ List.mem_cons_self)) (t.mono e fun a h => k a (List.mem_cons_of_mem _ h))
theorem Ow.mono {c : CI} {md : Nat → List Bool} {F H F' H' : Hp} {v : V} {d : D} {O : List Addr} (e : Le F F') (h : Ow c md F H v d O) (k : ∀ a, a ∈ O → ∀ o, H a = some o → H' a = some o) : Ow c md F' H' v d O := by
  cases h with
  | one h => exact .one (h.mono e (k _ (by simp)))
  | ins h h1 h2 r nd => exact .ins (k _ (by simp) _ h) (k _ (by simp) _ h1) h2 (r.mono e fun a ha => k a (by simp [ha])) nd
theorem Hold.mono {c : CI} {m : Md} {F H F' H' : Hp} {v : V} {d : D} {O : List Addr} (e : Le F F') (h : Hold c m F H v d O) (k : ∀ a, a ∈ O → ∀ o, H a = some o → H' a = some o) : Hold c m F' H' v d O := by
  cases m with
  | frz => exact ⟨h.1.mono e, h.2⟩
  | own => exact Ow.mono e h k
  | pin => exact Ow.mono e h k
  | bor j => exact Ow.mono e h k
/-- an owned thing is tracked -/
theorem Ow1.there {c : CI} {F H : Hp} {v : V} {d : D} {a : Addr} (h : Ow1 c F H v d a) : ∃ o, H a = some o := by
  cases h with
  | lst h _ _ => exact ⟨_, h⟩
  | dic h _ _ _ => exact ⟨_, h⟩
theorem OwF.there {c : CI} {F H : Hp} : ∀ {m : List Bool} {vs : List V} {ds : List D} {O : List Addr}, OwF c F H m vs ds O → ∀ a, a ∈ O → ∃ o, H a = some o
  | _, _, _, _, .nil m, a, h => by simp at h
  | _, _, _, _, .frz r t, a, h => t.there a h
  | _, _, _, _, .own r t, a, h => by
    rcases List.mem_cons.mp h with rfl | h
    · exact r.there
    · exact t.there a h
theorem Ow.there {c : CI} {md : Nat → List Bool} {F H : Hp} {v : V} {d : D} {O : List Addr} (h : Ow c md F H v d O) : ∀ a, a ∈ O → ∃ o, H a = some o := by
  intro a ha
  cases h with
  | one h =>
    simp at ha
    subst ha
    exact h.there
  | ins h h1 h2 r nd =>
    simp at ha
    rcases ha with rfl | rfl | ha
    · exact ⟨_, h⟩
    · exact ⟨_, h1⟩
    · exact r.there a ha
theorem Hold.there {c : CI} {m : Md} {F H : Hp} {v : V} {d : D} {O : List Addr} (h : Hold c m F H v d O) : ∀ a, a ∈ O → ∃ o, H a = some o := by
  intro a ha
  cases m with
  | frz => rw [h.2] at ha; simp at ha
  | own => exact Ow.there h a ha
  | pin => exact Ow.there h a ha
  | bor j => exact Ow.there h a ha
theorem Re.there {c : CI} {μ : Ms} {F H : Hp} {σ : St} {sl : Sl} {O : Os} (r : Re c μ F H σ sl O) {i : Nat} {a : Addr} (h : a ∈ O i) : ∃ o, H a = some o := by
  by_cases e : ∃ d, sl[i]? = some (some d)
  · obtain ⟨d, e⟩ := e
    obtain ⟨v, _, q⟩ := r.at_ i d e
    exact q.there a h
  · rw [r.emp i fun d q => e ⟨d, q⟩] at h
    simp at h
/-- a new place is nobody's -/
theorem Re.new {c : CI} {μ : Ms} {F H : Hp} {σ : St} {sl : Sl} {O : Os} (r : Re c μ F H σ sl O) {p : Addr} (h : H p = none) : ∀ i, p ∉ O i := fun i hi => by
  obtain ⟨o, e⟩ := r.there hi
  rw [h] at e; cases e

/-- the same slots over more: H' keeps the owned, F' is more, agreeing, and knows nothing owned -/
theorem Re.mono {c : CI} {μ : Ms} {F H F' H' : Hp} {σ : St} {sl : Sl} {O : Os} (r : Re c μ F H σ sl O) (e : Le F F') (g : Ag c.lk F' H') (k : ∀ i a, a ∈ O i → ∀ o, H a = some o → H' a = some o) (n : ∀ i a, a ∈ O i → F' a = none) : Re c μ F' H' σ sl O where
  ag := g
  len := r.len
  at_ := fun i d h => by
    obtain ⟨v, e1, q⟩ := r.at_ i d h
    exact ⟨v, e1, q.mono e (k i)⟩
  emp := r.emp
  dis := r.dis
  fre := n

section
variable {c : CI} {μ : Ms} {F H : Hp} {σ : St} {sl : Sl} {O : Os}
theorem Ag.add {lk : Option Addr} {o : HO} {p : Addr} (g : Ag lk F H) (h : H p = none) : Ag lk (upd F p o) (upd H p o) := fun a u e => by
  by_cases q : a = p
  · subst q
    rw [upd_same] at e ⊢
    exact .inl e
  · rw [upd_ne q] at e ⊢
    exact g a u e
/-- a new frozen thing -/
theorem Re.add {p : Addr} (o : HO) (r : Re c μ F H σ sl O) (h : H p = none) : Re c μ (upd F p o) (upd H p o) σ sl O :=
  r.mono (Le.new o (r.ag.non h)) (r.ag.add h) (fun i a ha u q => by rw [upd_ne (ne_of_none q h)]; exact q) fun i a ha => by
    rw [upd_ne (show a ≠ p from fun z => r.new h i (by rw [← z]; exact ha))]
    exact r.fre i a ha
theorem Stp.add {lk : Option Addr} {p : Addr} (o : HO) (g : Ag lk F H) (h : H p = none) : Stp F H O (upd F p o) (upd H p o) O :=
  ⟨Le.new o (g.non h), fun a u q _ => by rw [upd_ne (ne_of_none q h)]; exact q, fun a u q => by
    by_cases z : a = p
    · subst z; exact .inr (.inl h)
    · rw [upd_ne z] at q; exact .inl q, fun i a ha => .inr ⟨i, ha⟩, upd_al, fun _ => pk_refl _⟩
/-- a new thing that is tracked and nobody's yet -/
theorem Re.addH {p : Addr} (o : HO) (r : Re c μ F H σ sl O) (h : H p = none) : Re c μ F (upd H p o) σ sl O :=
  r.mono (Le.refl _) (fun a u e => by
    rcases r.ag a u e with q | ⟨l, kvs, ob, e1, q⟩
    · left; rw [upd_ne (ne_of_none q h)]; exact q
    · right; exact ⟨l, kvs, ob, e1, by rw [upd_ne (ne_of_none q h)]; exact q⟩) (fun i a ha u q => by rw [upd_ne (ne_of_none q h)]; exact q) fun i a ha => r.fre i a ha
theorem Stp.addH {p : Addr} (o : HO) (h : H p = none) : Stp F H O F (upd H p o) O :=
  ⟨Le.refl _, fun a u q _ => by rw [upd_ne (ne_of_none q h)]; exact q, fun a u q => .inl q, fun i a ha => .inr ⟨i, ha⟩, upd_al, fun _ => pk_refl _⟩
end
end MM

set_option Elab.async false
set_option linter.all false
set_option maxRecDepth 100000
set_option maxHeartbeats 2000000
/-! The value layer, part b: outcomes, what an expression's reading does by values. -/
namespace MM
open PySem PySem.Spec PyProof.Rows L2

inductive R (α : Type) where
  | ok (a : α) (s : Sl) | exc (k : Nat) (fs : List D) (s : Sl) | err
def R.bind {α β : Type} (x : R α) (f : α → Sl → R β) : R β := match x with
  | .ok a s => f a s
  | .exc k fs s => .exc k fs s
  | .err => .err
def R.ofO {α : Type} (x : Option α) (s : Sl) : R α := match x with
  | some a => .ok a s
  | none => .err
abbrev ME := Sl → R D
abbrev MA := Sl → R (List D)
abbrev MT := Sl → R Bool

/-- how a raised exception of class k lies: its own dict holds the fields -/
def XR (c : CI) (F H : Hp) (k : Nat) (fs : List D) (dd : Option Addr) : Prop :=
  fs = [] ∧ dd = none ∨ ∃ d fv, dd = some d ∧ F d = some (.xd fv) ∧ fv.map (·.1) = (c.nm k).take fs.length ∧ Rps c F (fv.map (·.2)) fs

section
variable {α β γ δ : Type}
def GX (rel : Hp → β → α → Prop) (c : CI) (μ : Ms) (W : WX) (F H : Hp) (O : Os) (σ : St) (Q : β → Hp → Prop) : R α → Prop
  | .ok d sl' => ∀ v F' H' O', Stp F H O F' H' O' → Re c μ F' H' σ sl' O' → rel F' v d → Q v H'
  | .exc k fs sl' => ∀ dd F' H' O', Stp F H O F' H' O' → Re c μ F' H' σ sl' O' → XR c F' H' k fs dd → W (.ref (c.C k)) dd σ H'
  | .err => False
theorem GX.from {rel : Hp → β → α → Prop} {c : CI} {μ : Ms} {W : WX} {F H F1 H1 : Hp} {O O1 : Os} {σ : St} {Q : β → Hp → Prop} {r : R α} (s : Stp F H O F1 H1 O1) (g : GX rel c μ W F H O σ Q r) : GX rel c μ W F1 H1 O1 σ Q r := by
  cases r with
  | ok d sl' => exact fun v F' H' O' s' re' r' => g v F' H' O' (s.trans s') re' r'
  | exc k fs sl' => exact fun dd F' H' O' s' re' x => g dd F' H' O' (s.trans s') re' x
  | err => exact g
theorem GX.imp {rel : Hp → β → α → Prop} {rel' : Hp → δ → α → Prop} {c : CI} {μ : Ms} {W : WX} {F H : Hp} {O : Os} {σ : St} {Q : β → Hp → Prop} {Q' : δ → Hp → Prop} {r : R α}
    (g : GX rel c μ W F H O σ Q r) (h : ∀ v d F' H' O' sl', r = .ok d sl' → Stp F H O F' H' O' → Re c μ F' H' σ sl' O' → rel' F' v d → (∀ u, rel F' u d → Q u H') → Q' v H') : GX rel' c μ W F H O σ Q' r := by
  cases r with
  | ok d sl' => exact fun v F' H' O' s' re' r' => h v d F' H' O' sl' rfl s' re' r' fun u q => g u F' H' O' s' re' q
  | exc k fs sl' => exact g
  | err => exact g

/-- a reading t does what m says -/
def Evm (rel : Hp → β → α → Prop) (c : CI) (μ : Ms) (W : WX) (t : St → Hp → (β → Hp → Prop) → Prop) (m : Sl → R α) : Prop :=
  ∀ σ H F O sl Q, Re c μ F H σ sl O → GX rel c μ W F H O σ Q (m sl) → t σ H Q
/-- behind a value -/
def Evk (rel : Hp → β → α → Prop) (rel' : Hp → γ → δ → Prop) (c : CI) (μ : Ms) (W : WX) (κ : β → St → Hp → (γ → Hp → Prop) → Prop) (f : α → Sl → R δ) : Prop :=
  ∀ σ H F O sl v d Q, Re c μ F H σ sl O → rel F v d → GX rel' c μ W F H O σ Q (f d sl) → κ v σ H Q
variable {rel : Hp → β → α → Prop} {rel' : Hp → γ → δ → Prop} {c : CI} {μ : Ms} {W : WX}
theorem Evm.run {t : St → Hp → (β → Hp → Prop) → Prop} {m : Sl → R α} (h : Evm rel c μ W t m) {σ : St} {F H : Hp} {O : Os} {sl : Sl} {Q : β → Hp → Prop} (re : Re c μ F H σ sl O)
    (ok : ∀ d sl', m sl = .ok d sl' → ∀ v F' H' O', Stp F H O F' H' O' → Re c μ F' H' σ sl' O' → rel F' v d → Q v H')
    (ex : ∀ k fs sl', m sl = .exc k fs sl' → ∀ dd F' H' O', Stp F H O F' H' O' → Re c μ F' H' σ sl' O' → XR c F' H' k fs dd → W (.ref (c.C k)) dd σ H')
    (er : m sl ≠ .err) : t σ H Q := by
  refine h σ H F O sl Q re ?_
  cases e : m sl with
  | ok d sl' => exact ok d sl' e
  | exc k fs sl' => exact ex k fs sl' e
  | err => exact er e
theorem Evm.bind {t : St → Hp → (β → Hp → Prop) → Prop} {m : Sl → R α} {κ : β → St → Hp → (γ → Hp → Prop) → Prop} {f : α → Sl → R δ} (h : Evm rel c μ W t m) (hk : Evk rel rel' c μ W κ f) :
    Evm rel' c μ W (fun σ H Q => t σ H fun v H1 => κ v σ H1 Q) (fun sl => (m sl).bind f) := by
  intro σ H F O sl Q re g
  have g : GX rel' c μ W F H O σ Q ((m sl).bind f) := g
  refine h σ H F O sl _ re ?_
  revert g
  cases e : m sl with
  | ok d sl' => exact fun g v F' H' O' s re' r => hk σ H' F' O' sl' v d Q re' r (GX.from s g)
  | exc k fs sl' => exact fun g => g
  | err => exact fun g => g
end
abbrev rD (c : CI) : Hp → V → D → Prop := fun F v d => Rp c F v d
abbrev rDs (c : CI) : Hp → List V → List D → Prop := fun F vs ds => Rps c F vs ds
abbrev rB : Hp → Bool → Bool → Prop := fun _ a b => a = b
abbrev EvE (c : CI) (μ : Ms) (W : WX) (t : TE) (m : ME) : Prop := Evm (rD c) c μ W t m
abbrev EvA (c : CI) (μ : Ms) (W : WX) (t : TA) (m : MA) : Prop := Evm (rDs c) c μ W t m
abbrev EvT (c : CI) (μ : Ms) (W : WX) (t : TT) (m : MT) : Prop := Evm rB c μ W t m

/-! ### a construct's reading and what it does -/
structure XE (X : Cx) (c : CI) (μ : Ms) (W : WX) (e : Expr) (t : TE) (m : ME) : Prop where
  pe : PE X e t
  ev : EvE c μ W t m
structure XA (X : Cx) (c : CI) (μ : Ms) (W : WX) (e : List Expr) (t : TA) (m : MA) : Prop where
  pa : PA X e t
  ev : EvA c μ W t m
structure XT (X : Cx) (c : CI) (μ : Ms) (W : WX) (e : Expr) (t : TT) (m : MT) : Prop where
  pt : PT X e t
  ev : EvT c μ W t m
structure XW (X : Cx) (c : CI) (μ : Ms) (W : WX) (e : Expr) (t : TT) (m : MT) : Prop where
  pw : PW X e t
  ev : EvT c μ W t m

section
variable {X : Cx} {c : CI} {μ : Ms} {W : WX} {a b : Expr} {ta tb : TE} {ma mb : ME} {pos : Pos}
/-! ### names, constants -/
def mVar (i : Nat) : ME := fun sl => match sl[i]? with
  | some (some d) => .ok d sl
  | _ => .err
theorem ev_var {i : Nat} (hm : mdOf μ i = .frz) : EvE c μ W (tVar i) (mVar i) := by
  intro σ H F O sl Q re g
  unfold mVar at g
  split at g
  · rename_i d e
    obtain ⟨v, e1, q⟩ := re.at_ i d e
    rw [hm] at q
    exact ⟨v, e1, g v F H O (Stp.refl _ _ _) re q.1⟩
  · exact g.elim
theorem xe_var (i : Nat) {x : Str} {pos : Pos} (hm : mdOf μ i = .frz := by rfl) (hN : X.N[i]? = some x := by rfl) (hv : Vis X.env.scope x := by first | exact Or.inl rfl | exact Or.inr (Or.inl rfl) | exact Or.inr (Or.inr rfl)) (hd : (x == ("__debug__" : Str)) = false := by decide)
    (hcd : (x == ("__classdict__" : Str)) = false := by decide) : XE X c μ W (.Name x pos) (tVar i) (mVar i) := ⟨pe_var hN hv hd hcd, ev_var hm⟩
def mC (d : D) : ME := fun sl => .ok d sl
theorem ev_c {v : V} {d : D} (h : ∀ F, Rp c F v d) : EvE c μ W (tC v) (mC d) := fun σ H F O sl Q re g => g v F H O (Stp.refl _ _ _) re (h F)
theorem xe_int {i j pos} : XE X c μ W (.Constant (.int i) j pos) (tC (.int i)) (mC (.int i)) := ⟨pe_int, ev_c fun _ => .int i⟩
theorem xe_bl {b j pos} : XE X c μ W (.Constant (.bool b) j pos) (tC (.bl b)) (mC (.bl b)) := ⟨pe_bl, ev_c fun _ => .bl b⟩
theorem xe_non {j pos} : XE X c μ W (.Constant .none j pos) (tC .non) (mC .non) := ⟨pe_non, ev_c fun _ => .non⟩
theorem xe_str {x : Str} {j pos} {l : T} (h : x = tS l) (hl : l.length ≤ LB) : XE X c μ W (.Constant (.str x) j pos) (tC (.str x)) (mC (.str l)) := ⟨pe_str, by
  subst h
  exact ev_c fun _ => .str l hl⟩
/-- a module's int, text -/
theorem xe_gint {x : Str} {i : Int} {u : Value} {pos : Pos} (hm : X.mg x = some u) (r : RelV (.int i) u) (hg : Gl X x := by rfl) (hd : (x == ("__debug__" : Str)) = false := by decide) : XE X c μ W (.Name x pos) (tC (.int i)) (mC (.int i)) :=
  ⟨pe_glob hg hm r hd, ev_c fun _ => .int i⟩
theorem xe_gstr {x : Str} {l : T} {u : Value} {pos : Pos} (hm : X.mg x = some u) (r : RelV (.str (tS l)) u) (hl : l.length ≤ LB) (hg : Gl X x := by rfl) (hd : (x == ("__debug__" : Str)) = false := by decide) : XE X c μ W (.Name x pos) (tC (.str (tS l))) (mC (.str l)) :=
  ⟨pe_glob hg hm r hd, ev_c fun _ => .str l hl⟩

/-! ### operations on two values -/
/-- r does, on values, what f says -/
def Rv2 (c : CI) (r : R2) (f : D → D → Option D) : Prop := ∀ (μ : Ms) (σ : St) (H F : Hp) (O : Os) (sl : Sl) (x y : V) (dx dy d : D) (Q : VK), Re c μ F H σ sl O → Rp c F x dx → Rp c F y dy → f dx dy = some d →
  (∀ v F' H', Stp F H O F' H' O → Re c μ F' H' σ sl O → Rp c F' v d → Q v H') → r x y H Q
def mOp (f : D → D → Option D) (ma mb : ME) : ME := fun sl => (ma sl).bind fun x s => (mb s).bind fun y s2 => R.ofO (f x y) s2
theorem ev_op {r : R2} {f : D → D → Option D} (hr : Rv2 c r f) (ha : EvE c μ W ta ma) (hb : EvE c μ W tb mb) : EvE c μ W (tOp r ta tb) (mOp f ma mb) := by
  refine Evm.bind (κ := fun x σ H1 (Q : VK) => tb σ H1 fun y H2 => r x y H2 Q) ha fun σ H F O sl x dx Q re rx g => ?_
  refine hb σ H F O sl _ re ?_
  revert g
  cases e : mb sl with
  | exc k fs sl' => exact fun g => g
  | err => exact fun g => g
  | ok dy s2 =>
    intro g y F' H' O' s re' ry
    have g2 : GX (rD c) c μ W F H O σ Q (R.ofO (f dx dy) s2) := g
    cases ef : f dx dy with
    | none => rw [ef] at g2; exact g2.elim
    | some d =>
      rw [ef] at g2
      exact hr μ σ H' F' O' s2 x y dx dy d Q re' (rx.mono s.ff) ry ef fun v F'' H'' s' re'' rv => g2 v F'' H'' O' (s.trans s') re'' rv
theorem xe_op {op : Operator} {r : R2} {f : D → D → Option D} (ho : OpR X (binaryOp op) r) (hr : Rv2 c r f) (ha : XE X c μ W a ta ma) (hb : XE X c μ W b tb mb) : XE X c μ W (.BinOp a op b pos) (tOp r ta tb) (mOp f ma mb) :=
  ⟨pe_op ho ha.pe hb.pe, ev_op hr ha.ev hb.ev⟩
theorem xe_cmp {op : CmpOp} {r : R2} {f : D → D → Option D} (ho : OpR X (compareOp op) r) (hr : Rv2 c r f) (ha : XE X c μ W a ta ma) (hb : XE X c μ W b tb mb) (hm : behindInMarks op b = false) : XE X c μ W (.Compare a [op] [b] pos) (tOp r ta tb) (mOp f ma mb) :=
  ⟨pe_cmpR ho ha.pe hb.pe hm, ev_op hr ha.ev hb.ev⟩
/-- a value that is True or False, as a test -/
def mTest (m : ME) : MT := fun sl => (m sl).bind fun d s => match d with
  | .bl b => .ok b s
  | _ => .err
theorem ev_test {t : TE} {m : ME} (h : EvE c μ W t m) : EvT c μ W (tTest t) (mTest m) := by
  refine Evm.bind (κ := fun x σ H Q => ∃ k, x = .bl k ∧ Q k H) h fun σ H F O sl x d Q re rx g => ?_
  cases rx with
  | bl b => exact ⟨b, rfl, g b F H O (Stp.refl _ _ _) re rfl⟩
  | _ => exact g.elim
theorem xt_cmp {op : CmpOp} {r : R2} {f : D → D → Option D} (ho : OpR X (compareOp op) r) (hr : Rv2 c r f) (ha : XE X c μ W a ta ma) (hb : XE X c μ W b tb mb) (hm : behindInMarks op b = false) : XT X c μ W (.Compare a [op] [b] pos) (tTest (tOp r ta tb)) (mTest (mOp f ma mb)) :=
  ⟨pt_cmpR ho ha.pe hb.pe hm, ev_test (ev_op hr ha.ev hb.ev)⟩
theorem xt_val {t : TE} {m : ME} {e : Expr} (h : XE X c μ W e t m) (he : ∀ whole, isTrue e X.env whole = (do let v ← whole; standAt e.pos; holding [v] (truthy v)) := by intro _; rfl) : XT X c μ W e (tB t) (mTest m) := ⟨pt_val h.pe he, ev_test h.ev⟩
/-! ### and, or, not -/
variable {tA tB' : TT} {mA mB : MT} {rest : List Expr}
def mAnd (m n : MT) : MT := fun sl => (m sl).bind fun b s => if b = true then n s else .ok false s
def mOr (m n : MT) : MT := fun sl => (m sl).bind fun b s => if b = true then .ok true s else n s
def mNot (m : MT) : MT := fun sl => (m sl).bind fun b s => .ok (!b) s
theorem ev_and (ha : EvT c μ W tA mA) (hb : EvT c μ W tB' mB) : EvT c μ W (tAnd tA tB') (mAnd mA mB) := by
  refine Evm.bind (κ := fun c σ H1 Q => if c = true then tB' σ H1 Q else Q false H1) ha fun σ H F O sl x d Q re rx g => ?_
  cases rx
  cases x with
  | true => exact hb σ H F O sl Q re g
  | false => exact g false F H O (Stp.refl _ _ _) re rfl
theorem ev_or (ha : EvT c μ W tA mA) (hb : EvT c μ W tB' mB) : EvT c μ W (tOr tA tB') (mOr mA mB) := by
  refine Evm.bind (κ := fun c σ H1 Q => if c = true then Q true H1 else tB' σ H1 Q) ha fun σ H F O sl x d Q re rx g => ?_
  cases rx
  cases x with
  | false => exact hb σ H F O sl Q re g
  | true => exact g true F H O (Stp.refl _ _ _) re rfl
theorem ev_not (ha : EvT c μ W tA mA) : EvT c μ W (tNot tA) (mNot mA) := by
  refine Evm.bind (κ := fun c σ H1 Q => Q (!c) H1) ha fun σ H F O sl x d Q re rx g => ?_
  cases rx
  exact g (!x) F H O (Stp.refl _ _ _) re rfl
theorem XW.xt {e : Expr} (h : XW X c μ W e tA mA) : XT X c μ W e tA mA := ⟨h.pw.pt, h.ev⟩
theorem xw_and1 (ha : XT X c μ W a tA mA) : XW X c μ W (.BoolOp .And [a] pos) tA mA := ⟨pw_and1 ha.pt, ha.ev⟩
theorem xw_or1 (ha : XT X c μ W a tA mA) : XW X c μ W (.BoolOp .Or [a] pos) tA mA := ⟨pw_or1 ha.pt, ha.ev⟩
theorem xw_and (ha : XT X c μ W a tA mA) (hb : XW X c μ W (.BoolOp .And (b :: rest) pos) tB' mB) : XW X c μ W (.BoolOp .And (a :: b :: rest) pos) (tAnd tA tB') (mAnd mA mB) := ⟨pw_and ha.pt hb.pw, ev_and ha.ev hb.ev⟩
theorem xw_or (ha : XT X c μ W a tA mA) (hb : XW X c μ W (.BoolOp .Or (b :: rest) pos) tB' mB) : XW X c μ W (.BoolOp .Or (a :: b :: rest) pos) (tOr tA tB') (mOr mA mB) := ⟨pw_or ha.pt hb.pw, ev_or ha.ev hb.ev⟩
theorem xt_not (ha : XT X c μ W a tA mA) : XT X c μ W (.UnaryOp .Not a pos) (tNot tA) (mNot mA) := ⟨pt_not ha.pt, ev_not ha.ev⟩
/-- .. as values -/
def mAndV (m n : ME) : ME := fun sl => (m sl).bind fun d s => match d with
  | .bl true => n s
  | .bl false => .ok (.bl false) s
  | _ => .err
def mOrV (m n : ME) : ME := fun sl => (m sl).bind fun d s => match d with
  | .bl true => .ok (.bl true) s
  | .bl false => n s
  | _ => .err
def mNotV (m : ME) : ME := fun sl => (m sl).bind fun d s => match d with
  | .bl b => .ok (.bl (!b)) s
  | _ => .err
theorem ev_andV (ha : EvE c μ W ta ma) (hb : EvE c μ W tb mb) : EvE c μ W (tAndV ta tb) (mAndV ma mb) := by
  refine Evm.bind (κ := fun x σ H1 (Q : VK) => ∃ c, x = .bl c ∧ if c = true then tb σ H1 Q else Q (.bl false) H1) ha fun σ H F O sl x d Q re rx g => ?_
  cases rx with
  | bl b =>
    refine ⟨b, rfl, ?_⟩
    cases b with
    | true => exact hb σ H F O sl Q re g
    | false => exact g (.bl false) F H O (Stp.refl _ _ _) re (.bl false)
  | _ => exact g.elim
theorem ev_orV (ha : EvE c μ W ta ma) (hb : EvE c μ W tb mb) : EvE c μ W (tOrV ta tb) (mOrV ma mb) := by
  refine Evm.bind (κ := fun x σ H1 (Q : VK) => ∃ c, x = .bl c ∧ if c = true then Q (.bl true) H1 else tb σ H1 Q) ha fun σ H F O sl x d Q re rx g => ?_
  cases rx with
  | bl b =>
    refine ⟨b, rfl, ?_⟩
    cases b with
    | false => exact hb σ H F O sl Q re g
    | true => exact g (.bl true) F H O (Stp.refl _ _ _) re (.bl true)
  | _ => exact g.elim
theorem ev_notV (ha : EvE c μ W ta ma) : EvE c μ W (tNotV ta) (mNotV ma) := by
  refine Evm.bind (κ := fun x σ H1 (Q : VK) => ∃ c, x = .bl c ∧ Q (.bl (!c)) H1) ha fun σ H F O sl x d Q re rx g => ?_
  cases rx with
  | bl b => exact ⟨b, rfl, g (.bl (!b)) F H O (Stp.refl _ _ _) re (.bl _)⟩
  | _ => exact g.elim
theorem xe_one {op} {t : TE} {m : ME} (h : XE X c μ W a t m) : XE X c μ W (.BoolOp op [a] pos) t m := ⟨pe_one h.pe, h.ev⟩
theorem xe_and (ha : XE X c μ W a ta ma) (hb : XE X c μ W (.BoolOp .And (b :: rest) pos) tb mb) : XE X c μ W (.BoolOp .And (a :: b :: rest) pos) (tAndV ta tb) (mAndV ma mb) := ⟨pe_and ha.pe hb.pe, ev_andV ha.ev hb.ev⟩
theorem xe_or (ha : XE X c μ W a ta ma) (hb : XE X c μ W (.BoolOp .Or (b :: rest) pos) tb mb) : XE X c μ W (.BoolOp .Or (a :: b :: rest) pos) (tOrV ta tb) (mOrV ma mb) := ⟨pe_or ha.pe hb.pe, ev_orV ha.ev hb.ev⟩
theorem xe_not (ha : XE X c μ W a ta ma) : XE X c μ W (.UnaryOp .Not a pos) (tNotV ta) (mNotV ma) := ⟨pe_not ha.pe, ev_notV ha.ev⟩
/-- a if t else b -/
def mIfE (m : MT) (n o : ME) : ME := fun sl => (m sl).bind fun b s => if b = true then n s else o s
theorem ev_ifE (h : EvT c μ W tA mA) (ha : EvE c μ W ta ma) (hb : EvE c μ W tb mb) : EvE c μ W (tIf tA ta tb) (mIfE mA ma mb) := by
  refine Evm.bind (κ := fun c σ H1 Q => if c = true then ta σ H1 Q else tb σ H1 Q) h fun σ H F O sl x d Q re rx g => ?_
  cases rx
  cases x with
  | true => exact ha σ H F O sl Q re g
  | false => exact hb σ H F O sl Q re g
theorem xe_ifE {e : Expr} (h : XT X c μ W e tA mA) (ha : XE X c μ W a ta ma) (hb : XE X c μ W b tb mb) : XE X c μ W (.IfExp e a b pos) (tIf tA ta tb) (mIfE mA ma mb) := ⟨pe_ifExp h.pt ha.pe hb.pe, ev_ifE h.ev ha.ev hb.ev⟩
/-! ### arguments, tuples, lists -/
def mNil : MA := fun sl => .ok [] sl
def mCons (m : ME) (n : MA) : MA := fun sl => (m sl).bind fun d s => (n s).bind fun ds s2 => .ok (d :: ds) s2
theorem ev_nil : EvA c μ W tNil mNil := fun σ H F O sl Q re g => g [] F H O (Stp.refl _ _ _) re .nil
theorem ev_cons {t : TE} {tr : TA} {m : ME} {n : MA} (h : EvE c μ W t m) (hr : EvA c μ W tr n) : EvA c μ W (tCons t tr) (mCons m n) := by
  refine Evm.bind (κ := fun x σ H1 Q => tr σ H1 fun xs H2 => Q (x :: xs) H2) h fun σ H F O sl x d Q re rx g => ?_
  refine hr σ H F O sl _ re ?_
  revert g
  cases e : n sl with
  | exc k fs sl' => exact fun g => g
  | err => exact fun g => g
  | ok ds s2 => exact fun g xs F' H' O' s re' rs => g (x :: xs) F' H' O' s re' (.cons (rx.mono s.ff) rs)
theorem xa_nil : XA X c μ W [] tNil mNil := ⟨pa_nil, ev_nil⟩
theorem xa_cons {e : Expr} {es : List Expr} {t : TE} {tr : TA} {m : ME} {n : MA} (h : XE X c μ W e t m) (hr : XA X c μ W es tr n) (hs : starEach (e :: es) X.env = (false, eval e X.env) :: starEach es X.env := by rfl) : XA X c μ W (e :: es) (tCons t tr) (mCons m n) :=
  ⟨pa_cons h.pe hr.pa hs, ev_cons h.ev hr.ev⟩
/-- a new frozen thing of these values -/
def mTup (n : MA) : ME := fun sl => (n sl).bind fun ds s => if ds.length ≤ LB then .ok (.tup ds) s else .err
def mLst (n : MA) : ME := fun sl => (n sl).bind fun ds s => if ds.length ≤ LB then .ok (.lst ds) s else .err
theorem ev_tup {t : TA} {n : MA} (h : EvA c μ W t n) : EvE c μ W (tTup t) (mTup n) := by
  refine Evm.bind (κ := fun xs σ H1 (Q : VK) => xs.length ≤ sizeLine ∧ ∀ p, H1 p = none → Q (.ref p) (upd H1 p (.tup xs))) h fun σ H F O sl xs ds Q re rs g => ?_
  by_cases hl : ds.length ≤ LB
  · skip
    rw [if_pos hl] at g
    refine ⟨by rw [rs.length]; exact Nat.le_of_lt (LB_line hl), fun p hp => ?_⟩
    exact g (.ref p) _ _ O (Stp.add _ re.ag hp) (re.add _ hp) (.tup upd_same hl (rs.mono (Le.new _ (re.ag.non hp))))
  · skip
    rw [if_neg hl] at g
    exact g.elim
theorem ev_lst {t : TA} {n : MA} (h : EvA c μ W t n) : EvE c μ W (tLst t) (mLst n) := by
  refine Evm.bind (κ := fun xs σ H1 (Q : VK) => xs.length ≤ sizeLine ∧ ∀ p, H1 p = none → Q (.ref p) (upd H1 p (.lst xs))) h fun σ H F O sl xs ds Q re rs g => ?_
  by_cases hl : ds.length ≤ LB
  · skip
    rw [if_pos hl] at g
    refine ⟨by rw [rs.length]; exact Nat.le_of_lt (LB_line hl), fun p hp => ?_⟩
    exact g (.ref p) _ _ O (Stp.add _ re.ag hp) (re.add _ hp) (.lst upd_same hl (rs.mono (Le.new _ (re.ag.non hp))))
  · skip
    rw [if_neg hl] at g
    exact g.elim
theorem xe_tup {es : List Expr} {x1} {t : TA} {n : MA} (h : XA X c μ W es t n) : XE X c μ W (.Tuple es x1 pos) (tTup t) (mTup n) := ⟨pe_tup h.pa, ev_tup h.ev⟩
theorem xe_lst {es : List Expr} {t : TA} {n : MA} (h : XA X c μ W es t n) : XE X c μ W (.List es pos) (tLst t) (mLst n) := ⟨pe_lst h.pa, ev_lst h.ev⟩
end
end MM

set_option Elab.async false
set_option linter.all false
set_option maxRecDepth 100000
set_option maxHeartbeats 2000000
/-! The value layer, part c: operators, subscripts, slices, dicts by values. -/
namespace MM
open PySem PySem.Spec PyProof.Rows L2

/-! ### dicts by value -/
def lookD (kv : List (KD × D)) (k : KD) : Option D := (kv.find? fun p => decide (p.1 = k)).map (·.2)
def putD (kv : List (KD × D)) (k : KD) (d : D) : List (KD × D) := if (kv.any fun p => decide (p.1 = k)) = true then kv.map (fun p => if p.1 = k then (p.1, d) else p) else kv ++ [(k, d)]
def dropD (kv : List (KD × D)) (k : KD) : List (KD × D) := kv.filter fun p => decide (p.1 ≠ k)
def kd : D → Option KD
  | .int i => some (.inl i)
  | .str l => some (.inr l)
  | _ => none
theorem lookD_nil {k : KD} : lookD [] k = none := rfl
theorem lookD_cons {p : KD × D} {r : List (KD × D)} {k : KD} : lookD (p :: r) k = if p.1 = k then some p.2 else lookD r k := by
  unfold lookD
  rw [List.find?_cons]
  by_cases h : p.1 = k
  · simp [h]
  · simp [h]
section
variable {c : CI} {F : Hp}
theorem kd_rep {x : V} {d : D} {k : KD} (h : Rp c F x d) (e : kd d = some k) : x = kV (kK k) := by
  cases h with
  | int i => cases e; rfl
  | str l _ => cases e; rfl
  | _ => cases e
/-- keys alike, values related -/
structure RpK (c : CI) (F : Hp) (kvs : List (Key × V)) (kv : List (KD × D)) : Prop where
  ks : kvs.map (·.1) = kv.map (fun p => kK p.1)
  vs : Rps c F (kvs.map (·.2)) (kv.map (·.2))
theorem RpK.mono {F' : Hp} (e : Le F F') {kvs : List (Key × V)} {kv : List (KD × D)} (h : RpK c F kvs kv) : RpK c F' kvs kv := ⟨h.ks, h.vs.mono e⟩
theorem RpK.nil : RpK c F [] [] := ⟨rfl, .nil⟩
theorem RpK.len {kvs : List (Key × V)} {kv : List (KD × D)} (h : RpK c F kvs kv) : kvs.length = kv.length := by
  have := h.vs.length
  simpa using this
theorem RpK.cases {p : Key × V} {kvs : List (Key × V)} {kv : List (KD × D)} (h : RpK c F (p :: kvs) kv) : ∃ q r, kv = q :: r ∧ p.1 = kK q.1 ∧ Rp c F p.2 q.2 ∧ RpK c F kvs r := by
  obtain ⟨k, v⟩ := h
  cases kv with
  | nil => simp at k
  | cons q r =>
    rw [List.map_cons, List.map_cons] at k v
    injection k with k1 k2
    cases v with
    | cons v1 v2 => exact ⟨q, r, rfl, k1, v1, k2, v2⟩
theorem RpK.cons {p : Key × V} {q : KD × D} {kvs : List (Key × V)} {r : List (KD × D)} (k1 : p.1 = kK q.1) (v1 : Rp c F p.2 q.2) (h : RpK c F kvs r) : RpK c F (p :: kvs) (q :: r) :=
  ⟨by rw [List.map_cons, List.map_cons, k1, h.ks], by rw [List.map_cons, List.map_cons]; exact .cons v1 h.vs⟩
theorem RpK.look : ∀ {kvs : List (Key × V)} {kv : List (KD × D)} (k : KD), RpK c F kvs kv → (lookD kv k = none ∧ valV kvs (kK k) = none) ∨ ∃ d v, lookD kv k = some d ∧ valV kvs (kK k) = some v ∧ Rp c F v d
  | [], kv, k, h => by
    have e : kv = [] := List.eq_nil_of_length_eq_zero (by rw [← h.len]; rfl)
    subst e
    exact .inl ⟨rfl, rfl⟩
  | p :: kvs, kv, k, h => by
    obtain ⟨q, r, rfl, k1, v1, t⟩ := h.cases
    rw [lookD_cons]
    by_cases e : q.1 = k
    · rw [if_pos e, valV_pos (by rw [k1, e])]
      exact .inr ⟨_, _, rfl, rfl, v1⟩
    · rw [if_neg e, valV_neg (fun z => e (kK_inj (k1.symm.trans z)))]
      exact RpK.look k t
theorem RpK.any {kvs : List (Key × V)} {kv : List (KD × D)} (k : KD) (h : RpK c F kvs kv) : (kvs.any fun p => decide (p.1 = kK k)) = kv.any fun p => decide (p.1 = k) := by
  induction kvs generalizing kv with
  | nil =>
    have e : kv = [] := List.eq_nil_of_length_eq_zero (by rw [← h.len]; rfl)
    subst e
    rfl
  | cons p kvs ih =>
    obtain ⟨q, r, rfl, k1, v1, t⟩ := h.cases
    rw [List.any_cons, List.any_cons, ih t]
    congr 1
    rw [k1]
    by_cases e : q.1 = k
    · rw [decide_eq_true e, decide_eq_true (by rw [e])]
    · rw [decide_eq_false e, decide_eq_false (fun z => e (kK_inj z))]
theorem RpK.put {kvs : List (Key × V)} {kv : List (KD × D)} (k : KD) {v : V} {d : D} (h : RpK c F kvs kv) (r : Rp c F v d) : RpK c F (putK kvs (kK k) v) (putD kv k d) := by
  unfold putK putD
  rw [h.any k]
  by_cases e : (kv.any fun p => decide (p.1 = k)) = true
  · rw [if_pos e, if_pos e]
    clear e
    induction kvs generalizing kv with
    | nil =>
      have e : kv = [] := List.eq_nil_of_length_eq_zero (by rw [← h.len]; rfl)
      subst e
      exact .nil
    | cons p kvs ih =>
      obtain ⟨q, t, rfl, k1, v1, t'⟩ := h.cases
      rw [List.map_cons, List.map_cons]
      by_cases e : q.1 = k
      · rw [if_pos e, if_pos (by rw [k1, e])]
        exact .cons k1 r (ih t')
      · rw [if_neg e, if_neg (fun z => e (kK_inj (k1.symm.trans z)))]
        exact .cons k1 v1 (ih t')
  · rw [if_neg e, if_neg e]
    clear e
    induction kvs generalizing kv with
    | nil =>
      have e : kv = [] := List.eq_nil_of_length_eq_zero (by rw [← h.len]; rfl)
      subst e
      exact .cons rfl r .nil
    | cons p kvs ih =>
      obtain ⟨q, t, rfl, k1, v1, t'⟩ := h.cases
      exact .cons k1 v1 (ih t')
theorem RpK.drop {kvs : List (Key × V)} {kv : List (KD × D)} (k : KD) (h : RpK c F kvs kv) : RpK c F (dropK kvs (kK k)) (dropD kv k) := by
  unfold dropK dropD
  induction kvs generalizing kv with
  | nil =>
    have e : kv = [] := List.eq_nil_of_length_eq_zero (by rw [← h.len]; rfl)
    subst e
    exact .nil
  | cons p kvs ih =>
    obtain ⟨q, t, rfl, k1, v1, t'⟩ := h.cases
    rw [List.filter_cons, List.filter_cons]
    by_cases e : q.1 = k
    · rw [if_neg (show ¬ decide (p.1 ≠ kK k) = true by rw [k1, e]; simp), if_neg (show ¬ decide (q.1 ≠ k) = true by simp [e])]
      exact ih t'
    · have e2 : p.1 ≠ kK k := fun z => e (kK_inj (k1.symm.trans z))
      rw [if_pos (show decide (p.1 ≠ kK k) = true by simpa using e2), if_pos (show decide (q.1 ≠ k) = true by simpa using e)]
      exact .cons k1 v1 (ih t')
end
theorem putD_len (kv : List (KD × D)) (k : KD) (d : D) : (putD kv k d).length ≤ kv.length + 1 := by
  unfold putD
  split <;> simp
theorem dropD_len (kv : List (KD × D)) (k : KD) : (dropD kv k).length ≤ kv.length := List.length_filter_le _ _

/-! ### operators -/
section
variable {c : CI} {X : Cx}
/-- H as it was -/
theorem stay {μ : Ms} {σ : St} {F H : Hp} {O : Os} {sl : Sl} {Q : VK} {d : D} (re : Re c μ F H σ sl O) (g : ∀ v F' H', Stp F H O F' H' O → Re c μ F' H' σ sl O → Rp c F' v d → Q v H') {v : V} (r : Rp c F v d) : Q v H := g v F H (Stp.refl _ _ _) re r
/-- something new -/
theorem fresh {μ : Ms} {σ : St} {F H : Hp} {O : Os} {sl : Sl} {Q : VK} {d : D} (re : Re c μ F H σ sl O) (g : ∀ v F' H', Stp F H O F' H' O → Re c μ F' H' σ sl O → Rp c F' v d → Q v H') {o : HO}
    (r : ∀ p F', H p = none → Le F F' → F' p = some o → Rp c F' (.ref p) d) : ∀ p, H p = none → Q (.ref p) (upd H p o) := fun p hp =>
  g (.ref p) _ _ (Stp.add o re.ag hp) (re.add o hp) (r p _ hp (Le.new o (re.ag.non hp)) upd_same)

def fAdd : D → D → Option D
  | .int i, .int j => some (.int (i + j))
  | .str a, .str b => if a.length + b.length ≤ LB then some (.str (a ++ b)) else none
  | .lst a, .lst b => if a.length + b.length ≤ LB then some (.lst (a ++ b)) else none
  | .tup a, .tup b => if a.length + b.length ≤ LB then some (.tup (a ++ b)) else none
  | _, _ => none
def rAddU (K : PySem.W.Frag) : R2 := fun x y H Q => rI0 (fun i j => .int (i + j)) x y H Q ∨ (∃ i j, x = .str i ∧ y = .str j ∧ i.length + j.length ≤ sizeLine ∧ Q (.str (i ++ j)) H) ∨ rCat x y H Q ∨ rCatA K x y H Q
theorem op_addU : OpR X (binaryOp .Add) (rAddU X.K) := op_add.or (op_add_str.or (op_cat.or op_catA))
theorem tS_app (a b : T) : tS a ++ tS b = tS (a ++ b) := by
  show Str.append (tS a) (tS b) = tS (a ++ b)
  unfold Str.append tS
  simp
theorem rv_add {K : PySem.W.Frag} : Rv2 c (rAddU K) fAdd := by
  intro μ σ H F O sl x y dx dy d Q re rx ry e g
  unfold fAdd at e
  split at e
  · cases rx; cases ry; cases e
    exact .inl ⟨_, _, rfl, rfl, stay re g (.int _)⟩
  · rename_i a b
    split at e
    · rename_i hl
      cases rx; cases ry; cases e
      refine .inr (.inl ⟨_, _, rfl, rfl, by rw [tS_len, tS_len]; exact Nat.le_of_lt (LB_line hl), ?_⟩)
      rw [tS_app]
      exact stay re g (.str _ (by rw [List.length_append]; exact hl))
    · cases e
  · rename_i a b
    split at e
    · rename_i hl
      cases rx with
      | lst h1 z1 r1 =>
        cases ry with
        | lst h2 z2 r2 =>
          cases e
          refine .inr (.inr (.inl ⟨_, _, _, _, rfl, rfl, re.ag.lst h1, re.ag.lst h2, by rw [r1.length, r2.length]; exact Nat.le_of_lt (LB_line hl), ?_⟩))
          exact fresh re g fun p F' _ le hp => .lst hp (by rw [List.length_append]; exact hl) ((r1.mono le).append (r2.mono le))
    · cases e
  · rename_i a b
    split at e
    · rename_i hl
      cases rx with
      | tup h1 z1 r1 =>
        cases ry with
        | tup h2 z2 r2 =>
          cases e
          refine .inr (.inr (.inr ⟨_, _, _, _, rfl, rfl, SqT.of (re.ag.tup h1), SqT.of (re.ag.tup h2), by rw [r1.length, r2.length]; exact Nat.le_of_lt (LB_line hl), fun ex => ?_, fun _ ey => ?_, fun _ _ => ?_⟩))
          · subst ex
            cases r1
            exact stay re g (.tup h2 z2 r2)
          · subst ey
            cases r2
            rw [List.append_nil] at g
            exact stay re g (.tup h1 z1 r1)
          · exact fresh re g fun p F' _ le hp => .tup hp (by rw [List.length_append]; exact hl) ((r1.mono le).append (r2.mono le))
    · cases e
  · cases e
/-- ints in, something out -/
theorem rv_int {C : Int → Int → Prop} [∀ i j, Decidable (C i j)] {g : Int → Int → V} {h : Int → Int → D} (r : ∀ F i j, Rp c F (g i j) (h i j)) :
    Rv2 c (rI C g) (fun x y => match x, y with | .int i, .int j => if C i j then some (h i j) else none | _, _ => none) := by
  intro μ σ H F O sl x y dx dy d Q re rx ry e q
  dsimp only at e
  split at e
  · rename_i i j
    split at e
    · rename_i hc
      cases rx; cases ry; cases e
      exact ⟨i, j, rfl, rfl, hc, stay re q (r _ _ _)⟩
    · cases e
  · cases e
theorem rv_int0 {g : Int → Int → V} {h : Int → Int → D} (r : ∀ F i j, Rp c F (g i j) (h i j)) : Rv2 c (rI0 g) (fun x y => match x, y with | .int i, .int j => some (h i j) | _, _ => none) := by
  intro μ σ H F O sl x y dx dy d Q re rx ry e q
  dsimp only at e
  split at e
  · rename_i i j
    cases rx; cases ry; cases e
    exact ⟨i, j, rfl, rfl, stay re q (r _ _ _)⟩
  · cases e
instance : ∀ i j, Decidable (CDiv i j) := fun i j => inferInstanceAs (Decidable (0 < j ∧ j < 1073741824))
instance : ∀ i j, Decidable (CMul i j) := fun i j => inferInstanceAs (Decidable ((-(2 ^ 64) < i ∧ i < 2 ^ 64) ∨ (-(2 ^ 64) < j ∧ j < 2 ^ 64)))
instance : ∀ i j, Decidable (CPow i j) := fun i j => inferInstanceAs (Decidable (0 ≤ j ∧ j ≤ 1000000 ∧ i.natAbs < 2 ^ 64))
def fSub : D → D → Option D := fun x y => match x, y with | .int i, .int j => some (.int (i - j)) | _, _ => none
def fMul : D → D → Option D := fun x y => match x, y with | .int i, .int j => if CMul i j then some (.int (i * j)) else none | _, _ => none
def fDiv : D → D → Option D := fun x y => match x, y with | .int i, .int j => if CDiv i j then some (.int (i / j)) else none | _, _ => none
def fMod : D → D → Option D := fun x y => match x, y with | .int i, .int j => if 0 < j then some (.int (i % j)) else none | _, _ => none
def fPow : D → D → Option D := fun x y => match x, y with | .int i, .int j => if CPow i j then some (.int (i ^ j.toNat)) else none | _, _ => none
def fLt : D → D → Option D := fun x y => match x, y with | .int i, .int j => some (.bl (decide (i < j))) | _, _ => none
def fLe : D → D → Option D := fun x y => match x, y with | .int i, .int j => some (.bl (decide (i ≤ j))) | _, _ => none
def fGt : D → D → Option D := fun x y => match x, y with | .int i, .int j => some (.bl (decide (j < i))) | _, _ => none
def fGe : D → D → Option D := fun x y => match x, y with | .int i, .int j => some (.bl (decide (j ≤ i))) | _, _ => none
theorem rv_sub : Rv2 c (rI0 fun i j => .int (i - j)) fSub := rv_int0 fun _ _ _ => .int _
theorem rv_mul : Rv2 c (rI CMul fun i j => .int (i * j)) fMul := rv_int fun _ _ _ => .int _
theorem rv_div : Rv2 c (rI CDiv fun i j => .int (i / j)) fDiv := rv_int fun _ _ _ => .int _
theorem rv_mod : Rv2 c (rI (fun _ j => 0 < j) fun i j => .int (i % j)) fMod := rv_int (C := fun _ j => 0 < j) fun _ _ _ => .int _
theorem rv_pow : Rv2 c (rI CPow fun i j => .int (i ^ j.toNat)) fPow := rv_int fun _ _ _ => .int _
theorem rv_lt : Rv2 c (rI0 fun i j => .bl (decide (i < j))) fLt := rv_int0 fun _ _ _ => .bl _
theorem rv_le : Rv2 c (rI0 fun i j => .bl (decide (i ≤ j))) fLe := rv_int0 fun _ _ _ => .bl _
theorem rv_gt : Rv2 c (rI0 fun i j => .bl (decide (j < i))) fGt := rv_int0 fun _ _ _ => .bl _
theorem rv_ge : Rv2 c (rI0 fun i j => .bl (decide (j ≤ i))) fGe := rv_int0 fun _ _ _ => .bl _

/-! ### ==, in: data of any depth -/
mutual
def toP : D → Option PyData
  | .non => some .none
  | .bl b => some (.bool b)
  | .int i => some (.int i)
  | .str l => some (.str (tS l))
  | .tup ds => (toPs ds).map PyData.tuple
  | .lst ds => (toPs ds).map PyData.list
  | _ => none
def toPs : List D → Option (List PyData)
  | [] => some []
  | d :: ds => (toP d).bind fun p => (toPs ds).map fun ps => p :: ps
end
mutual
theorem toP_rep {K : PySem.W.Frag} {F H : Hp} (ag : Ag c.lk F H) : ∀ {v : V} {d : D} {p : PyData}, Rp c F v d → toP d = some p → Dp K H v p
  | _, _, _, .non, e => by simp [toP] at e; subst e; exact .non
  | _, _, _, .bl b, e => by simp [toP] at e; subst e; exact .bl b
  | _, _, _, .int i, e => by simp [toP] at e; subst e; exact .int i
  | _, _, _, .str l _, e => by simp [toP] at e; subst e; exact .str _
  | _, _, _, .tup h _ r, e => by
    simp [toP] at e
    obtain ⟨ps, e1, rfl⟩ := e
    exact .tup (SqT.of (ag.tup h)) (toPs_rep ag r e1)
  | _, _, _, .lst h _ r, e => by
    simp [toP] at e
    obtain ⟨ps, e1, rfl⟩ := e
    exact .lst (SqL.of (ag.lst h)) (toPs_rep ag r e1)
  | _, _, _, .dic _ _ _ _ _ _, e => by simp [toP] at e
  | _, _, _, .ins _ _ _ _, e => by simp [toP] at e
  | _, _, _, .scr _ _, e => by simp [toP] at e
theorem toPs_rep {K : PySem.W.Frag} {F H : Hp} (ag : Ag c.lk F H) : ∀ {vs : List V} {ds : List D} {ps : List PyData}, Rps c F vs ds → toPs ds = some ps → DpAll K H vs ps
  | _, _, _, .nil, e => by simp [toPs] at e; subst e; exact .nil
  | _, d :: ds, _, .cons r t, e => by
    cases e1 : toP d with
    | none => simp [toPs, e1] at e
    | some p =>
      cases e2 : toPs ds with
      | none => simp [toPs, e1, e2] at e
      | some ps =>
        simp [toPs, e1, e2] at e
        subst e
        exact .cons (toP_rep ag r e1) (toPs_rep ag t e2)
end
def deepEq (d e : D) : Option Bool := match toP d, toP e with
  | some p, some q => if SeqAt.shaped p = true ∧ SeqAt.shaped q = true then some (PyData.eqv p q) else none
  | _, _ => none
def eqD (d e : D) : Option Bool := match d, e with
  | .int i, .int j => some (decide (i = j))
  | .str a, .str b => some (decide (a = b))
  | .bl a, .bl b => some (decide (a = b))
  | .non, .non => some true
  | d, e => deepEq d e
def fEq (d e : D) : Option D := (eqD d e).map D.bl
def fNe (d e : D) : Option D := (eqD d e).map fun b => D.bl (!b)
theorem deepEq_rep {K : PySem.W.Frag} {F H : Hp} (ag : Ag c.lk F H) {x y : V} {d e : D} {b : Bool} (rx : Rp c F x d) (ry : Rp c F y e) (h : deepEq d e = some b) : ∃ p q, Dp K H x p ∧ Dp K H y q ∧ SeqAt.shaped p = true ∧ SeqAt.shaped q = true ∧ PyData.eqv p q = b := by
  unfold deepEq at h
  split at h
  · rename_i p q e1 e2
    split at h
    · rename_i hs
      cases h
      exact ⟨p, q, toP_rep ag rx e1, toP_rep ag ry e2, hs.1, hs.2, rfl⟩
    · cases h
  · cases h
def rEqU (K : PySem.W.Frag) : R2 := fun x y H Q => rEq x y H Q ∨ rEqD K x y H Q
def rNeU (K : PySem.W.Frag) : R2 := fun x y H Q => rNe x y H Q ∨ rNeD K x y H Q
theorem op_eqU (hu : X.A.units + 64 < cLine) : OpR X (compareOp .Eq) (rEqU X.K) := op_eq.or (op_eqD hu)
theorem op_neU (hu : X.A.units + 64 < cLine) : OpR X (compareOp .NotEq) (rNeU X.K) := op_ne.or (op_neD hu)
theorem eqD_rep {K : PySem.W.Frag} {F H : Hp} (ag : Ag c.lk F H) {x y : V} {d e : D} {b : Bool} (rx : Rp c F x d) (ry : Rp c F y e) (h : eqD d e = some b) :
    (scal x y = true ∧ decide (x = y) = b) ∨ ∃ p q, Dp K H x p ∧ Dp K H y q ∧ SeqAt.shaped p = true ∧ SeqAt.shaped q = true ∧ PyData.eqv p q = b := by
  unfold eqD at h
  split at h
  · cases rx; cases ry; cases h
    exact .inl ⟨rfl, by simp⟩
  · cases rx; cases ry; cases h
    refine .inl ⟨rfl, ?_⟩
    rename_i a b _ _
    by_cases e : a = b
    · rw [e]; simp
    · rw [decide_eq_false e, decide_eq_false (fun z => e (tS_inj (V.str.inj z)))]
  · cases rx; cases ry; cases h
    exact .inl ⟨rfl, by simp⟩
  · cases rx; cases ry; cases h
    exact .inl ⟨rfl, by simp⟩
  · exact .inr (deepEq_rep ag rx ry h)
theorem rv_eq {K : PySem.W.Frag} : Rv2 c (rEqU K) fEq := by
  intro μ σ H F O sl x y dx dy d Q re rx ry e g
  unfold fEq at e
  cases h : eqD dx dy with
  | none => rw [h] at e; cases e
  | some b =>
    rw [h] at e
    cases e
    rcases eqD_rep (K := K) re.ag rx ry h with ⟨h1, h2⟩ | ⟨p, q, h1, h2, h3, h4, h5⟩
    · exact .inl ⟨h1, by rw [h2]; exact stay re g (.bl _)⟩
    · exact .inr ⟨p, q, h1, h2, h3, h4, by rw [h5]; exact stay re g (.bl _)⟩
theorem rv_ne {K : PySem.W.Frag} : Rv2 c (rNeU K) fNe := by
  intro μ σ H F O sl x y dx dy d Q re rx ry e g
  unfold fNe at e
  cases h : eqD dx dy with
  | none => rw [h] at e; cases e
  | some b =>
    rw [h] at e
    cases e
    rcases eqD_rep (K := K) re.ag rx ry h with ⟨h1, h2⟩ | ⟨p, q, h1, h2, h3, h4, h5⟩
    · exact .inl ⟨h1, by rw [h2]; exact stay re g (.bl _)⟩
    · exact .inr ⟨p, q, h1, h2, h3, h4, by rw [h5]; exact stay re g (.bl _)⟩
/-- is None -/
def isN : D → Bool
  | .non => true
  | _ => false
def fIs : D → D → Option D := fun x y => match y with | .non => some (.bl (isN x)) | _ => none
def fIsNot : D → D → Option D := fun x y => match y with | .non => some (.bl (!isN x)) | _ => none
theorem isN_rep {F : Hp} {x : V} {d : D} (h : Rp c F x d) : decide (x = .non) = isN d := by
  cases h <;> simp [isN]
theorem rv_is : Rv2 c (fun x y H Q => y = .non ∧ Q (.bl (decide (x = .non))) H) fIs := by
  intro μ σ H F O sl x y dx dy d Q re rx ry e g
  unfold fIs at e
  split at e
  · cases ry; cases e
    exact ⟨rfl, by rw [isN_rep rx]; exact stay re g (.bl _)⟩
  · cases e
theorem rv_isnot : Rv2 c (fun x y H Q => y = .non ∧ Q (.bl (!decide (x = .non))) H) fIsNot := by
  intro μ σ H F O sl x y dx dy d Q re rx ry e g
  unfold fIsNot at e
  split at e
  · cases ry; cases e
    exact ⟨rfl, by rw [isN_rep rx]; exact stay re g (.bl _)⟩
  · cases e
/-! in: a sign in a text; a flat thing in a list or tuple; data in a list of data; a key in a dict -/
def flatD : D → Bool
  | .non | .bl _ | .int _ | .str _ => true
  | _ => false
/-- == of flat things -/
def feq : D → D → Bool
  | .non, .non => true
  | .bl a, .bl b => a == b
  | .bl a, .int b => (if a then 1 else 0) == b
  | .int a, .bl b => a == (if b then 1 else 0)
  | .int a, .int b => a == b
  | .str a, .str b => a == b
  | _, _ => false
def anyDeep (x : D) : List D → Option Bool
  | [] => some false
  | d :: ds => (deepEq d x).bind fun b => (anyDeep x ds).map fun r => b || r
def isIn (x y : D) : Option Bool := match y with
  | .str z => match x with
    | .str [k] => some (decide (k ∈ z))
    | _ => none
  | .dic kv => (kd x).map fun k => (lookD kv k).isSome
  | .lst ds => if flatD x = true ∧ ds.all flatD = true then some (ds.any fun y => feq y x) else match toP x, toP (.lst ds) with
    | some p, some (.list qs) => if SeqAt.shaped p = true ∧ SeqAt.shaped (.list qs) = true then some (qs.any fun z => PyData.eqv z p) else none
    | _, _ => none
  | .tup ds => if flatD x = true ∧ ds.all flatD = true then some (ds.any fun y => feq y x) else none
  | _ => none
def fIn (x y : D) : Option D := (isIn x y).map D.bl
def fNotIn (x y : D) : Option D := (isIn x y).map fun b => D.bl (!b)
theorem flat_rep {F : Hp} {x : V} {d : D} (h : Rp c F x d) (e : flatD d = true) : flatV x = true := by
  cases h <;> first | rfl | (cases e)
theorem flats_rep {F : Hp} : ∀ {xs : List V} {ds : List D}, Rps c F xs ds → ds.all flatD = true → xs.all flatV = true
  | _, _, .nil, _ => rfl
  | _, _, .cons r t, e => by
    rw [List.all_cons, Bool.and_eq_true] at e ⊢
    exact ⟨flat_rep r e.1, flats_rep t e.2⟩
theorem tS_beq (a b : T) : (tS a == tS b) = (a == b) := by
  by_cases e : a = b
  · rw [e]; simp
  · have h : tS a ≠ tS b := fun z => e (tS_inj z)
    rw [beq_eq_false_iff_ne.mpr e, beq_eq_false_iff_ne.mpr h]
theorem feq_rep {F : Hp} {x y : V} {d e : D} (hx : Rp c F x d) (hy : Rp c F y e) (fd : flatD d = true) (fe : flatD e = true) : eqV x y = feq d e := by
  cases hx <;> (try (cases fd; done)) <;> cases hy <;> (try (cases fe; done)) <;> first | rfl | exact tS_beq _ _
theorem any_rep {F : Hp} {x : V} {d : D} (hx : Rp c F x d) (fd : flatD d = true) : ∀ {xs : List V} {ds : List D}, Rps c F xs ds → ds.all flatD = true → inV x xs = ds.any fun y => feq y d
  | _, _, .nil, _ => rfl
  | _, _, .cons r t, e => by
    rw [List.all_cons, Bool.and_eq_true] at e
    have ih := any_rep hx fd t e.2
    unfold inV at ih ⊢
    rw [List.any_cons, List.any_cons, ih, feq_rep r hx e.1 fd]
def rDin : R2 := fun x y H Q => ∃ a o, y = .ref a ∧ DGet H a x o ∧ Q (.bl o.isSome) H
def rDnin : R2 := fun x y H Q => ∃ a o, y = .ref a ∧ DGet H a x o ∧ Q (.bl (!o.isSome)) H
theorem op_din (hu : X.A.units + 1 < cLine) : OpR X (compareOp .In) rDin := by
  intro pins s σ H x y v u Q I rx ry h
  obtain ⟨a, o, rfl, g, q⟩ := h
  obtain rfl : u = Value.ref a := ry
  exact d_in hu I g rx fun s3 I3 => ⟨.bl o.isSome, H, I3, rfl, q⟩
theorem op_dnin (hu : X.A.units + 1 < cLine) : OpR X (compareOp .NotIn) rDnin := by
  intro pins s σ H x y v u Q I rx ry h
  obtain ⟨a, o, rfl, g, q⟩ := h
  obtain rfl : u = Value.ref a := ry
  exact d_notIn hu I g rx fun s3 I3 => ⟨.bl (!o.isSome), H, I3, rfl, q⟩
def rInS : R2 := fun x y H Q => ∃ (k : Nat) (z : Str), x = .str ⟨#[k]⟩ ∧ y = .str z ∧ Q (.bl (decide (k ∈ z.cps.toList))) H
def rNinS : R2 := fun x y H Q => ∃ (k : Nat) (z : Str), x = .str ⟨#[k]⟩ ∧ y = .str z ∧ Q (.bl (!decide (k ∈ z.cps.toList))) H
def rInU (K : PySem.W.Frag) : R2 := fun x y H Q => rInS x y H Q ∨ rDin x y H Q ∨ rIn K false x y H Q ∨ rInD K x y H Q
def rNinU (K : PySem.W.Frag) : R2 := fun x y H Q => rNinS x y H Q ∨ rDnin x y H Q ∨ rIn K true x y H Q ∨ rNotInD K x y H Q
theorem op_inU (hu : X.A.units + 65 < cLine) : OpR X (compareOp .In) (rInU X.K) := OpR.or (r := rInS) op_in_sign ((op_din (by omega)).or (op_in_seq.or (op_inD hu)))
theorem op_ninU (hu : X.A.units + 65 < cLine) : OpR X (compareOp .NotIn) (rNinU X.K) := OpR.or (r := rNinS) op_notIn_sign ((op_dnin (by omega)).or (op_notIn_seq.or (op_notInD hu)))
theorem dget_of {F H : Hp} (ag : Ag c.lk F H) {y : V} {kv : List (KD × D)} {x : V} {dx : D} {k : KD} (ry : Rp c F y (.dic kv)) (rx : Rp c F x dx) (e : kd dx = some k) :
    ∃ a o, y = .ref a ∧ DGet H a x o ∧ ((lookD kv k = none ∧ o = none) ∨ ∃ d v, lookD kv k = some d ∧ o = some v ∧ Rp c F v d) := by
  cases ry with
  | dic h z k1 k2 k3 r =>
    subst k2 k3
    rename_i a kvs
    have ex := kd_rep rx e
    subst ex
    refine ⟨a, valV kvs (kK k), rfl, .inl ⟨kvs, kK k, ag.dic h, rfl, rfl⟩, ?_⟩
    exact RpK.look k ⟨k1, r⟩
theorem isIn_rep {K : PySem.W.Frag} {F H : Hp} (ag : Ag c.lk F H) {x y : V} {dx dy : D} {b : Bool} (rx : Rp c F x dx) (ry : Rp c F y dy) (e : isIn dx dy = some b) :
    (∃ (k : Nat) (z : Str), x = .str ⟨#[k]⟩ ∧ y = .str z ∧ decide (k ∈ z.cps.toList) = b) ∨ (∃ a o, y = .ref a ∧ DGet H a x o ∧ o.isSome = b) ∨
    (∃ p xs, y = .ref p ∧ (SqL K H p xs ∨ SqT K H p xs) ∧ flatV x = true ∧ xs.all flatV = true ∧ inV x xs = b) ∨
    (∃ d ds, Dp K H x d ∧ Dp K H y (.list ds) ∧ SeqAt.shaped d = true ∧ SeqAt.shaped (.list ds) = true ∧ (ds.any fun z => PyData.eqv z d) = b) := by
  unfold isIn at e
  split at e
  · split at e
    · cases rx; cases ry; cases e
      exact .inl ⟨_, _, rfl, rfl, by rw [tS_cps]⟩
    · cases e
  · rename_i kv
    cases ek : kd dx with
    | none => rw [ek] at e; cases e
    | some k =>
      rw [ek] at e
      cases e
      obtain ⟨a, o, h1, h2, h3⟩ := dget_of ag ry rx ek
      refine .inr (.inl ⟨a, o, h1, h2, ?_⟩)
      show o.isSome = (lookD kv k).isSome
      rcases h3 with ⟨h3, h4⟩ | ⟨d, v, h3, h4, _⟩ <;> rw [h3, h4] <;> rfl
  · rename_i ds
    split at e
    · rename_i hf
      cases e
      cases ry with
      | lst h z r => exact .inr (.inr (.inl ⟨_, _, rfl, .inl (SqL.of (ag.lst h)), flat_rep rx hf.1, flats_rep r hf.2, any_rep rx hf.1 r hf.2⟩))
    · split at e
      · rename_i p qs e1 e2
        split at e
        · rename_i hs
          cases e
          exact .inr (.inr (.inr ⟨p, qs, toP_rep ag rx e1, toP_rep ag ry e2, hs.1, hs.2, rfl⟩))
        · cases e
      · cases e
  · rename_i ds
    split at e
    · rename_i hf
      cases e
      cases ry with
      | tup h z r => exact .inr (.inr (.inl ⟨_, _, rfl, .inr (SqT.of (ag.tup h)), flat_rep rx hf.1, flats_rep r hf.2, any_rep rx hf.1 r hf.2⟩))
    · cases e
  · cases e
theorem rv_in {K : PySem.W.Frag} : Rv2 c (rInU K) fIn := by
  intro μ σ H F O sl x y dx dy d Q re rx ry e g
  unfold fIn at e
  cases h : isIn dx dy with
  | none => rw [h] at e; cases e
  | some b =>
    rw [h] at e
    cases e
    have q : Q (.bl b) H := stay re g (.bl _)
    rcases isIn_rep (K := K) re.ag rx ry h with ⟨k, z, h1, h2, h3⟩ | ⟨a, o, h1, h2, h3⟩ | ⟨p, xs, h1, h2, h3, h4, h5⟩ | ⟨p, qs, h1, h2, h3, h4, h5⟩
    · exact .inl ⟨k, z, h1, h2, by rw [h3]; exact q⟩
    · exact .inr (.inl ⟨a, o, h1, h2, by rw [h3]; exact q⟩)
    · exact .inr (.inr (.inl ⟨p, xs, h1, h2, h3, h4, by rw [if_neg Bool.false_ne_true, h5]; exact q⟩))
    · exact .inr (.inr (.inr ⟨p, qs, h1, h2, h3, h4, by rw [h5]; exact q⟩))
theorem rv_notin {K : PySem.W.Frag} : Rv2 c (rNinU K) fNotIn := by
  intro μ σ H F O sl x y dx dy d Q re rx ry e g
  unfold fNotIn at e
  cases h : isIn dx dy with
  | none => rw [h] at e; cases e
  | some b =>
    rw [h] at e
    cases e
    have q : Q (.bl (!b)) H := stay re g (.bl _)
    rcases isIn_rep (K := K) re.ag rx ry h with ⟨k, z, h1, h2, h3⟩ | ⟨a, o, h1, h2, h3⟩ | ⟨p, xs, h1, h2, h3, h4, h5⟩ | ⟨p, qs, h1, h2, h3, h4, h5⟩
    · exact .inl ⟨k, z, h1, h2, by rw [h3]; exact q⟩
    · exact .inr (.inl ⟨a, o, h1, h2, by rw [h3]; exact q⟩)
    · exact .inr (.inr (.inl ⟨p, xs, h1, h2, h3, h4, by rw [if_pos rfl, h5]; exact q⟩))
    · exact .inr (.inr (.inr ⟨p, qs, h1, h2, h3, h4, by rw [h5]; exact q⟩))

/-! ### subscripts -/
def rIxDic : R2 := fun x y H Q => ∃ a v, x = .ref a ∧ DGet H a y (some v) ∧ Q v H
theorem ix_dic (hu : X.A.units + 1 < cLine) : IxR X rIxDic := by
  intro value slice pins s σ H x y v u Q I rx ry h hs
  obtain ⟨a, z, rfl, g, q⟩ := h
  obtain rfl : v = Value.ref a := rx
  exact tail_any (dict_typeIs I g) PySem.F.slot_dict_getitem.lookup (d_getItem hu I g ry fun w' s3 I3 rw' => ⟨z, H, I3, rw', q⟩) hs
def rIxU (K : PySem.W.Frag) : R2 := fun x y H Q => rIx K x y H Q ∨ rIxDic x y H Q
theorem ix_U (hu : X.A.units + 1 < cLine) : IxR X (rIxU X.K) := ix_seq.or (ix_dic hu)
def fIx (x y : D) : Option D := match x, y with
  | .lst ds, .int i => atI ds i
  | .tup ds, .int i => atI ds i
  | .str l, .int i => (atI l i).map fun k => .str [k]
  | .scr ns, .int i => (atI ns i).map D.int
  | .dic kv, k => (kd k).bind (lookD kv)
  | _, _ => none
theorem atI_rep {F : Hp} {xs : List V} {ds : List D} {i : Int} {d : D} (r : Rps c F xs ds) (h : atI ds i = some d) : ∃ v, atI xs i = some v ∧ Rp c F v d := by
  unfold atI at h ⊢
  rw [r.length]
  cases e : ixN ds.length i with
  | none => rw [e] at h; cases h
  | some j =>
    rw [e] at h
    exact r.get h
theorem atI_map {α β : Type} (f : α → β) (xs : List α) (i : Int) : atI (xs.map f) i = (atI xs i).map f := by
  unfold atI
  rw [List.length_map]
  cases ixN xs.length i with
  | none => rfl
  | some j => simp
theorem rv_ix {K : PySem.W.Frag} (hK : K = c.K) : Rv2 c (rIxU K) fIx := by
  intro μ σ H F O sl x y dx dy d Q re rx ry e g
  unfold fIx at e
  split at e
  · cases ry
    cases rx with
    | lst h z r =>
      obtain ⟨v, h1, h2⟩ := atI_rep r e
      exact .inl (.inl ⟨_, _, _, v, rfl, rfl, SqL.of (re.ag.lst h), h1, stay re g h2⟩)
  · cases ry
    cases rx with
    | tup h z r =>
      obtain ⟨v, h1, h2⟩ := atI_rep r e
      exact .inl (.inr (.inl ⟨_, _, _, v, rfl, rfl, SqT.of (re.ag.tup h), h1, stay re g h2⟩))
  · rename_i l i
    cases ry
    cases rx with
    | str _ hl =>
      cases h : atI l i with
      | none => rw [h] at e; cases e
      | some k =>
        rw [h] at e
        cases e
        exact .inl (.inr (.inr ⟨_, i, k, rfl, rfl, by rw [tS_len]; exact Nat.le_of_lt (LB_line hl), by rw [tS_cps]; exact h, stay re g (.str [k] (show 1 ≤ 1000000 by decide))⟩))
  · rename_i ns i
    cases ry
    cases rx with
    | scr _ h =>
      cases h2 : atI ns i with
      | none => rw [h2] at e; cases e
      | some k =>
        rw [h2] at e
        cases e
        subst hK
        exact .inl (.inl ⟨_, _, i, .int k, rfl, rfl, re.ag.sqL h, by rw [atI_map, h2]; rfl, stay re g (.int k)⟩)
  · rename_i kv
    cases ek : kd dy with
    | none => rw [ek] at e; cases e
    | some k =>
      rw [ek] at e
      obtain ⟨a, o, h1, h2, h3⟩ := dget_of re.ag rx ry ek
      rcases h3 with ⟨h3, h4⟩ | ⟨d', v, h3, h4, h5⟩
      · have e2 : lookD kv k = some d := e
        rw [h3] at e2
        cases e2
      · have e2 : lookD kv k = some d := e
        rw [h3] at e2
        cases e2
        subst h4
        exact .inr ⟨a, v, h1, h2, stay re g h5⟩
  · cases e
theorem xe_ix {a b : Expr} {ta tb : TE} {ma mb : ME} {pos : Pos} {μ : Ms} {W : WX} (hu : X.A.units + 1 < cLine) (ha : XE X c μ W a ta ma) (hb : XE X c μ W b tb mb) (hs : PlainIx b := by exact fun _ _ => rfl) (hK : X.K = c.K := by rfl) :
    XE X c μ W (.Subscript a b pos) (tOp (rIxU X.K) ta tb) (mOp fIx ma mb) := ⟨pe_ix (ix_U hu) ha.pe hb.pe hs, ev_op (rv_ix hK) ha.ev hb.ev⟩
end
end MM

set_option Elab.async false
set_option linter.all false
set_option maxRecDepth 100000
set_option maxHeartbeats 2000000
/-! The value layer, part d: built-in calls, slices, what is walked, comprehensions. -/
namespace MM
open PySem PySem.Spec PyProof.Rows L2

section
variable {c : CI} {X : Cx} {μ : Ms} {W : WX}
/-! ### calls of built-ins -/
def RvA (c : CI) (r : List V → Hp → VK → Prop) (f : List D → Option D) : Prop := ∀ (μ : Ms) (σ : St) (H F : Hp) (O : Os) (sl : Sl) (xs : List V) (ds : List D) (d : D) (Q : VK), Re c μ F H σ sl O → Rps c F xs ds → f ds = some d →
  (∀ v F' H', Stp F H O F' H' O → Re c μ F' H' σ sl O → Rp c F' v d → Q v H') → r xs H Q
def mCall (f : List D → Option D) (n : MA) : ME := fun sl => (n sl).bind fun ds s => R.ofO (f ds) s
theorem ev_callB {r : List V → Hp → VK → Prop} {f : List D → Option D} {t : TA} {n : MA} (hr : RvA c r f) (h : EvA c μ W t n) : EvE c μ W (tCB r t) (mCall f n) := by
  refine Evm.bind (κ := fun vs σ H1 (Q : VK) => r vs H1 Q) h fun σ H F O sl xs ds Q re rs g => ?_
  cases e : f ds with
  | none => rw [e] at g; exact g.elim
  | some d =>
    rw [e] at g
    exact hr μ σ H F O sl xs ds d Q re rs e fun v F' H' s re' rv => g v F' H' O s re' rv
theorem xe_callB {id : String} {x : Str} {p pos : Pos} {e : Expr} {es : List Expr} {r : List V → Hp → VK → Prop} {f : List D → Option D} {t : TA} {n : MA} (hc : CallR X (.builtin id) r) (hr : RvA c r f) (hm : X.mg x = none) (ha : XA X c μ W (e :: es) t n)
    (hg : Gl X x := by rfl) (hv : bootBuiltins x = some (.builtin id) := by decide +kernel) (hn : x ≠ "__name__" := by decide) (hdb : (x == ("__debug__" : Str)) = false := by decide)
    (he : starEach (e :: es) X.env = (false, eval e X.env) :: starEach es X.env := by rfl) (hpl : (backTo pos (starEach es X.env)).any (·.1) = false := by rfl) : XE X c μ W (.Call (.Name x p) (e :: es) [] pos) (tCB r t) (mCall f n) :=
  ⟨pe_callB hc hg hm hv ha.pa hn hdb he hpl, ev_callB hr ha.ev⟩
theorem xe_callTy {T : String} {x : Str} {p pos : Pos} {e : Expr} {es : List Expr} {r : List V → Hp → VK → Prop} {f : List D → Option D} {t : TA} {n : MA} (hc : CallR X (.type T) r) (hr : RvA c r f) (hm : X.mg x = none) (ha : XA X c μ W (e :: es) t n)
    (hg : Gl X x := by rfl) (hv : bootBuiltins x = some (.type T) := by decide +kernel) (hn : x ≠ "__name__" := by decide) (hdb : (x == ("__debug__" : Str)) = false := by decide)
    (he : starEach (e :: es) X.env = (false, eval e X.env) :: starEach es X.env := by rfl) (hpl : (backTo pos (starEach es X.env)).any (·.1) = false := by rfl) : XE X c μ W (.Call (.Name x p) (e :: es) [] pos) (tCB r t) (mCall f n) :=
  ⟨pe_callTy hc hg hm hv ha.pa hn hdb he hpl, ev_callB hr ha.ev⟩
theorem RvA.stay {c : CI} {r : List V → Hp → VK → Prop} {f : List D → Option D}
    (h : ∀ (F H : Hp) (xs : List V) (ds : List D) (d : D) (Q : VK), Ag c.lk F H → Rps c F xs ds → f ds = some d → (∀ v, Rp c F v d → Q v H) → r xs H Q) : RvA c r f :=
  fun μ σ H F O sl xs ds d Q re rs e g => h F H xs ds d Q re.ag rs e fun v rv => g v F H (Stp.refl _ _ _) re rv
/-- len -/
def fLen : List D → Option D
  | [.str l] => some (.int (l.length : Nat))
  | [.lst ds] => some (.int (ds.length : Nat))
  | [.tup ds] => some (.int (ds.length : Nat))
  | [.scr ns] => some (.int (ns.length : Nat))
  | _ => none
def rLen (K : PySem.W.Frag) : List V → Hp → VK → Prop := fun xs H Q => ∃ x n, xs = [x] ∧ LenV K x H n ∧ Q (.int n) H
theorem rv_len {K : PySem.W.Frag} (hK : K = c.K) : RvA c (rLen K) fLen := RvA.stay fun F H xs ds d Q ag rs e g => by
  unfold fLen at e
  split at e
  · cases rs with
    | cons r t =>
      cases t
      cases r with
      | str _ hl =>
        cases e
        exact ⟨_, _, rfl, ⟨by rw [tS_len]; exact Nat.le_of_lt (LB_line hl), (tS_len _).symm⟩, g _ (.int _)⟩
  · cases rs with
    | cons r t =>
      cases t
      cases r with
      | lst h z r =>
        cases e
        exact ⟨_, _, rfl, .inl ⟨_, SqL.of (ag.lst h), r.length.symm⟩, g _ (.int _)⟩
  · cases rs with
    | cons r t =>
      cases t
      cases r with
      | tup h z r =>
        cases e
        exact ⟨_, _, rfl, .inr ⟨_, SqT.of (ag.tup h), r.length.symm⟩, g _ (.int _)⟩
  · cases rs with
    | cons r t =>
      cases t
      cases r with
      | scr _ h =>
        cases e
        subst hK
        exact ⟨_, _, rfl, .inl ⟨_, ag.sqL h, by simp⟩, g _ (.int _)⟩
  · cases e
theorem call_lenU : CallR X (.builtin "len") (rLen X.K) := call_len
/-- ints of a list -/
def asInts : List D → Option (List Int)
  | [] => some []
  | .int i :: r => (asInts r).map fun is => i :: is
  | _ :: _ => none
theorem asInts_eq : ∀ {ds : List D} {ns : List Int}, asInts ds = some ns → ds = ns.map D.int
  | [], ns, h => by cases h; rfl
  | d :: r, ns, h => by
    cases d with
    | int i =>
      unfold asInts at h
      cases e : asInts r with
      | none => rw [e] at h; cases h
      | some ms =>
        rw [e] at h
        cases h
        rw [asInts_eq e]
        rfl
    | _ => cases h
theorem asInts_map : ∀ ns : List Int, asInts (ns.map D.int) = some ns
  | [] => rfl
  | n :: ns => by
    show (asInts (ns.map D.int)).map _ = _
    rw [asInts_map ns]
    rfl
def maxL : Int → List Int → Int
  | m, [] => m
  | m, n :: r => maxL (if n > m then n else m) r
def minL : Int → List Int → Int
  | m, [] => m
  | m, n :: r => minL (if n < m then n else m) r
theorem maxL_mem : ∀ (m : Int) (ns : List Int), maxL m ns ∈ m :: ns
  | m, [] => by simp [maxL]
  | m, n :: r => by
    have ih := maxL_mem (if n > m then n else m) r
    unfold maxL
    rcases List.mem_cons.mp ih with e | e
    · rw [e]
      split <;> simp
    · exact List.mem_cons_of_mem _ (List.mem_cons_of_mem _ e)
theorem maxL_ge : ∀ (m : Int) (ns : List Int) (y : Int), y ∈ m :: ns → y ≤ maxL m ns
  | m, [], y, h => by
    simp at h
    subst h
    exact Int.le_refl _
  | m, n :: r, y, h => by
    unfold maxL
    by_cases hc : n > m
    · rw [if_pos hc]
      have h1 := maxL_ge n r n List.mem_cons_self
      rcases List.mem_cons.mp h with e | e
      · subst e
        omega
      · exact maxL_ge n r y e
    · rw [if_neg hc]
      have h1 := maxL_ge m r m List.mem_cons_self
      rcases List.mem_cons.mp h with e | e
      · subst e
        exact h1
      · rcases List.mem_cons.mp e with e | e
        · subst e
          omega
        · exact maxL_ge m r y (List.mem_cons_of_mem _ e)
theorem minL_mem : ∀ (m : Int) (ns : List Int), minL m ns ∈ m :: ns
  | m, [] => by simp [minL]
  | m, n :: r => by
    have ih := minL_mem (if n < m then n else m) r
    unfold minL
    rcases List.mem_cons.mp ih with e | e
    · rw [e]
      split <;> simp
    · exact List.mem_cons_of_mem _ (List.mem_cons_of_mem _ e)
theorem minL_le : ∀ (m : Int) (ns : List Int) (y : Int), y ∈ m :: ns → minL m ns ≤ y
  | m, [], y, h => by
    simp at h
    subst h
    exact Int.le_refl _
  | m, n :: r, y, h => by
    unfold minL
    by_cases hc : n < m
    · rw [if_pos hc]
      have h1 := minL_le n r n List.mem_cons_self
      rcases List.mem_cons.mp h with e | e
      · subst e
        omega
      · exact minL_le n r y e
    · rw [if_neg hc]
      have h1 := minL_le m r m List.mem_cons_self
      rcases List.mem_cons.mp h with e | e
      · subst e
        exact h1
      · rcases List.mem_cons.mp e with e | e
        · subst e
          omega
        · exact minL_le m r y (List.mem_cons_of_mem _ e)
def fMax : List D → Option D
  | [.lst ds] => match asInts ds with
    | some (n :: r) => some (.int (maxL n r))
    | _ => none
  | [.int i, .int j] => some (.int (if j > i then j else i))
  | _ => none
def fMin : List D → Option D
  | [.lst ds] => match asInts ds with
    | some (n :: r) => some (.int (minL n r))
    | _ => none
  | [.int i, .int j] => some (.int (if j < i then j else i))
  | _ => none
def fSum : List D → Option D
  | [.lst ds] => (asInts ds).map fun ns => .int ns.sum
  | _ => none
def fAbs : List D → Option D
  | [.int i] => some (.int (if i < 0 then -i else i))
  | _ => none
def rMaxU (K : PySem.W.Frag) : List V → Hp → VK → Prop := fun xs H Q => rMax K xs H Q ∨ ∃ i j, xs = [.int i, .int j] ∧ Q (.int (if j > i then j else i)) H
def rMinU (K : PySem.W.Frag) : List V → Hp → VK → Prop := fun xs H Q => rMin K xs H Q ∨ ∃ i j, xs = [.int i, .int j] ∧ Q (.int (if j < i then j else i)) H
theorem call_maxU (hc : X.calm = true) : CallR X (.builtin "max") (rMaxU X.K) := (cr_max hc).or (call_max2 hc)
theorem call_minU (hc : X.calm = true) : CallR X (.builtin "min") (rMinU X.K) := (cr_min hc).or (call_min2 hc)
theorem rv_max {K : PySem.W.Frag} : RvA c (rMaxU K) fMax := RvA.stay fun F H xs ds d Q ag rs e g => by
  unfold fMax at e
  split at e
  · split at e
    · rename_i n r en
      cases rs with
      | cons q t =>
        cases t
        cases q with
        | lst h z q =>
          cases e
          have ed := asInts_eq en
          subst ed
          have ev := q.ints
          subst ev
          refine .inl ⟨_, n :: r, rfl, SqL.of (ag.lst h), by simp, fun m hm hy => ?_⟩
          have e : m = maxL n r := Int.le_antisymm (maxL_ge n r m hm) (hy _ (maxL_mem n r))
          rw [e]
          exact g _ (.int _)
    · cases e
  · cases rs with
    | cons q t =>
      cases q
      cases t with
      | cons q t =>
        cases q
        cases t
        cases e
        exact .inr ⟨_, _, rfl, g _ (.int _)⟩
  · cases e
theorem rv_min {K : PySem.W.Frag} : RvA c (rMinU K) fMin := RvA.stay fun F H xs ds d Q ag rs e g => by
  unfold fMin at e
  split at e
  · split at e
    · rename_i n r en
      cases rs with
      | cons q t =>
        cases t
        cases q with
        | lst h z q =>
          cases e
          have ed := asInts_eq en
          subst ed
          have ev := q.ints
          subst ev
          refine .inl ⟨_, n :: r, rfl, SqL.of (ag.lst h), by simp, fun m hm hy => ?_⟩
          have e : m = minL n r := Int.le_antisymm (hy _ (minL_mem n r)) (minL_le n r m hm)
          rw [e]
          exact g _ (.int _)
    · cases e
  · cases rs with
    | cons q t =>
      cases q
      cases t with
      | cons q t =>
        cases q
        cases t
        cases e
        exact .inr ⟨_, _, rfl, g _ (.int _)⟩
  · cases e
theorem rv_sum {K : PySem.W.Frag} : RvA c (rSum K) fSum := RvA.stay fun F H xs ds d Q ag rs e g => by
  unfold fSum at e
  split at e
  · rename_i ds
    cases en : asInts ds with
    | none => rw [en] at e; cases e
    | some ns =>
      rw [en] at e
      cases rs with
      | cons q t =>
        cases t
        cases q with
        | lst h z q =>
          cases e
          have ed := asInts_eq en
          subst ed
          have ev := q.ints
          subst ev
          exact ⟨_, ns, rfl, SqL.of (ag.lst h), g _ (.int _)⟩
  · cases e
theorem rv_abs : RvA c (fun xs H Q => ∃ i, xs = [.int i] ∧ Q (.int (if i < 0 then -i else i)) H) fAbs := RvA.stay fun F H xs ds d Q ag rs e g => by
  unfold fAbs at e
  split at e
  · cases rs with
    | cons q t =>
      cases q; cases t; cases e
      exact ⟨_, rfl, g _ (.int _)⟩
  · cases e
def fInt : List D → Option D
  | [.int i] => some (.int i)
  | [.bl k] => some (.int (if k then 1 else 0))
  | _ => none
theorem rv_intc : RvA c (fun xs H Q => (∃ i, xs = [.int i] ∧ Q (.int i) H) ∨ ∃ k, xs = [.bl k] ∧ Q (.int (if k then 1 else 0)) H) fInt := RvA.stay fun F H xs ds d Q ag rs e g => by
  unfold fInt at e
  split at e
  · cases rs with
    | cons q t =>
      cases q; cases t; cases e
      exact .inl ⟨_, rfl, g _ (.int _)⟩
  · cases rs with
    | cons q t =>
      cases q; cases t; cases e
      exact .inr ⟨_, rfl, g _ (.int _)⟩
  · cases e
/-- list(..), tuple(..) -/
def fList : List D → Option D
  | [.lst ds] => some (.lst ds)
  | [.tup ds] => some (.lst ds)
  | _ => none
def fTuple : List D → Option D
  | [.lst ds] => some (.tup ds)
  | [.tup ds] => some (.tup ds)
  | _ => none
def rListC (K : PySem.W.Frag) : List V → Hp → VK → Prop := fun xs H Q => ∃ p ys, xs = [.ref p] ∧ (SqL K H p ys ∨ SqT K H p ys) ∧ ∀ l, H l = none → Q (.ref l) (upd H l (.lst ys))
def rTupC (K : PySem.W.Frag) : List V → Hp → VK → Prop := fun xs H Q => ∃ p ys, xs = [.ref p] ∧ ((SqL K H p ys ∧ ∀ l, H l = none → Q (.ref l) (upd H l (.tup ys))) ∨ (SqT K H p ys ∧ Q (.ref p) H))
theorem call_listU : CallR X (.type "list") (rListC X.K) := call_list_of
theorem call_tupU : CallR X (.type "tuple") (rTupC X.K) := call_tuple_of
theorem rv_list {K : PySem.W.Frag} : RvA c (rListC K) fList := fun μ σ H F O sl xs ds d Q re rs e g => by
  unfold fList at e
  split at e
  · cases rs with
    | cons q t =>
      cases t
      cases q with
      | lst h z q =>
        cases e
        exact ⟨_, _, rfl, .inl (SqL.of (re.ag.lst h)), fresh re g fun p F' _ le hp => .lst hp z (q.mono le)⟩
  · cases rs with
    | cons q t =>
      cases t
      cases q with
      | tup h z q =>
        cases e
        exact ⟨_, _, rfl, .inr (SqT.of (re.ag.tup h)), fresh re g fun p F' _ le hp => .lst hp z (q.mono le)⟩
  · cases e
theorem rv_tuple {K : PySem.W.Frag} : RvA c (rTupC K) fTuple := fun μ σ H F O sl xs ds d Q re rs e g => by
  unfold fTuple at e
  split at e
  · cases rs with
    | cons q t =>
      cases t
      cases q with
      | lst h z q =>
        cases e
        exact ⟨_, _, rfl, .inl ⟨SqL.of (re.ag.lst h), fresh re g fun p F' _ le hp => .tup hp z (q.mono le)⟩⟩
  · cases rs with
    | cons q t =>
      cases t
      cases q with
      | tup h z q =>
        cases e
        exact ⟨_, _, rfl, .inr ⟨SqT.of (re.ag.tup h), stay re g (.tup h z q)⟩⟩
  · cases e

/-! ### methods of frozen things: r on the receiver and the arguments -/
def RvM (c : CI) (K : PySem.W.Frag) (T : String) (r : V → List V → Hp → VK → Prop) (f : D → List D → Option D) (ok : D → Bool) : Prop :=
  (∀ (F H : Hp) (x : V) (d : D), Ag c.lk F H → Rp c F x d → ok d = true → tyV K T x H) ∧
  ∀ (μ : Ms) (σ : St) (H F : Hp) (O : Os) (sl : Sl) (x : V) (dx : D) (xs : List V) (ds : List D) (d : D) (Q : VK), Re c μ F H σ sl O → Rp c F x dx → Rps c F xs ds → f dx ds = some d →
    (∀ v F' H', Stp F H O F' H' O → Re c μ F' H' σ sl O → Rp c F' v d → Q v H') → r x xs H Q
def mMeth (ok : D → Bool) (f : D → List D → Option D) (m : ME) (n : MA) : ME := fun sl => (m sl).bind fun x s => if ok x = true then (n s).bind fun ds s2 => R.ofO (f x ds) s2 else .err
theorem ev_meth {K : PySem.W.Frag} {T : String} {r : V → List V → Hp → VK → Prop} {f : D → List D → Option D} {ok : D → Bool} {to : TE} {m : ME} {t : TA} {n : MA} (hr : RvM c K T r f ok) (ho : EvE c μ W to m) (h : EvA c μ W t n) : EvE c μ W (tBM K T r to t) (mMeth ok f m n) := by
  refine Evm.bind (κ := fun x σ H1 (Q : VK) => tyV K T x H1 ∧ t σ H1 fun xs H2 => r x xs H2 Q) ho fun σ H F O sl x dx Q re rx g => ?_
  by_cases hok : ok dx = true
  · rw [if_pos hok] at g
    refine ⟨hr.1 F H x dx re.ag rx hok, h σ H F O sl _ re ?_⟩
    revert g
    cases e : n sl with
    | exc k fs sl' => exact fun g => g
    | err => exact fun g => g
    | ok ds s2 =>
      intro g xs F' H' O' s re' rs
      have g2 : GX (rD c) c μ W F H O σ Q (R.ofO (f dx ds) s2) := g
      cases ef : f dx ds with
      | none => rw [ef] at g2; exact g2.elim
      | some d =>
        rw [ef] at g2
        exact hr.2 μ σ H' F' O' s2 x dx xs ds d Q re' (rx.mono s.ff) rs ef fun v F'' H'' s' re'' rv => g2 v F'' H'' O' (s.trans s') re'' rv
  · rw [if_neg hok] at g
    exact g.elim
def isLst : D → Bool
  | .lst _ => true
  | _ => false
def isStr : D → Bool
  | .str _ => true
  | _ => false
theorem ty_lst {K : PySem.W.Frag} (F H : Hp) (x : V) (d : D) (ag : Ag c.lk F H) (r : Rp c F x d) (h : isLst d = true) : tyV K "list" x H := by
  cases r with
  | lst h1 z r => exact .inl ⟨rfl, _, SqL.of (ag.lst h1)⟩
  | _ => cases h
theorem ty_str {K : PySem.W.Frag} (F H : Hp) (x : V) (d : D) (ag : Ag c.lk F H) (r : Rp c F x d) (h : isStr d = true) : tyV K "str" x H := by
  cases r with
  | str l z => rfl
  | _ => cases h
/-- list.index -/
def findD (x : D) : List D → Nat → Option Nat
  | [], _ => none
  | d :: r, i => if feq d x = true then some i else findD x r (i + 1)
def fIndex (x : D) (xs : List D) : Option D := match x, xs with
  | .lst ds, [y] => if flatD y = true ∧ ds.all flatD = true then (findD y ds 0).map fun i => .int (i : Nat) else none
  | _, _ => none
theorem findD_spec (x : D) : ∀ (ds : List D) (i j : Nat), findD x ds i = some j → i ≤ j ∧ (∃ z, ds[j - i]? = some z ∧ feq z x = true) ∧ ∀ (m : Nat) (z : D), m < j - i → ds[m]? = some z → feq z x = false
  | [], i, j, h => by cases h
  | d :: r, i, j, h => by
    unfold findD at h
    by_cases e : feq d x = true
    · rw [if_pos e] at h
      cases h
      refine ⟨Nat.le_refl _, ⟨d, by simp, e⟩, fun m z hm => by omega⟩
    · rw [if_neg e] at h
      obtain ⟨h1, ⟨z, h2, h3⟩, h4⟩ := findD_spec x r (i + 1) j h
      refine ⟨by omega, ⟨z, ?_, h3⟩, fun m z' hm hz => ?_⟩
      · have q : j - i = (j - (i + 1)) + 1 := by omega
        rw [q]
        simpa using h2
      · cases m with
        | zero =>
          have q : d = z' := by simpa using hz
          subst q
          simpa using e
        | succ m => exact h4 m z' (by omega) (by simpa using hz)
theorem rv_index {K : PySem.W.Frag} : RvM c K "list" (rIndex K) fIndex isLst := by
  refine ⟨ty_lst, fun μ σ H F O sl x dx xs ds d Q re rx rs e g => ?_⟩
  unfold fIndex at e
  split at e
  · rename_i ds y
    split at e
    · rename_i hf
      cases en : findD y ds 0 with
      | none => rw [en] at e; cases e
      | some j =>
        rw [en] at e
        cases e
        cases rs with
        | cons q t =>
          cases t
          cases rx with
          | lst h z r =>
            obtain ⟨_, ⟨z, h2, h3⟩, h4⟩ := findD_spec y ds 0 j en
            obtain ⟨v, h5, h6⟩ := r.get h2
            have fz : flatD z = true := List.all_eq_true.mp hf.2 z (List.mem_of_getElem? h2)
            refine ⟨_, _, _, j, v, rfl, rfl, SqL.of (re.ag.lst h), flat_rep q hf.1, flats_rep r hf.2, h5, by rw [feq_rep h6 q fz hf.1]; exact h3, fun m z' hm hz => ?_, stay re g (.int _)⟩
            obtain ⟨d', h7, h8⟩ := r.getv hz
            have fd : flatD d' = true := List.all_eq_true.mp hf.2 d' (List.mem_of_getElem? h7)
            rw [feq_rep h8 q fd hf.1]
            exact h4 m d' (by simpa using hm) h7
    · cases e
  · cases e
theorem xe_bm {T id : String} {name : Str} {r : V → List V → Hp → VK → Prop} {f : D → List D → Option D} {ok : D → Bool} {o e : Expr} {es : List Expr} {apos cpos : Pos} {to : TE} {m : ME} {t : TA} {n : MA} (pa : PlainAttrs T) (slot : Slot T name id)
    (hty : typeOf (.builtin id) = pure (.type "method_descriptor")) (hm : MtR X id r) (hr : RvM c X.K T r f ok) (ho : XE X c μ W o to m) (ha : XA X c μ W (e :: es) t n)
    (hbase : attributeBase o name X.env (eval o X.env) = eval o X.env := by rfl)
    (hfew : ((backTo cpos (starEach (e :: es) X.env)).all (fun x => !x.1) && (backToKw cpos (keywordEach [] X.env)).all (fun x => x.1.isSome)
      && decide ((e :: es).length + ([] : List Keyword).length + (if ([] : List Keyword).isEmpty then 0 else 1) < 30)) = true := by rfl)
    (hline : (apos.endLine == cpos.line) = true := by rfl) (hs : starEach (e :: es) X.env = (false, eval e X.env) :: starEach es X.env := by rfl) (hplain : (backTo cpos (starEach es X.env)).any (·.1) = false := by rfl) :
    XE X c μ W (.Call (.Attribute o name apos) (e :: es) [] cpos) (tBM X.K T r to t) (mMeth ok f m n) :=
  ⟨pe_bm pa slot hty hm ho.pe ha.pa hbase hfew hline hs hplain, ev_meth hr ho.ev ha.ev⟩
end
end MM

set_option Elab.async false
set_option linter.all false
set_option maxRecDepth 100000
set_option maxHeartbeats 2000000
/-! The value layer, part e: slices, new owned things, targets, statements. -/
namespace MM
open PySem PySem.Spec PyProof.Rows L2

section
variable {c : CI} {X : Cx} {μ : Ms} {W : WX}
/-! ### slices -/
structure XO (X : Cx) (c : CI) (μ : Ms) (W : WX) (e : Option Expr) (t : TO) (m : Sl → R (Option Int)) : Prop where
  po : PO X e t
  ev : Evm (fun _ (a b : Option Int) => a = b) c μ W t m
def mNoPart : Sl → R (Option Int) := fun sl => .ok none sl
def mPart (m : ME) : Sl → R (Option Int) := fun sl => (m sl).bind fun d s => match d with
  | .int i => .ok (some i) s
  | _ => .err
theorem xo_none : XO X c μ W none tNoPart mNoPart := ⟨po_none, fun σ H F O sl Q re g => g none F H O (Stp.refl _ _ _) re rfl⟩
theorem xo_some {e : Expr} {t : TE} {m : ME} (h : XE X c μ W e t m) : XO X c μ W (some e) (tPart t) (mPart m) := ⟨po_some h.pe, by
  refine Evm.bind (κ := fun x σ H1 (Q : Option Int → Hp → Prop) => ∃ i, x = .int i ∧ Q (some i) H1) h.ev fun σ H F O sl x d Q re rx g => ?_
  cases rx with
  | int i => exact ⟨i, rfl, g (some i) F H O (Stp.refl _ _ _) re rfl⟩
  | _ => exact g.elim⟩
theorem SlR.or {r r' : V → Option Int → Option Int → Hp → VK → Prop} (h : SlR X r) (h' : SlR X r') : SlR X (fun x lo hi H Q => r x lo hi H Q ∨ r' x lo hi H Q) := by
  intro pins s σ H x v vl vu lo hi sl Q I rx hs pl pu q
  rcases q with q | q
  · exact h pins s σ H x v vl vu lo hi sl Q I rx hs pl pu q
  · exact h' pins s σ H x v vl vu lo hi sl Q I rx hs pl pu q
def rSlU (K : PySem.W.Frag) : V → Option Int → Option Int → Hp → VK → Prop := fun x lo hi H Q => rSlL K x lo hi H Q ∨ rSlA K x lo hi H Q ∨ rSlS x lo hi H Q
theorem sl_U : SlR X (rSlU X.K) := sl_list.or (sl_tupA.or sl_str)
def cutD {α : Type} (xs : List α) (lo hi : Option Int) : List α := (xs.drop (HT.sIx xs.length 0 lo)).take (HT.sIx xs.length xs.length hi - HT.sIx xs.length 0 lo)
def fSl (x : D) (lo hi : Option Int) : Option D := match x with
  | .lst ds => some (.lst (cutD ds lo hi))
  | .tup ds => some (.tup (cutD ds lo hi))
  | .str l => some (.str (cutD l lo hi))
  | _ => none
theorem cutD_len {α : Type} (xs : List α) (lo hi : Option Int) : (cutD xs lo hi).length ≤ xs.length := by
  unfold cutD
  rw [List.length_take, List.length_drop]
  omega
theorem cutD_rep {F : Hp} {xs : List V} {ds : List D} (r : Rps c F xs ds) (lo hi : Option Int) : Rps c F (cutV xs lo hi) (cutD ds lo hi) := by
  unfold cutV cutD
  rw [r.length]
  exact (r.drop _).take _
def mSl (m : ME) (lo hi : Sl → R (Option Int)) : ME := fun sl => (m sl).bind fun x s => (lo s).bind fun l s2 => (hi s2).bind fun u s3 => R.ofO (fSl x l u) s3
theorem ev_sl {te : TE} {m : ME} {tl th : TO} {lo hi : Sl → R (Option Int)} (h : EvE c μ W te m) (hl : Evm (fun _ (a b : Option Int) => a = b) c μ W tl lo) (hh : Evm (fun _ (a b : Option Int) => a = b) c μ W th hi) : EvE c μ W (tSl (rSlU X.K) te tl th) (mSl m lo hi) := by
  refine Evm.bind (κ := fun x σ H1 (Q : VK) => tl σ H1 fun l H2 => th σ H2 fun u H3 => rSlU X.K x l u H3 Q) h fun σ H F O sl x dx Q re rx g => ?_
  refine hl σ H F O sl _ re ?_
  revert g
  cases e : lo sl with
  | exc k fs sl' => exact fun g => g
  | err => exact fun g => g
  | ok l s2 =>
    intro g l' F1 H1 O1 st1 re1 el
    have el' : l' = l := el
    subst el'
    have g : GX (rD c) c μ W F H O σ Q ((hi s2).bind fun u s3 => R.ofO (fSl dx l' u) s3) := g
    refine hh σ H1 F1 O1 s2 _ re1 ?_
    revert g
    cases e2 : hi s2 with
    | exc k fs sl' => exact fun g => GX.from st1 g
    | err => exact fun g => g
    | ok u s3 =>
      intro g u' F2 H2 O2 st2 re2 eu
      have eu' : u' = u := eu
      subst eu'
      have g : GX (rD c) c μ W F2 H2 O2 σ Q (R.ofO (fSl dx l' u') s3) := GX.from (st1.trans st2) g
      have rx2 := rx.mono (st1.trans st2).ff
      unfold fSl at g
      split at g
      · cases rx2 with
        | lst h z r =>
          exact .inl ⟨_, _, rfl, SqL.of (re2.ag.lst h), fresh (d := .lst (cutD _ l' u')) re2 (fun v F' H' s re' rv => g v F' H' O2 s re' rv) fun p F' _ le hp => .lst hp (Nat.le_trans (cutD_len _ _ _) z) ((cutD_rep r _ _).mono le)⟩
      · cases rx2 with
        | tup h z r =>
          refine .inr (.inl ⟨_, _, rfl, SqT.of (re2.ag.tup h), fun w => ?_, fun _ => ?_⟩)
          · refine g _ F2 H2 O2 (Stp.refl _ _ _) re2 ?_
            have e : cutD _ l' u' = _ := (by
              unfold cutD
              rw [← r.length, w.1, w.2, List.drop_zero, Nat.sub_zero, r.length, List.take_length] : cutD _ l' u' = _)
            rw [e]
            exact .tup h z r
          · exact fresh (d := .tup (cutD _ l' u')) re2 (fun v F' H' s re' rv => g v F' H' O2 s re' rv) fun p F' _ le hp => .tup hp (Nat.le_trans (cutD_len _ _ _) z) ((cutD_rep r _ _).mono le)
      · rename_i l _ _
        cases rx2 with
        | str _ hl =>
          refine .inr (.inr ⟨_, rfl, by rw [tS_len]; exact Nat.le_of_lt (LB_line hl), ?_⟩)
          have e : cutS (tS l) l' u' = tS (cutD l l' u') := by
            unfold cutS cutD
            rw [tS_len, tS_cps]
            rfl
          rw [e]
          exact g _ F2 H2 O2 (Stp.refl _ _ _) re2 (.str _ (Nat.le_trans (cutD_len _ _ _) hl))
      · exact g.elim
theorem xe_sl {e : Expr} {lo hi : Option Expr} {te : TE} {m : ME} {tl th : TO} {ml mh : Sl → R (Option Int)} {p2 pos : Pos} (h : XE X c μ W e te m) (hl : XO X c μ W lo tl ml) (hh : XO X c μ W hi th mh) :
    XE X c μ W (.Subscript e (.Slice lo hi none p2) pos) (tSl (rSlU X.K) te tl th) (mSl m ml mh) := ⟨pe_slice sl_U h.pe hl.po hh.po, ev_sl h.ev hl.ev hh.ev⟩

/-! ### new owned things -/
def GO (c : CI) (μ : Ms) (W : WX) (F H : Hp) (O : Os) (σ : St) (Q : VK) : R D → Prop
  | .ok d sl' => ∀ v F' H' O' Or, Stp F H O F' H' O' → Re c μ F' H' σ sl' O' → Ow c c.md F' H' v d Or → (∀ a, a ∈ Or → F' a = none ∧ (∀ i, a ∉ O' i) ∧ H a = none) → Q v H'
  | .exc k fs sl' => ∀ dd F' H' O', Stp F H O F' H' O' → Re c μ F' H' σ sl' O' → XR c F' H' k fs dd → W (.ref (c.C k)) dd σ H'
  | .err => False
def EvO (c : CI) (μ : Ms) (W : WX) (t : TE) (m : ME) : Prop := ∀ σ H F O sl Q, Re c μ F H σ sl O → GO c μ W F H O σ Q (m sl) → t σ H Q
structure XN (X : Cx) (c : CI) (μ : Ms) (W : WX) (e : Expr) (t : TE) (m : ME) : Prop where
  pe : PE X e t
  ev : EvO c μ W t m
theorem Ag.put {lk : Option Addr} {F H : Hp} {a : Addr} {o : HO} (g : Ag lk F H) (h : H a = some o) : Ag lk (upd F a o) H := fun b u e => by
  by_cases q : b = a
  · subst q
    rw [upd_same] at e
    cases e
    exact .inl h
  · rw [upd_ne q] at e
    exact g b u e
/-- what is nobody's may be frozen -/
theorem Re.put {F H : Hp} {σ : St} {sl : Sl} {O : Os} {a : Addr} {o : HO} (re : Re c μ F H σ sl O) (h : H a = some o) (hf : F a = none) (n : ∀ i, a ∉ O i) : Re c μ (upd F a o) H σ sl O :=
  re.mono (Le.new o hf) (re.ag.put h) (fun _ _ _ _ q => q) fun i b hb => by
    rw [upd_ne (show b ≠ a from fun z => n i (by rw [← z]; exact hb))]
    exact re.fre i b hb
theorem Stp.put {F H F' H' : Hp} {O O' : Os} {a : Addr} {o : HO} (s : Stp F H O F' H' O') (hf : F' a = none) (n : H a = none ∨ ∃ j, a ∈ O j) : Stp F H O (upd F' a o) H' O' :=
  ⟨s.ff.trans (Le.new o hf), s.kp, fun b u e => by
    by_cases q : b = a
    · rw [q]
      exact .inr n
    · rw [upd_ne q] at e
      exact s.fo b u e, s.ow, s.al, s.pk⟩
def isLD : D → Bool
  | .lst _ => true
  | .dic _ => true
  | _ => false
/-- a new list or dict, frozen -/
def mFz (m : ME) : ME := fun sl => (m sl).bind fun d s => if isLD d = true then .ok d s else .err
theorem Ow1.freeze {F H : Hp} {v : V} {d : D} {a : Addr} (h : Ow1 c F H v d a) : ∃ o, H a = some o ∧ ∀ F', Le F F' → F' a = some o → Rp c F' v d := by
  cases h with
  | lst h z r => exact ⟨_, h, fun F' le e => .lst e z (r.mono le)⟩
  | dic h z k r => exact ⟨_, h, fun F' le e => .dic e z k rfl rfl (r.mono le)⟩
theorem ev_fz {t : TE} {m : ME} (h : EvO c μ W t m) : EvE c μ W t (mFz m) := by
  intro σ H F O sl Q re g
  refine h σ H F O sl Q re ?_
  have g : GX (rD c) c μ W F H O σ Q ((m sl).bind fun d s => if isLD d = true then .ok d s else .err) := g
  revert g
  cases e : m sl with
  | exc k fs sl' => exact fun g => g
  | err => exact fun g => g
  | ok d s2 =>
    intro g v F' H' O' Or st re' ow q
    have g : GX (rD c) c μ W F H O σ Q (if isLD d = true then .ok d s2 else .err) := g
    by_cases hd : isLD d = true
    · rw [if_pos hd] at g
      cases ow with
      | one h1 =>
        obtain ⟨o, e1, r⟩ := h1.freeze
        obtain ⟨q1, q2, q3⟩ := q _ (List.mem_singleton.mpr rfl)
        exact g v _ H' O' (st.put q1 (.inl q3)) (re'.put e1 q1 q2) (r _ (Le.new o q1) upd_same)
      | ins _ _ _ _ _ => cases hd
    · rw [if_neg hd] at g
      exact g.elim
theorem xe_fz {e : Expr} {t : TE} {m : ME} (h : XN X c μ W e t m) : XE X c μ W e t (mFz m) := ⟨h.pe, ev_fz h.ev⟩
/-- a new instance of a class whose fields are frozen -/
def isIns (k : Nat) : D → Bool
  | .ins j _ => j == k
  | _ => false
def mFzI (k : Nat) (m : ME) : ME := fun sl => (m sl).bind fun d s => if isIns k d = true then .ok d s else .err
theorem OwF.allF {F H : Hp} : ∀ {m : List Bool} {vs : List V} {ds : List D} {O : List Addr}, OwF c F H m vs ds O → (∀ b, b ∈ m → b = false) → Rps c F vs ds ∧ O = []
  | _, _, _, _, .nil m, _ => ⟨.nil, rfl⟩
  | _, _, _, _, .frz r t, h => by
    obtain ⟨h1, h2⟩ := t.allF fun b hb => h b (List.mem_cons_of_mem _ hb)
    exact ⟨.cons r h1, h2⟩
  | _, _, _, _, .own r t, h => by
    have := h true List.mem_cons_self
    cases this
theorem ev_fzI {t : TE} {m : ME} {k : Nat} (hk : ∀ b, b ∈ c.md k → b = false) (h : EvO c μ W t m) : EvE c μ W t (mFzI k m) := by
  intro σ H F O sl Q re g
  refine h σ H F O sl Q re ?_
  have g : GX (rD c) c μ W F H O σ Q ((m sl).bind fun d s => if isIns k d = true then .ok d s else .err) := g
  revert g
  cases e : m sl with
  | exc k fs sl' => exact fun g => g
  | err => exact fun g => g
  | ok d s2 =>
    intro g v F' H' O' Or st re' ow q
    have g2 : GX (rD c) c μ W F H O σ Q (if isIns k d = true then .ok d s2 else .err) := g
    clear g
    by_cases hd : isIns k d = true
    · rw [if_pos hd] at g2
      cases ow with
      | one h1 => cases h1 <;> cases hd
      | @ins a dx j fs ds O1 h1 h2 h3 r nd =>
        have ej : j = k := by simpa [isIns] using hd
        subst ej
        obtain ⟨rs, eO⟩ := r.allF hk
        subst eO
        obtain ⟨q1, q2, q3⟩ := q a (by simp)
        exact g2 _ _ H' O' (st.put q1 (.inl q3)) (re'.put h1 q1 q2) (.ins upd_same h3 rfl (rs.mono (Le.new _ q1)))
    · rw [if_neg hd] at g2
      exact g2.elim
theorem xe_fzI {e : Expr} {t : TE} {m : ME} (k : Nat) (h : XN X c μ W e t m) (hk : ∀ b, b ∈ c.md k → b = false := by decide) : XE X c μ W e t (mFzI k m) := ⟨h.pe, ev_fzI hk h.ev⟩
/-- a frozen value's outcome as an owned one: displays -/
theorem GO.new {F H : Hp} {O : Os} {σ : St} {sl : Sl} {Q : VK} {d : D} (re : Re c μ F H σ sl O) (g : GO c μ W F H O σ Q (.ok d sl)) {o : HO} (r : ∀ p, H p = none → Ow1 c F (upd H p o) (.ref p) d p) : ∀ p, H p = none → Q (.ref p) (upd H p o) := fun p hp =>
  g (.ref p) F _ O [p] (Stp.addH o hp) (re.addH o hp) (.one (r p hp)) fun a ha => by
    have e : a = p := by simpa using ha
    subst e
    exact ⟨re.ag.non hp, re.new hp, hp⟩
theorem GX.toGO {F H F1 H1 : Hp} {O O1 : Os} {σ : St} {Q : VK} {r : R D} (s : Stp F H O F1 H1 O1) (g : GO c μ W F H O σ Q r) : GO c μ W F1 H1 O1 σ Q r := by
  cases r with
  | ok d sl' =>
    intro v F' H' O' Or s' re' ow q
    refine g v F' H' O' Or (s.trans s') re' ow fun a ha => ?_
    obtain ⟨q1, q2, q3⟩ := q a ha
    exact ⟨q1, q2, s.al a q3⟩
  | exc k fs sl' => exact fun dd F' H' O' s' re' x => g dd F' H' O' (s.trans s') re' x
  | err => exact g
theorem Evm.bindO {α β : Type} {rel : Hp → β → α → Prop} {t : St → Hp → (β → Hp → Prop) → Prop} {m : Sl → R α} {κ : β → St → Hp → VK → Prop} {f : α → Sl → R D} (h : Evm rel c μ W t m)
    (hk : ∀ σ H F O sl v d Q, Re c μ F H σ sl O → rel F v d → GO c μ W F H O σ Q (f d sl) → κ v σ H Q) : EvO c μ W (fun σ H Q => t σ H fun v H1 => κ v σ H1 Q) (fun sl => (m sl).bind f) := by
  intro σ H F O sl Q re g
  have g : GO c μ W F H O σ Q ((m sl).bind f) := g
  refine h σ H F O sl _ re ?_
  revert g
  cases e : m sl with
  | ok d sl' => exact fun g v F' H' O' s re' r => hk σ H' F' O' sl' v d Q re' r (GX.toGO s g)
  | exc k fs sl' => exact fun g => g
  | err => exact fun g => g
theorem evo_lst {t : TA} {n : MA} (h : EvA c μ W t n) : EvO c μ W (tLst t) (mLst n) := by
  refine Evm.bindO (κ := fun xs σ H1 (Q : VK) => xs.length ≤ sizeLine ∧ ∀ p, H1 p = none → Q (.ref p) (upd H1 p (.lst xs))) h fun σ H F O sl xs ds Q re rs g => ?_
  by_cases hl : ds.length ≤ LB
  · rw [if_pos hl] at g
    exact ⟨by rw [rs.length]; exact Nat.le_of_lt (LB_line hl), GO.new re g fun p hp => .lst upd_same hl rs⟩
  · rw [if_neg hl] at g
    exact g.elim
theorem xn_lst {es : List Expr} {t : TA} {n : MA} {pos : Pos} (h : XA X c μ W es t n) : XN X c μ W (.List es pos) (tLst t) (mLst n) := ⟨pe_lst h.pa, evo_lst h.ev⟩
def mDnew : ME := fun sl => .ok (.dic []) sl
theorem xn_dnew {pos : Pos} : XN X c μ W (.Dict [] [] pos) tDNewK mDnew := ⟨pe_dnewK, fun σ H F O sl Q re g => by
  exact GO.new re g fun p hp => .dic upd_same (Nat.zero_le _) rfl .nil⟩
/-- list(..): a new owned list -/
theorem evo_listc {K : PySem.W.Frag} {t : TA} {n : MA} (h : EvA c μ W t n) : EvO c μ W (tCB (rListC K) t) (mCall fList n) := by
  refine Evm.bindO (κ := fun vs σ H1 (Q : VK) => rListC K vs H1 Q) h fun σ H F O sl xs ds Q re rs g => ?_
  unfold fList at g
  split at g
  · cases rs with
    | cons q t =>
      cases t
      cases q with
      | lst h z q => exact ⟨_, _, rfl, .inl (SqL.of (re.ag.lst h)), GO.new re g fun p hp => .lst upd_same z q⟩
  · cases rs with
    | cons q t =>
      cases t
      cases q with
      | tup h z q => exact ⟨_, _, rfl, .inr (SqT.of (re.ag.tup h)), GO.new re g fun p hp => .lst upd_same z q⟩
  · exact g.elim
theorem xn_listc {p pos : Pos} {e : Expr} {es : List Expr} {t : TA} {n : MA} (hm : X.mg "list" = none) (ha : XA X c μ W (e :: es) t n)
    (hg : Gl X "list" := by rfl) (he : starEach (e :: es) X.env = (false, eval e X.env) :: starEach es X.env := by rfl) (hpl : (backTo pos (starEach es X.env)).any (·.1) = false := by rfl) : XN X c μ W (.Call (.Name "list" p) (e :: es) [] pos) (tCB (rListC X.K) t) (mCall fList n) :=
  ⟨pe_callTy call_listU hg hm (by decide +kernel) ha.pa (by decide) (by decide) he hpl, evo_listc ha.ev⟩
end

/-! ### targets -/
def Pin (μ : Ms) (σ σ' : St) : Prop := ∀ i, mdOf μ i ≠ .frz → mdOf μ i ≠ .own → σ'[i]? = σ[i]?
theorem Pin.refl (μ : Ms) (σ : St) : Pin μ σ σ := fun _ _ _ => rfl
theorem Pin.trans {μ : Ms} {σ σ1 σ2 : St} (a : Pin μ σ σ1) (b : Pin μ σ1 σ2) : Pin μ σ σ2 := fun i h1 h2 => (b i h1 h2).trans (a i h1 h2)
/-- changed at most at S -/
def Out (S : List Nat) (σ σ' : St) : Prop := σ'.length = σ.length ∧ ∀ j, j ∉ S → σ'[j]? = σ[j]?
abbrev MG := D → Sl → Option Sl
def EvG (c : CI) (μ : Ms) (S : List Nat) (g : TG) (m : MG) : Prop := ∀ (σ : St) (H F : Hp) (O : Os) (sl sl' : Sl) (x : V) (d : D) (Q : St → Hp → Prop), Re c μ F H σ sl O → Rp c F x d → m d sl = some sl' →
  (∀ σ', Re c μ F H σ' sl' O → Pin μ σ σ' → Out S σ σ' → Q σ' H) → g x σ H Q
structure XG (X : Cx) (c : CI) (μ : Ms) (S : List Nat) (e : Expr) (g : TG) (m : MG) : Prop where
  pg : PG X e g
  ev : EvG c μ S g m
section
variable {c : CI} {X : Cx} {μ : Ms}
theorem Re.setF {F H : Hp} {σ : St} {sl : Sl} {O : Os} {i : Nat} {x : V} {d : D} (re : Re c μ F H σ sl O) (hm : mdOf μ i = .frz) (r : Rp c F x d) : Re c μ F H (σ.set i (some x)) (sl.set i (some d)) O where
  ag := re.ag
  len := by rw [List.length_set, List.length_set]; exact re.len
  at_ := fun j e h => by
    by_cases q : i = j
    · subst q
      have hi : i < sl.length := by
        have := (List.getElem?_eq_some_iff.mp h).1
        rwa [List.length_set] at this
      rw [List.getElem?_set_self hi] at h
      cases h
      refine ⟨x, List.getElem?_set_self (by rw [← re.len]; exact hi), ?_⟩
      rw [hm]
      refine ⟨r, ?_⟩
      by_cases z : ∃ d, sl[i]? = some (some d)
      · obtain ⟨d2, z⟩ := z
        obtain ⟨v, _, q⟩ := re.at_ i d2 z
        rw [hm] at q
        exact q.2
      · exact re.emp i fun d2 q => z ⟨d2, q⟩
    · rw [List.getElem?_set_ne q] at h ⊢
      exact re.at_ j e h
  emp := fun j h => by
    by_cases q : i = j
    · subst q
      by_cases z : ∃ d, sl[i]? = some (some d)
      · obtain ⟨d2, z⟩ := z
        obtain ⟨v, _, q⟩ := re.at_ i d2 z
        rw [hm] at q
        exact q.2
      · exact re.emp i fun d2 q => z ⟨d2, q⟩
    · exact re.emp j fun d h2 => h d (by rw [List.getElem?_set_ne q]; exact h2)
  dis := re.dis
  fre := re.fre
def gmName (i : Nat) : MG := fun d sl => some (sl.set i (some d))
theorem ev_name {i : Nat} (hm : mdOf μ i = .frz) : EvG c μ [i] (gName i) (gmName i) := by
  intro σ H F O sl sl' x d Q re r e q
  cases e
  refine q _ (re.setF hm r) (fun j h1 h2 => ?_) ⟨by rw [List.length_set], fun j hj => ?_⟩
  · have hj : i ≠ j := fun z => h1 (by rw [← z]; exact hm)
    rw [List.getElem?_set_ne hj]
  · rw [List.getElem?_set_ne (fun z => hj (by rw [z]; exact List.mem_singleton.mpr rfl))]
theorem xg_name (i : Nat) {x : Str} {pos : Pos} (hN : X.N.Nodup) (hm : mdOf μ i = .frz := by rfl) (hi : X.N[i]? = some x := by rfl) (hx : Loc X.env.scope x := by first | exact Or.inl rfl | exact Or.inr rfl) (hf : X.fn x = true ∨ X.env.scope.names.lookup x = some .local := by first | exact .inl rfl | exact .inr rfl) :
    XG X c μ [i] (.Name x pos) (gName i) (gmName i) := ⟨pg_name hN hi hx hf, ev_name hm⟩
abbrev MGs := List D → Sl → Option Sl
def EvGs (c : CI) (μ : Ms) (S : List Nat) (g : TGs) (m : MGs) : Prop := ∀ (σ : St) (H F : Hp) (O : Os) (sl sl' : Sl) (xs : List V) (ds : List D) (Q : St → Hp → Prop), Re c μ F H σ sl O → Rps c F xs ds → m ds sl = some sl' →
  (∀ σ', Re c μ F H σ' sl' O → Pin μ σ σ' → Out S σ σ' → Q σ' H) → g xs σ H Q
structure XGs (X : Cx) (c : CI) (μ : Ms) (S : List Nat) (e : List Expr) (g : TGs) (m : MGs) : Prop where
  pg : PGs X e g
  ev : EvGs c μ S g m
def gmNil : MGs := fun ds sl => match ds with
  | [] => some sl
  | _ => none
def gmCons (m : MG) (n : MGs) : MGs := fun ds sl => match ds with
  | d :: r => (m d sl).bind fun s => n r s
  | [] => none
def gmTup (n : Nat) (m : MGs) : MG := fun d sl => match d with
  | .tup ds => if ds.length = n then m ds sl else none
  | _ => none
theorem xgs_nil : XGs X c μ [] [] gNil gmNil := ⟨pgs_nil, fun σ H F O sl sl' xs ds Q re rs e q => by
  cases rs with
  | nil => cases e; exact ⟨rfl, q σ re (Pin.refl _ _) ⟨rfl, fun _ _ => rfl⟩⟩
  | cons _ _ => cases e⟩
theorem xgs_cons {S1 S2 : List Nat} {e : Expr} {es : List Expr} {t : TG} {u : TGs} {m : MG} {n : MGs} (h : XG X c μ S1 e t m) (hr : XGs X c μ S2 es u n) (hs : (assignEach (e :: es) X.env).map (·.2) = assign e X.env :: (assignEach es X.env).map (·.2) := by rfl) : XGs X c μ (S1 ++ S2) (e :: es) (gCons t u) (gmCons m n) :=
  ⟨pgs_cons h.pg hr.pg hs, fun σ H F O sl sl' xs ds Q re rs e q => by
  cases rs with
  | nil => cases e
  | cons r t =>
    rename_i v vs d ds
    have e : (m d sl).bind (fun s => n ds s) = some sl' := e
    cases e1 : m d sl with
    | none => rw [e1] at e; cases e
    | some s1 =>
      rw [e1] at e
      exact ⟨v, vs, rfl, h.ev σ H F O sl s1 v d _ re r e1 fun σ1 re1 p1 o1 => hr.ev σ1 H F O s1 sl' vs ds Q re1 t e fun σ2 re2 p2 o2 => q σ2 re2 (p1.trans p2) ⟨o2.1.trans o1.1, fun j hj => (o2.2 j fun z => hj (List.mem_append_right _ z)).trans (o1.2 j fun z => hj (List.mem_append_left _ z))⟩⟩⟩
theorem xg_tup {S : List Nat} {es : List Expr} {k : Nat} {t : TGs} {n : Nat} {m : MGs} {pos : Pos} (hc : X.calm = true) (h : XGs X c μ S es t m)
    (hn : (assignEach es X.env).length = n := by rfl) (hst : (assignEach es X.env).findIdx? (·.1) = none := by rfl) : XG X c μ S (.Tuple es k pos) (gTup X.K n t) (gmTup n m) :=
  ⟨pg_tup hc h.pg hn hst, fun σ H F O sl sl' x d Q re r e q => by
  unfold gmTup at e
  split at e
  · split at e
    · rename_i ds hl
      cases r with
      | tup h1 z r => exact ⟨_, _, rfl, SqT.of (re.ag.tup h1), by rw [r.length]; exact hl, h.ev σ H F O sl sl' _ ds Q re r e q⟩
    · cases e
  · cases e⟩
end

/-! ### statements -/
inductive Fl where
  | nx | bk | ct | rt (d : D)
abbrev MS := Sl → R Fl
/-- a returned value: frozen, or owned (ρ) -/
def HR (c : CI) (ρ : Bool) (F H : Hp) (O : Os) (F' H' : Hp) (O' : Os) (v : V) (d : D) (Or : List Addr) : Prop :=
  if ρ = true then Ow c c.md F' H' v d Or ∧ ∀ a, a ∈ Or → F' a = none ∧ (∀ i, a ∉ O' i) ∧ (H a = none ∨ ∃ j, a ∈ O j) else Rp c F' v d ∧ Or = []
theorem HR.from {c : CI} {ρ : Bool} {F H F1 H1 F' H' : Hp} {O O1 O' : Os} {v : V} {d : D} {Or : List Addr} (s : Stp F H O F1 H1 O1) (h : HR c ρ F1 H1 O1 F' H' O' v d Or) : HR c ρ F H O F' H' O' v d Or := by
  cases ρ with
  | false => exact h
  | true =>
    refine ⟨h.1, fun a ha => ?_⟩
    obtain ⟨q1, q2, q3⟩ := h.2 a ha
    refine ⟨q1, q2, ?_⟩
    rcases q3 with e | ⟨j, hj⟩
    · cases z : H a with
      | none => exact .inl rfl
      | some u =>
        by_cases y : ∃ i, a ∈ O i
        · exact .inr y
        · rw [s.kp a u z fun i hi => y ⟨i, hi⟩] at e; cases e
    · exact s.ow j a hj
def GS (c : CI) (μ : Ms) (ρ : Bool) (W : WX) (F H : Hp) (O : Os) (σ : St) (E : Ends) : R Fl → Prop
  | .ok .nx sl' => ∀ σ' F' H' O', Stp F H O F' H' O' → Re c μ F' H' σ' sl' O' → Pin μ σ σ' → E.nx σ' H'
  | .ok .bk sl' => ∀ σ' F' H' O', Stp F H O F' H' O' → Re c μ F' H' σ' sl' O' → Pin μ σ σ' → E.bk σ' H'
  | .ok .ct sl' => ∀ σ' F' H' O', Stp F H O F' H' O' → Re c μ F' H' σ' sl' O' → Pin μ σ σ' → E.ct σ' H'
  | .ok (.rt d) sl' => ∀ v σ' F' H' O' Or, Stp F H O F' H' O' → Re c μ F' H' σ' sl' O' → Pin μ σ σ' → HR c ρ F H O F' H' O' v d Or → E.rt v H'
  | .exc k fs sl' => ∀ dd σ' F' H' O', Stp F H O F' H' O' → Re c μ F' H' σ' sl' O' → Pin μ σ σ' → XR c F' H' k fs dd → W (.ref (c.C k)) dd σ' H'
  | .err => False
theorem GS.from {c : CI} {μ : Ms} {ρ : Bool} {W : WX} {F H F1 H1 : Hp} {O O1 : Os} {σ σ1 : St} {E : Ends} {r : R Fl} (s : Stp F H O F1 H1 O1) (p : Pin μ σ σ1) (g : GS c μ ρ W F H O σ E r) : GS c μ ρ W F1 H1 O1 σ1 E r := by
  cases r with
  | ok fl sl' =>
    cases fl with
    | nx => exact fun σ' F' H' O' s' re' p' => g σ' F' H' O' (s.trans s') re' (p.trans p')
    | bk => exact fun σ' F' H' O' s' re' p' => g σ' F' H' O' (s.trans s') re' (p.trans p')
    | ct => exact fun σ' F' H' O' s' re' p' => g σ' F' H' O' (s.trans s') re' (p.trans p')
    | rt d => exact fun v σ' F' H' O' Or s' re' p' h => g v σ' F' H' O' Or (s.trans s') re' (p.trans p') (HR.from s h)
  | exc k fs sl' => exact fun dd σ' F' H' O' s' re' p' x => g dd σ' F' H' O' (s.trans s') re' (p.trans p') x
  | err => exact g
def StM (c : CI) (μ : Ms) (ρ : Bool) (W : WX) (t : TS) (m : MS) : Prop := ∀ (σ : St) (H F : Hp) (O : Os) (sl : Sl) (E : Ends), Re c μ F H σ sl O → GS c μ ρ W F H O σ E (m sl) → t E σ H
structure XS (X : Cx) (c : CI) (μ : Ms) (ρ : Bool) (W : WX) (st : Stmt) (t : TS) (m : MS) : Prop where
  ps : PS X st t
  ev : StM c μ ρ W t m
structure XSs (X : Cx) (c : CI) (μ : Ms) (ρ : Bool) (W : WX) (st : List Stmt) (t : TS) (m : MS) : Prop where
  ps : PSs X st t
  ev : StM c μ ρ W t m
section
variable {c : CI} {X : Cx} {μ : Ms} {ρ : Bool} {W : WX} {t u : TS} {m n : MS} {pos : Pos}
def mSkip : MS := fun sl => .ok .nx sl
def mSeq (m n : MS) : MS := fun sl => match m sl with
  | .ok .nx s => n s
  | r => r
theorem st_skip : StM c μ ρ W tNext mSkip := fun σ H F O sl E re g => g σ F H O (Stp.refl _ _ _) re (Pin.refl _ _)
theorem st_seq (h : StM c μ ρ W t m) (h2 : StM c μ ρ W u n) : StM c μ ρ W (tSeq t u) (mSeq m n) := by
  intro σ H F O sl E re g
  refine h σ H F O sl _ re ?_
  have g : GS c μ ρ W F H O σ E (match m sl with | .ok .nx s => n s | r => r) := g
  revert g
  cases e : m sl with
  | err => exact fun g => g
  | exc k fs s => exact fun g => g
  | ok fl s =>
    cases fl with
    | bk => exact fun g => g
    | ct => exact fun g => g
    | rt d => exact fun g => g
    | nx => exact fun g σ' F' H' O' st re' p => h2 σ' H' F' O' s E re' (GS.from st p g)
theorem xss_nil : XSs X c μ ρ W [] tNext mSkip := ⟨pss_nil, st_skip⟩
theorem xss_cons {st : Stmt} {rest : List Stmt} (h : XS X c μ ρ W st t m) (h2 : XSs X c μ ρ W rest u n) : XSs X c μ ρ W (st :: rest) (tSeq t u) (mSeq m n) := ⟨pss_cons h.ps h2.ps, st_seq h.ev h2.ev⟩
theorem xss_one {st : Stmt} (h : XS X c μ ρ W st t m) : XSs X c μ ρ W [st] t m := ⟨pss_one h.ps, h.ev⟩
theorem xs_pass : XS X c μ ρ W (.Pass pos) tNext mSkip := ⟨ps_pass, st_skip⟩
theorem xs_doc {x j pos pos'} : XS X c μ ρ W (.Expr (.Constant (.str x) j pos) pos') tNext mSkip := ⟨ps_doc, st_skip⟩
/-- a statement that the evaluator never comes to -/
def mErr : MS := fun _ => .err
theorem xs_never {st : Stmt} : XS X c μ ρ W st tNever mErr := ⟨ps_never, fun σ H F O sl E re g => g⟩
def mDrop (m : ME) : MS := fun sl => (m sl).bind fun _ s => .ok .nx s
/-- an expression's outcome as a statement's -/
theorem gx_of {α β : Type} {rel : Hp → β → α → Prop} {F H : Hp} {O : Os} {σ : St} {E : Ends} {Q : β → Hp → Prop} {r : R α} {f : α → Sl → R Fl} (g : GS c μ ρ W F H O σ E (r.bind f))
    (h : ∀ v d F' H' O' sl', Stp F H O F' H' O' → Re c μ F' H' σ sl' O' → rel F' v d → GS c μ ρ W F' H' O' σ E (f d sl') → Q v H') : GX rel c μ W F H O σ Q r := by
  cases r with
  | ok d s => exact fun v F' H' O' st re' rv => h v d F' H' O' s st re' rv (GS.from st (Pin.refl _ _) g)
  | exc k fs s => exact fun dd F' H' O' st re' x => g dd σ F' H' O' st re' (Pin.refl _ _) x
  | err => exact g
theorem xs_expr {e : Expr} {te : TE} {me : ME} (h : XE X c μ W e te me) (hs : swapsWith e none pos.line X.env = pure false := by rfl) : XS X c μ ρ W (.Expr e pos) (tDrop te) (mDrop me) := ⟨ps_expr h.pe hs, fun σ H F O sl E re g =>
  h.ev σ H F O sl _ re (gx_of g fun v d F' H' O' sl' st re' rv g' => g' σ F' H' O' (Stp.refl _ _ _) re' (Pin.refl _ _))⟩
def mIf (mt : MT) (m n : MS) : MS := fun sl => (mt sl).bind fun b s => if b = true then m s else n s
theorem xs_if {e : Expr} {a b : List Stmt} {tc : TT} {mt : MT} (hc : XT X c μ W e tc mt) (ha : XSs X c μ ρ W a t m) (hb : XSs X c μ ρ W b u n) : XS X c μ ρ W (.If e a b pos) (tIfS tc t u) (mIf mt m n) := ⟨ps_if hc.pt ha.ps hb.ps, fun σ H F O sl E re g =>
  hc.ev σ H F O sl _ re (gx_of g fun v d F' H' O' sl' st re' rv g' => by
    cases rv
    cases v with
    | true => exact ha.ev σ H' F' O' sl' E re' g'
    | false => exact hb.ev σ H' F' O' sl' E re' g')⟩
def mRet (m : ME) : MS := fun sl => (m sl).bind fun d s => .ok (.rt d) s
theorem xs_ret {e : Expr} {te : TE} {me : ME} (h : XE X c μ W e te me) : XS X c μ false W (.Return (some e) pos) (tRet te) (mRet me) := ⟨ps_ret h.pe, fun σ H F O sl E re g =>
  h.ev σ H F O sl _ re (gx_of g fun v d F' H' O' sl' st re' rv g' => g' v σ F' H' O' [] (Stp.refl _ _ _) re' (Pin.refl _ _) ⟨rv, rfl⟩)⟩
/-- .. of a new owned thing -/
theorem go_of' {F H : Hp} {O : Os} {σ : St} {E : Ends} {Q : VK} {r : R D} {f : D → Sl → R Fl} (g : GS c μ ρ W F H O σ E (r.bind f))
    (h : ∀ v d F' H' O' Or sl', Stp F H O F' H' O' → Re c μ F' H' σ sl' O' → Ow c c.md F' H' v d Or → (∀ a, a ∈ Or → F' a = none ∧ (∀ i, a ∉ O' i) ∧ H a = none) → GS c μ ρ W F H O σ E (f d sl') → Q v H') : GO c μ W F H O σ Q r := by
  cases r with
  | ok d s => exact fun v F' H' O' Or st re' ow q => h v d F' H' O' Or s st re' ow q g
  | exc k fs s => exact fun dd F' H' O' st re' x => g dd σ F' H' O' st re' (Pin.refl _ _) x
  | err => exact g
theorem xs_retO {e : Expr} {te : TE} {me : ME} (h : XN X c μ W e te me) : XS X c μ true W (.Return (some e) pos) (tRet te) (mRet me) := ⟨ps_ret h.pe, fun σ H F O sl E re g =>
  h.ev σ H F O sl _ re (go_of' g fun v d F' H' O' Or sl' st re' ow q g' => g' v σ F' H' O' Or st re' (Pin.refl _ _) ⟨ow, fun a ha => ⟨(q a ha).1, (q a ha).2.1, .inl (q a ha).2.2⟩⟩)⟩
/-- target = frozen value -/
def mAsg (m : ME) (g : MG) : MS := fun sl => (m sl).bind fun d s => match g d s with
  | some s2 => .ok .nx s2
  | none => .err
theorem st_asg {S : List Nat} {te : TE} {me : ME} {tg : TG} {mg : MG} (h : EvE c μ W te me) (hg : EvG c μ S tg mg) : StM c μ ρ W (tAsg te tg) (mAsg me mg) := fun σ H F O sl E re g =>
  h σ H F O sl _ re (gx_of g fun v d F' H' O' sl' st re' rv g' => by
    cases e : mg d sl' with
    | some s2 =>
      have g' : GS c μ ρ W F' H' O' σ E (match mg d sl' with | some s2 => .ok .nx s2 | none => .err) := g'
      rw [e] at g'
      exact hg σ H' F' O' sl' s2 v d _ re' rv e fun σ2 re2 p2 _ => g' σ2 F' H' O' (Stp.refl _ _ _) re2 p2
    | none =>
      have g' : GS c μ ρ W F' H' O' σ E (match mg d sl' with | some s2 => .ok .nx s2 | none => .err) := g'
      rw [e] at g'
      exact g'.elim)
theorem xs_asg {S : List Nat} {tg e : Expr} {te : TE} {me : ME} {g : TG} {mg : MG} (he : XE X c μ W e te me) (hg : XG X c μ S tg g mg) (hs : swapsWithSole [tg] e pos.line X.env = pure false := by rfl) (hw : swappedStores [tg] e X.env = pure none := by rfl)
    (h1 : (assignEach [tg] X.env).map (·.2) = [assign tg X.env] := by rfl) : XS X c μ ρ W (.Assign [tg] e pos) (tAsg te g) (mAsg me mg) := ⟨ps_asg he.pe hg.pg hs hw h1, st_asg he.ev hg.ev⟩
theorem xs_set (i : Nat) {x : Str} {e : Expr} {te : TE} {me : ME} {pos' : Pos} (hN : X.N.Nodup) (he : XE X c μ W e te me) (hm : mdOf μ i = .frz := by rfl) (hi : X.N[i]? = some x := by rfl) (hx : Loc X.env.scope x := by first | exact Or.inl rfl | exact Or.inr rfl)
    (hs : swapsWith e (some (.Name x pos')) pos.line X.env = pure false := by rfl) (hf : X.fn x = true ∨ X.env.scope.names.lookup x = some .local := by first | exact .inl rfl | exact .inr rfl) :
    XS X c μ ρ W (.Assign [.Name x pos'] e pos) (tAsg te (gName i)) (mAsg me (gmName i)) := ⟨ps_set hN hi hx he.pe hs hf, st_asg he.ev (ev_name hm)⟩
/-- an own slot takes a new owned thing -/
theorem Re.setO {F H : Hp} {σ : St} {sl : Sl} {O : Os} {i : Nat} {x : V} {d : D} {Or : List Addr} (re : Re c μ F H σ sl O) (hm : mdOf μ i = .own) (hi : i < sl.length) (r : Ow c c.md F H x d Or) (q : ∀ a, a ∈ Or → F a = none ∧ ∀ i, a ∉ O i) :
    Re c μ F H (σ.set i (some x)) (sl.set i (some d)) (fun j => if j = i then Or else O j) where
  ag := re.ag
  len := by rw [List.length_set, List.length_set]; exact re.len
  at_ := fun j e h => by
    by_cases q : i = j
    · subst q
      rw [List.getElem?_set_self hi] at h
      cases h
      refine ⟨x, List.getElem?_set_self (by rw [← re.len]; exact hi), ?_⟩
      rw [hm, if_pos rfl]
      exact r
    · rw [List.getElem?_set_ne q] at h ⊢
      rw [if_neg (Ne.symm q)]
      exact re.at_ j e h
  emp := fun j h => by
    by_cases q : i = j
    · subst q
      exact absurd (List.getElem?_set_self hi) (h d)
    · rw [if_neg (Ne.symm q)]
      exact re.emp j fun d h2 => h d (by rw [List.getElem?_set_ne q]; exact h2)
  dis := fun j k a h1 h2 => by
    by_cases q1 : j = i
    · by_cases q2 : k = i
      · rw [q1, q2]
      · rw [if_pos q1] at h1
        rw [if_neg q2] at h2
        exact absurd h2 ((q a h1).2 k)
    · by_cases q2 : k = i
      · rw [if_neg q1] at h1
        rw [if_pos q2] at h2
        exact absurd h1 ((q a h2).2 j)
      · rw [if_neg q1] at h1
        rw [if_neg q2] at h2
        exact re.dis j k a h1 h2
  fre := fun j a h => by
    by_cases q1 : j = i
    · rw [if_pos q1] at h
      exact (q a h).1
    · rw [if_neg q1] at h
      exact re.fre j a h
def mSetO (m : ME) (i : Nat) : MS := fun sl => (m sl).bind fun d s => if i < s.length then .ok .nx (s.set i (some d)) else .err
theorem st_setO {te : TE} {me : ME} {i : Nat} (hm : mdOf μ i = .own) (h : EvO c μ W te me) : StM c μ ρ W (tAsg te (gName i)) (mSetO me i) := fun σ H F O sl E re g =>
  h σ H F O sl _ re (go_of' g fun v d F' H' O' Or sl' st re' ow q g' => by
    have g' : GS c μ ρ W F H O σ E (if i < sl'.length then .ok .nx (sl'.set i (some d)) else .err) := g'
    by_cases hi : i < sl'.length
    · rw [if_pos hi] at g'
      refine g' _ F' H' _ ?_ (re'.setO hm hi ow fun a ha => ⟨(q a ha).1, (q a ha).2.1⟩) fun j h1 h2 => ?_
      · refine ⟨st.ff, st.kp, st.fo, fun j a ha => ?_, st.al, fun j => ?_⟩
        · have ha : a ∈ (if j = i then Or else O' j) := ha
          by_cases q1 : j = i
          · rw [if_pos q1] at ha
            exact .inl (q a ha).2.2
          · rw [if_neg q1] at ha
            exact st.ow j a ha
        · show (∃ N, (if j = i then Or else O' j) = O j ++ N ∧ ∀ a, a ∈ N → H a = none) ∨ (if j = i then Or else O' j) = [] ∨ ∀ a, a ∈ (if j = i then Or else O' j) → H a = none
          by_cases q1 : j = i
          · rw [if_pos q1]
            exact .inr (.inr fun a ha => (q a ha).2.2)
          · rw [if_neg q1]
            exact st.pk j
      · have hj : i ≠ j := fun z => h2 (by rw [← z]; exact hm)
        rw [List.getElem?_set_ne hj]
    · rw [if_neg hi] at g'
      exact g'.elim)
theorem xs_setO (i : Nat) {x : Str} {e : Expr} {te : TE} {me : ME} {pos' : Pos} (hN : X.N.Nodup) (he : XN X c μ W e te me) (hm : mdOf μ i = .own := by rfl) (hi : X.N[i]? = some x := by rfl) (hx : Loc X.env.scope x := by first | exact Or.inl rfl | exact Or.inr rfl)
    (hs : swapsWith e (some (.Name x pos')) pos.line X.env = pure false := by rfl) (hf : X.fn x = true ∨ X.env.scope.names.lookup x = some .local := by first | exact .inl rfl | exact .inr rfl) :
    XS X c μ ρ W (.Assign [.Name x pos'] e pos) (tAsg te (gName i)) (mSetO me i) := ⟨ps_set hN hi hx he.pe hs hf, st_setO hm he.ev⟩
/-- while, with so many turns at most -/
def mWhile (mt : MT) (mb : MS) : Nat → MS
  | 0, _ => .err
  | k + 1, sl => (mt sl).bind fun b s => if b = true then (match mb s with
      | .ok .nx s2 => mWhile mt mb k s2
      | .ok .ct s2 => mWhile mt mb k s2
      | .ok .bk s2 => .ok .nx s2
      | r => r) else .ok .nx s
theorem st_while {tc : TT} {tb : TS} {mt : MT} {mb : MS} (k : Nat) (hc : EvT c μ W tc mt) (hb : StM c μ ρ W tb mb) : StM c μ ρ W (tWhile tc tb) (mWhile mt mb k) := by
  intro σ H F O sl E re g
  refine ⟨fun k σ H => ∃ F O sl, Re c μ F H σ sl O ∧ GS c μ ρ W F H O σ E (mWhile mt mb k sl), ⟨k, F, O, sl, re, g⟩, ?_⟩
  rintro k σ H ⟨F, O, sl, re, g⟩
  cases k with
  | zero => exact g.elim
  | succ k =>
    refine hc σ H F O sl _ re (gx_of g fun v d F' H' O' sl' st re' rv g' => ?_)
    cases rv
    cases v with
    | false => exact g' σ F' H' O' (Stp.refl _ _ _) re' (Pin.refl _ _)
    | true =>
      refine ⟨fun σ2 H2 => ∃ F2 O2 s2, Re c μ F2 H2 σ2 s2 O2 ∧ GS c μ ρ W F2 H2 O2 σ2 E (mWhile mt mb k s2), fun σ2 H2 ⟨F2, O2, s2, r2, g2⟩ => ⟨k, Nat.lt_succ_self k, F2, O2, s2, r2, g2⟩, ?_⟩
      refine hb σ H' F' O' sl' _ re' ?_
      have g' : GS c μ ρ W F' H' O' σ E (match mb sl' with | .ok .nx s2 => mWhile mt mb k s2 | .ok .ct s2 => mWhile mt mb k s2 | .ok .bk s2 => .ok .nx s2 | r => r) := g'
      revert g'
      cases e : mb sl' with
      | err => exact fun g => g
      | exc k fs s => exact fun g => g
      | ok fl s2 =>
        cases fl with
        | nx => exact fun g σ2 F2 H2 O2 st2 re2 p2 => ⟨F2, O2, s2, re2, GS.from st2 p2 g⟩
        | ct => exact fun g σ2 F2 H2 O2 st2 re2 p2 => ⟨F2, O2, s2, re2, GS.from st2 p2 g⟩
        | bk => exact fun g => g
        | rt d => exact fun g => g
theorem xs_while {e : Expr} {body : List Stmt} {tc : TT} {tb : TS} {mt : MT} {mb : MS} (k : Nat) (hp : PassesOwn (model X.prog X.w) X.A X.env X.xe) (hc : XT X c μ W e tc mt) (hb : XSs X c μ ρ W body tb mb) : XS X c μ ρ W (.While e body [] pos) (tWhile tc tb) (mWhile mt mb k) :=
  ⟨ps_while hp hc.pt hb.ps, st_while k hc.ev hb.ev⟩
end
end MM

set_option Elab.async false
set_option linter.all false
set_option maxRecDepth 100000
set_option maxHeartbeats 2000000
/-! The value layer, part f: what is walked, for, comprehensions. -/
namespace MM
open PySem PySem.Spec PyProof.Rows L2

/-- what must stand of the heap while something is walked: nothing, or one object (a locked dict) -/
def PH : Option (Addr × HO) → Hp → Prop
  | none, _ => True
  | some (a, o), H => H a = some o
/-- the iterator J yields ds -/
def Wk (c : CI) (p : Option (Addr × HO)) : Hp → It → List D → Prop := fun F J ds => ds.length ≤ LB ∧ ∀ F2 H, Le F F2 → Ag c.lk F2 H → PH p H → ∀ i,
  (ds.length ≤ i → J.stop i H) ∧ ∀ d, ds[i]? = some d → J.go i H ∧ ∀ x H', J.yld i H x H' → H' = H ∧ Rp c F2 x d
def itemsOf : D → Option (List D)
  | .lst ds => some ds
  | .tup ds => some ds
  | .str l => some (l.map fun k => .str [k])
  | .scr ns => some (ns.map D.int)
  | _ => none
abbrev rW (c : CI) : Hp → It → List D → Prop := Wk c none
structure XI (X : Cx) (c : CI) (μ : Ms) (W : WX) (tg iter : Expr) (wi : TI) (m : MA) : Prop where
  pi : PI X tg iter wi
  ev : Evm (rW c) c μ W wi m
section
variable {c : CI} {X : Cx} {μ : Ms} {W : WX} {tg : Expr}
def iSeq (K : PySem.W.Frag) (te : TE) : TI := fun σ H R => te σ H fun x H1 => (∃ a, x = .ref a ∧ (∃ xs, SqL K H1 a xs) ∧ R (Itl K a) H1) ∨ (∃ a, x = .ref a ∧ (∃ xs, SqT K H1 a xs) ∧ R (Itt K a) H1) ∨ ∃ z, x = .str z ∧ R (Its z) H1
theorem pi_seq {l : Expr} {tl : TE} (hl : PE X l tl) : PI X tg l (iSeq X.K tl) := by
  refine ⟨fun pins s σ H R I h => ?_⟩
  refine thn (hl.run pins s σ H _ I h) fun v s1 ⟨x, H1, I1, r1, q1⟩ => ?_
  rcases q1 with ⟨a, e, ⟨xs, hq⟩, q⟩ | ⟨a, e, ⟨xs, hq⟩, q⟩ | ⟨z, e, q⟩
  · subst e
    cases r1
    obtain ⟨its, rv, p, hz⟩ := I1.list hq
    refine wpAny_pyIter_list p.isList ?_
    refine ⟨s1.heap.objs.size, [s1.heap.objs.size], _, _, H1, rfl, I1.kept (t' := s1.toks) fun b o e => Heap.get?_push_of_some _ e, turn_list a _, ⟨_, Heap.get?_push_size _ rfl, rfl, rfl⟩, fun b hb => ?_, q⟩
    have e : b = s1.heap.objs.size := by simpa using hb
    subst e
    exact I1.fpOk (Nat.le_refl _) (I1.hok.fresh (Nat.le_refl _))
  · subst e
    cases r1
    obtain ⟨its, rv, p, hz⟩ := I1.tuple hq
    refine wpAny_pyIter_tuple (show s1.heap.IsTuple a its.toArray from p) ?_
    refine ⟨s1.heap.objs.size, [s1.heap.objs.size], _, _, H1, rfl, I1.kept (t' := s1.toks) fun b o e => Heap.get?_push_of_some _ e, turn_tuple a _, ⟨_, Heap.get?_push_size _ rfl, rfl, rfl⟩, fun b hb => ?_, q⟩
    have e : b = s1.heap.objs.size := by simpa using hb
    subst e
    exact I1.fpOk (Nat.le_refl _) (I1.hok.fresh (Nat.le_refl _))
  · subst e
    obtain ⟨t, rfl⟩ := r1
    cases ha : z.cps.all (· < 128)
    · exact wpAny_pyIter_wide ha (pi_one (tk := s1.toks) I1 _ (turn_str _ z t "str_iterator" (.inr rfl)) ⟨_, Heap.get?_push_size _ rfl, rfl, rfl⟩ q)
    · exact wpAny_pyIter_ascii ha (pi_one (tk := s1.toks) I1 _ (turn_str _ z t "str_ascii_iterator" (.inl rfl)) ⟨_, Heap.get?_push_size _ rfl, rfl, rfl⟩ q)
theorem wk_list {K : PySem.W.Frag} {F : Hp} {a : Addr} {vs : List V} {ds : List D} (h : ∀ F2 H, Le F F2 → Ag c.lk F2 H → SqL K H a vs) (r : Rps c F vs ds) (z : ds.length ≤ LB) (inj : ∀ F2 H, Le F F2 → Ag c.lk F2 H → True) : Wk c none F (Itl K a) ds := by
  refine ⟨z, fun F2 H le ag _ i => ⟨fun hi => ⟨vs, h F2 H le ag, by rw [r.length]; exact hi⟩, fun d hd => ?_⟩⟩
  obtain ⟨v, h1, h2⟩ := r.get hd
  refine ⟨⟨vs, v, h F2 H le ag, h1⟩, fun x H' y => ?_⟩
  obtain ⟨e, y⟩ := y
  refine ⟨e, ?_⟩
  have e2 : v = x := Option.some.inj (h1.symm.trans (y vs (h F2 H le ag)))
  rw [← e2]
  exact h2.mono le
theorem wk_tup {K : PySem.W.Frag} {F : Hp} {a : Addr} {vs : List V} {ds : List D} (h : ∀ F2 H, Le F F2 → Ag c.lk F2 H → SqT K H a vs) (r : Rps c F vs ds) (z : ds.length ≤ LB) : Wk c none F (Itt K a) ds := by
  refine ⟨z, fun F2 H le ag _ i => ⟨fun hi => ⟨vs, h F2 H le ag, by rw [r.length]; exact hi⟩, fun d hd => ?_⟩⟩
  obtain ⟨v, h1, h2⟩ := r.get hd
  refine ⟨⟨vs, v, h F2 H le ag, h1⟩, fun x H' y => ?_⟩
  obtain ⟨e, y⟩ := y
  refine ⟨e, ?_⟩
  have e2 : v = x := Option.some.inj (h1.symm.trans (y vs (h F2 H le ag)))
  rw [← e2]
  exact h2.mono le
theorem wk_str {F : Hp} {l : T} (z : l.length ≤ LB) : Wk c none F (Its (tS l)) (l.map fun k => .str [k]) := by
  have hs : (tS l).cps.size = l.length := tS_len l
  refine ⟨by rw [List.length_map]; exact z, fun F2 H le ag _ i => ⟨fun hi => ?_, fun d hd => ?_⟩⟩
  · show (tS l).cps.size ≤ i
    rw [hs]
    rwa [List.length_map] at hi
  · rw [List.getElem?_map] at hd
    cases e : l[i]? with
    | none => rw [e] at hd; cases hd
    | some k =>
      rw [e] at hd
      cases hd
      have hi := (List.getElem?_eq_some_iff.mp e).1
      refine ⟨show i < (tS l).cps.size by rw [hs]; exact hi, fun x H' y => ?_⟩
      obtain ⟨e1, k', h1, h2⟩ := y
      refine ⟨e1, ?_⟩
      subst h2
      have e3 : (tS l).cps[i]? = l[i]? := by
        show l.toArray[i]? = l[i]?
        simp
      rw [e3, e] at h1
      cases h1
      exact .str [k] (show 1 ≤ 1000000 by decide)
def mItems (m : ME) : MA := fun sl => (m sl).bind fun d s => R.ofO (itemsOf d) s
theorem ev_seq {K : PySem.W.Frag} (hK : K = c.K) {te : TE} {m : ME} (h : EvE c μ W te m) : Evm (rW c) c μ W (iSeq K te) (mItems m) := by
  refine Evm.bind (κ := fun x σ H1 (R : It → Hp → Prop) => (∃ a, x = .ref a ∧ (∃ xs, SqL K H1 a xs) ∧ R (Itl K a) H1) ∨ (∃ a, x = .ref a ∧ (∃ xs, SqT K H1 a xs) ∧ R (Itt K a) H1) ∨ ∃ z, x = .str z ∧ R (Its z) H1) h fun σ H F O sl x d Q re rx g => ?_
  cases rx with
  | lst h z r => exact .inl ⟨_, rfl, ⟨_, SqL.of (re.ag.lst h)⟩, g _ F H O (Stp.refl _ _ _) re (wk_list (fun F2 H2 le ag => SqL.of (ag.lst (le _ _ h))) r z fun _ _ _ _ => trivial)⟩
  | tup h z r => exact .inr (.inl ⟨_, rfl, ⟨_, SqT.of (re.ag.tup h)⟩, g _ F H O (Stp.refl _ _ _) re (wk_tup (fun F2 H2 le ag => SqT.of (ag.tup (le _ _ h))) r z)⟩)
  | str l z => exact .inr (.inr ⟨_, rfl, g _ F H O (Stp.refl _ _ _) re (wk_str z)⟩)
  | @scr a ns z h =>
    subst hK
    have g : GX (rW c) c μ W F H O σ Q (.ok (ns.map D.int) sl) := g
    exact .inl ⟨_, rfl, ⟨_, re.ag.sqL h⟩, g _ F H O (Stp.refl _ _ _) re (wk_list (fun F2 H2 le ag => ag.sqL (le_sqL le h)) (Rps.of_ints ns) (by rw [List.length_map]; exact z) fun _ _ _ _ => trivial)⟩
  | _ => exact g.elim
theorem xi_seq {l : Expr} {tl : TE} {m : ME} (h : XE X c μ W l tl m) (hK : X.K = c.K := by rfl) : XI X c μ W tg l (iSeq X.K tl) (mItems m) := ⟨pi_seq h.pe, ev_seq hK h.ev⟩
/-! range -/
def rangeD (lo : Int) (n : Nat) : List D := (List.range n).map fun (k : Nat) => D.int (lo + (k : Int))
theorem wk_range {F : Hp} {lo : Int} {n : Nat} (z : n ≤ LB) : Wk c none F (Itr lo n) (rangeD lo n) := by
  have hl : (rangeD lo n).length = n := by simp [rangeD]
  refine ⟨by rw [hl]; exact z, fun F2 H le ag _ i => ⟨fun hi => ?_, fun d hd => ?_⟩⟩
  · show n ≤ i
    rw [hl] at hi
    exact hi
  · have hi : i < n := by
      have := (List.getElem?_eq_some_iff.mp hd).1
      rwa [hl] at this
    have e : d = D.int (lo + (i : Int)) := by
      unfold rangeD at hd
      rw [List.getElem?_map, List.getElem?_range hi] at hd
      exact (Option.some.inj hd).symm
    subst e
    refine ⟨hi, fun x H' y => ?_⟩
    obtain ⟨e1, e2⟩ := y
    subst e2
    exact ⟨e1, .int _⟩
def mRng1 (n : MA) : MA := fun sl => (n sl).bind fun ds s => match ds with
  | [.int j] => if -(2 ^ 62) ≤ j ∧ j ≤ 1000000 then .ok (rangeD 0 j.toNat) s else .err
  | _ => .err
def mRng2 (n : MA) : MA := fun sl => (n sl).bind fun ds s => match ds with
  | [.int i, .int j] => if 0 ≤ i ∧ i ≤ 1000000 ∧ -(2 ^ 62) ≤ j ∧ j ≤ 1000000 then .ok (rangeD i (j - i).toNat) s else .err
  | _ => .err
theorem ev_rng1 {t : TA} {n : MA} (h : EvA c μ W t n) : Evm (rW c) c μ W (iRng1 t) (mRng1 n) := by
  refine Evm.bind (κ := fun vs σ H1 (R : It → Hp → Prop) => ∃ j : Int, vs = [.int j] ∧ -(2 ^ 62) ≤ j ∧ j < 2 ^ 62 ∧ R (Itr 0 j.toNat) H1) h fun σ H F O sl xs ds Q re rs g => ?_
  split at g
  · rename_i j
    cases rs with
    | cons r t =>
      cases t
      cases r
      by_cases hj : -(2 ^ 62) ≤ j ∧ j ≤ 1000000
      · rw [if_pos hj] at g
        exact ⟨j, rfl, hj.1, by omega, g _ F H O (Stp.refl _ _ _) re (wk_range (show j.toNat ≤ 1000000 by omega))⟩
      · rw [if_neg hj] at g
        exact g.elim
  · exact g.elim
theorem ev_rng2 {t : TA} {n : MA} (h : EvA c μ W t n) : Evm (rW c) c μ W (iRng2 t) (mRng2 n) := by
  refine Evm.bind (κ := fun vs σ H1 (R : It → Hp → Prop) => ∃ i j : Int, vs = [.int i, .int j] ∧ (-(2 ^ 62) ≤ i ∧ i < 2 ^ 62 ∧ -(2 ^ 62) ≤ j ∧ j < 2 ^ 62) ∧ R (Itr i (j - i).toNat) H1) h fun σ H F O sl xs ds Q re rs g => ?_
  split at g
  · rename_i i j
    cases rs with
    | cons r t =>
      cases r
      cases t with
      | cons r t =>
        cases r
        cases t
        by_cases hj : 0 ≤ i ∧ i ≤ 1000000 ∧ -(2 ^ 62) ≤ j ∧ j ≤ 1000000
        · rw [if_pos hj] at g
          exact ⟨i, j, rfl, by omega, g _ F H O (Stp.refl _ _ _) re (wk_range (show (j - i).toNat ≤ 1000000 by omega))⟩
        · rw [if_neg hj] at g
          exact g.elim
  · exact g.elim
theorem xi_rng1 {a : Expr} {t : TA} {n : MA} {p pos : Pos} (hm : X.mg "range" = none) (ha : XA X c μ W [a] t n) (hg : Gl X "range" := by rfl) (hs : starEach [a] X.env = [(false, eval a X.env)] := by rfl) : XI X c μ W tg (.Call (.Name "range" p) [a] [] pos) (iRng1 t) (mRng1 n) :=
  ⟨pi_range1 hg hm ha.pa hs, ev_rng1 ha.ev⟩
theorem xi_rng2 {a b : Expr} {t : TA} {n : MA} {p pos : Pos} (hm : X.mg "range" = none) (ha : XA X c μ W [a, b] t n) (hg : Gl X "range" := by rfl) (hs : starEach [a, b] X.env = [(false, eval a X.env), (false, eval b X.env)] := by rfl) (hs2 : starEach [b] X.env = [(false, eval b X.env)] := by rfl) :
    XI X c μ W tg (.Call (.Name "range" p) [a, b] [] pos) (iRng2 t) (mRng2 n) := ⟨pi_range2 hg hm ha.pa hs hs2, ev_rng2 ha.ev⟩
/-! reversed(list) -/
def mRev (n : MA) : MA := fun sl => (n sl).bind fun ds s => match ds with
  | [.lst xs] => .ok xs.reverse s
  | _ => .err
theorem ev_rev {K : PySem.W.Frag} {t : TA} {n : MA} (h : EvA c μ W t n) : Evm (rW c) c μ W (iRev K t) (mRev n) := by
  refine Evm.bind (κ := fun vs σ H1 (R : It → Hp → Prop) => ∃ (a : Addr) (xs : List V), vs = [.ref a] ∧ SqL K H1 a xs ∧ R (Itv K a xs.length) H1) h fun σ H F O sl xs ds Q re rs g => ?_
  split at g
  · rename_i ys
    cases rs with
    | cons r t =>
      cases t
      cases r with
      | @lst a vs _ h z r =>
        refine ⟨a, vs, rfl, SqL.of (re.ag.lst h), g _ F H O (Stp.refl _ _ _) re ⟨by rw [List.length_reverse]; exact z, fun F2 H2 le ag _ i => ⟨fun hi => ?_, fun d hd => ?_⟩⟩⟩
        · show vs.length ≤ i
          rw [List.length_reverse] at hi
          rw [r.length]
          exact hi
        · have hi := (List.getElem?_eq_some_iff.mp hd).1
          rw [List.length_reverse] at hi
          rw [List.getElem?_reverse hi] at hd
          obtain ⟨v, h1, h2⟩ := r.get hd
          have h3 : vs[vs.length - 1 - i]? = some v := by rw [r.length]; exact h1
          refine ⟨⟨by rw [r.length]; exact hi, vs, v, SqL.of (ag.lst (le _ _ h)), h3⟩, fun x H' y => ?_⟩
          obtain ⟨e, y⟩ := y
          refine ⟨e, ?_⟩
          have e2 : v = x := Option.some.inj (h3.symm.trans (y vs (SqL.of (ag.lst (le _ _ h)))))
          rw [← e2]
          exact h2.mono le
  · exact g.elim
theorem xi_rev {e : Expr} {t : TA} {n : MA} {p pos : Pos} (hm : X.mg "reversed" = none) (ha : XA X c μ W [e] t n) (hg : Gl X "reversed" := by rfl) (hs : starEach [e] X.env = [(false, eval e X.env)] := by rfl) : XI X c μ W tg (.Call (.Name "reversed" p) [e] [] pos) (iRev X.K t) (mRev n) :=
  ⟨pi_reversed hg hm ha.pa hs, ev_rev ha.ev⟩
end

/-! ### for -/
def forGo (mg : MG) (mb : MS) : List D → Sl → R Fl
  | [], s => .ok .nx s
  | d :: ds, s => match mg d s with
    | none => .err
    | some s1 => match mb s1 with
      | .ok .nx s2 => forGo mg mb ds s2
      | .ok .ct s2 => forGo mg mb ds s2
      | .ok .bk s2 => .ok .nx s2
      | r => r
theorem PH.keep {p : Option (Addr × HO)} {F0 F H F' H' : Hp} {O O' : Os} (hp : ∀ a o, p = some (a, o) → F0 a ≠ none) (le : Le F0 F) (fr : ∀ i a, a ∈ O i → F a = none) (s : Stp F H O F' H' O') (h : PH p H) : PH p H' := by
  cases p with
  | none => trivial
  | some q =>
    obtain ⟨a, o⟩ := q
    refine s.kp a o h fun i hi => ?_
    have e := hp a o rfl
    cases q : F0 a with
    | none => exact e q
    | some u =>
      have z := fr i a hi
      rw [le a u q] at z
      cases z
section
variable {c : CI} {X : Cx} {μ : Ms} {ρ : Bool} {W : WX}
theorem for_core {S : List Nat} {p : Option (Addr × HO)} {J : It} {g : TG} {mg : MG} {tb : TS} {mb : MS} (hg : EvG c μ S g mg) (hb : StM c μ ρ W tb mb) {σ : St} {H F : Hp} {O : Os} {sl : Sl} {ds : List D} {E : Ends}
    (re : Re c μ F H σ sl O) (wk : Wk c p F J ds) (ph : PH p H) (hp : ∀ a o, p = some (a, o) → F a ≠ none) (gs : GS c μ ρ W F H O σ E (forGo mg mb ds sl)) :
    ∃ W : Nat → Nat → St → Hp → Prop, (∃ m, W 0 m σ H) ∧ ∀ i m σ H, W i m σ H →
      (J.stop i H ∧ E.nx σ H) ∨ (J.go i H ∧ ∃ N : St → Hp → Prop, (∀ σ' H', N σ' H' → ∃ m', m' < m ∧ W (i + 1) m' σ' H') ∧ ∀ x H', J.yld i H x H' → g x σ H' fun σ2 H2 => tb { E with nx := N, ct := N, bk := E.nx } σ2 H2) := by
  refine ⟨fun i m σ H => m = ds.length - i ∧ i ≤ ds.length ∧ ∃ F' O sl, Le F F' ∧ PH p H ∧ Re c μ F' H σ sl O ∧ GS c μ ρ W F' H O σ E (forGo mg mb (ds.drop i) sl), ⟨ds.length, by simp, Nat.zero_le _, F, O, sl, Le.refl _, ph, re, by rw [List.drop_zero]; exact gs⟩, ?_⟩
  rintro i m σ H ⟨em, hi, F', O, sl, le, ph, re, gs⟩
  obtain ⟨w1, w2⟩ := wk.2 F' H le re.ag ph i
  by_cases hlt : i < ds.length
  · obtain ⟨hgo, hy⟩ := w2 ds[i] (List.getElem?_eq_getElem hlt)
    refine .inr ⟨hgo, fun σ2 H2 => i + 1 ≤ ds.length ∧ ∃ F2 O2 s2, Le F F2 ∧ PH p H2 ∧ Re c μ F2 H2 σ2 s2 O2 ∧ GS c μ ρ W F2 H2 O2 σ2 E (forGo mg mb (ds.drop (i + 1)) s2),
      fun σ2 H2 ⟨h1, F2, O2, s2, le2, ph2, re2, gs2⟩ => ⟨ds.length - (i + 1), by omega, rfl, h1, F2, O2, s2, le2, ph2, re2, gs2⟩, fun x H1 y => ?_⟩
    obtain ⟨e, rx⟩ := hy x H1 y
    subst e
    rw [List.drop_eq_getElem_cons hlt] at gs
    have gs : GS c μ ρ W F' H1 O σ E (match mg ds[i] sl with
      | none => .err
      | some s1 => match mb s1 with
        | .ok .nx s2 => forGo mg mb (ds.drop (i + 1)) s2
        | .ok .ct s2 => forGo mg mb (ds.drop (i + 1)) s2
        | .ok .bk s2 => .ok .nx s2
        | r => r) := gs
    cases e1 : mg ds[i] sl with
    | none => rw [e1] at gs; exact gs.elim
    | some s1 =>
      rw [e1] at gs
      refine hg σ H1 F' O sl s1 x ds[i] _ re rx e1 fun σ1 re1 p1 _ => ?_
      refine hb σ1 H1 F' O s1 _ re1 ?_
      have gs : GS c μ ρ W F' H1 O σ1 E (match mb s1 with
        | .ok .nx s2 => forGo mg mb (ds.drop (i + 1)) s2
        | .ok .ct s2 => forGo mg mb (ds.drop (i + 1)) s2
        | .ok .bk s2 => .ok .nx s2
        | r => r) := GS.from (Stp.refl _ _ _) p1 gs
      revert gs
      cases e2 : mb s1 with
      | err => exact fun g => g
      | exc k fs s => exact fun g => g
      | ok fl s2 =>
        cases fl with
        | nx => exact fun g σ2 F2 H2 O2 st2 re2 p2 => ⟨hlt, F2, O2, s2, le.trans st2.ff, PH.keep hp le re1.fre st2 ph, re2, GS.from st2 p2 g⟩
        | ct => exact fun g σ2 F2 H2 O2 st2 re2 p2 => ⟨hlt, F2, O2, s2, le.trans st2.ff, PH.keep hp le re1.fre st2 ph, re2, GS.from st2 p2 g⟩
        | bk => exact fun g => g
        | rt d => exact fun g => g
  · have e : i = ds.length := by omega
    subst e
    rw [List.drop_length] at gs
    exact .inl ⟨w1 (Nat.le_refl _), gs σ F' H O (Stp.refl _ _ _) re (Pin.refl _ _)⟩
def mFor (mi : MA) (mg : MG) (mb : MS) : MS := fun sl => (mi sl).bind fun ds s => forGo mg mb ds s
theorem st_for {S : List Nat} {wi : TI} {mi : MA} {g : TG} {mg : MG} {tb : TS} {mb : MS} (hi : Evm (rW c) c μ W wi mi) (hg : EvG c μ S g mg) (hb : StM c μ ρ W tb mb) : StM c μ ρ W (tFor wi g tb) (mFor mi mg mb) := fun σ H F O sl E re gs =>
  hi σ H F O sl _ re (gx_of gs fun J ds F' H' O' sl' st re' wk g' => for_core hg hb re' wk trivial (fun _ _ e => nomatch e) g')
theorem xs_for {S : List Nat} {tg iter : Expr} {body : List Stmt} {wi : TI} {mi : MA} {g : TG} {mg : MG} {tb : TS} {mb : MS} {pos : Pos} (hp : PassesOwn (model X.prog X.w) X.A X.env X.xe) (hc : X.calm = true) (hi : XI X c μ W tg iter wi mi) (hg : XG X c μ S tg g mg) (hb : XSs X c μ ρ W body tb mb)
    (hs : ∀ x, foldedSetIterable iter X.env x = pure x := by intro _; rfl) : XS X c μ ρ W (.For tg iter body [] pos) (tFor wi g tb) (mFor mi mg mb) := ⟨ps_for hp hc hi.pi hg.pg hb.ps hs, st_for hi.ev hg.ev hb.ev⟩
end

/-! ### list comprehensions -/
def wipeS (s : Sl) : List Nat → Sl
  | [] => s
  | v :: vs => (wipeS s vs).set v none
def rest (vs : List Nat) (s0 s : Sl) : Sl := match vs with
  | [] => s
  | v :: vs => (rest vs s0 s).set v (s0.getD v none)
def lcGo (vs : List Nat) (mg : MG) (mt : MT) (me : ME) : List D → Sl → List D → R (List D)
  | [], s, acc => .ok acc s
  | d :: ds, s, acc => match mg d (wipeS s vs) with
    | none => .err
    | some s1 => match mt s1 with
      | .ok true s2 => (match me s2 with
        | .ok y s3 => lcGo vs mg mt me ds (rest vs s s3) (acc ++ [y])
        | _ => .err)
      | .ok false s2 => lcGo vs mg mt me ds (rest vs s s2) acc
      | _ => .err
def mLc (mi : MA) (vs : List Nat) (mg : MG) (mt : MT) (me : ME) : ME := fun sl => (mi sl).bind fun ds s => (lcGo vs mg mt me ds s []).bind fun ys s2 => .ok (.lst ys) s2
section
variable {c : CI} {X : Cx} {μ : Ms} {W : WX}
theorem Re.setN {F H : Hp} {σ : St} {sl : Sl} {O : Os} {i : Nat} (re : Re c μ F H σ sl O) (hm : mdOf μ i = .frz) : Re c μ F H (σ.set i none) (sl.set i none) O where
  ag := re.ag
  len := by rw [List.length_set, List.length_set]; exact re.len
  at_ := fun j e h => by
    by_cases q : i = j
    · subst q
      have hi : i < sl.length := by
        have := (List.getElem?_eq_some_iff.mp h).1
        rwa [List.length_set] at this
      rw [List.getElem?_set_self hi] at h
      cases h
    · rw [List.getElem?_set_ne q] at h ⊢
      exact re.at_ j e h
  emp := fun j h => by
    by_cases q : i = j
    · subst q
      by_cases z : ∃ d, sl[i]? = some (some d)
      · obtain ⟨d2, z⟩ := z
        obtain ⟨v, _, q⟩ := re.at_ i d2 z
        rw [hm] at q
        exact q.2
      · exact re.emp i fun d2 q => z ⟨d2, q⟩
    · exact re.emp j fun d h2 => h d (by rw [List.getElem?_set_ne q]; exact h2)
  dis := re.dis
  fre := re.fre
theorem Re.wipe {F H : Hp} {σ : St} {sl : Sl} {O : Os} (re : Re c μ F H σ sl O) : ∀ (vs : List Nat), (∀ i, i ∈ vs → mdOf μ i = .frz) → Re c μ F H (wipe σ vs) (wipeS sl vs) O
  | [], _ => re
  | v :: vs, h => (re.wipe vs fun i hi => h i (List.mem_cons_of_mem _ hi)).setN (h v List.mem_cons_self)
theorem rest_len (s0 s : Sl) : ∀ vs, (rest vs s0 s).length = s.length
  | [] => rfl
  | v :: vs => by
    show ((rest vs s0 s).set v _).length = s.length
    rw [List.length_set, rest_len s0 s vs]
theorem rest_out {s0 s : Sl} {j : Nat} : ∀ {vs : List Nat}, j ∉ vs → (rest vs s0 s)[j]? = s[j]?
  | [], _ => rfl
  | v :: vs, h => by
    show ((rest vs s0 s).set v _)[j]? = s[j]?
    rw [List.getElem?_set_ne (fun z => h (by rw [z]; exact List.mem_cons_self))]
    exact rest_out fun z => h (List.mem_cons_of_mem _ z)
theorem rest_in {s0 s : Sl} {j : Nat} (hl : s0.length = s.length) : ∀ {vs : List Nat}, j ∈ vs → (rest vs s0 s)[j]? = s0[j]?
  | v :: vs, h => by
    show ((rest vs s0 s).set v _)[j]? = s0[j]?
    by_cases q : v = j
    · subst q
      by_cases hv : v < s0.length
      · rw [List.getElem?_set_self (by rw [rest_len, ← hl]; exact hv)]
        rw [List.getD_eq_getElem?_getD, List.getElem?_eq_getElem hv]
        rfl
      · rw [List.getElem?_eq_none (by rw [List.length_set, rest_len, ← hl]; omega), List.getElem?_eq_none (by omega)]
    · rw [List.getElem?_set_ne q]
      rcases List.mem_cons.mp h with e | e
      · exact absurd e.symm q
      · exact rest_in hl e
/-- behind a turn: the comprehension's own names are as they were -/
theorem Re.rest {F0 H0 F H : Hp} {σ σ2 : St} {s s2 : Sl} {O0 O : Os} {vs : List Nat} (re0 : Re c μ F0 H0 σ s O0) (le : Le F0 F) (re : Re c μ F H σ2 s2 O) (hv : ∀ i, i ∈ vs → mdOf μ i = .frz) (hw : L2.wipe σ2 vs = L2.wipe σ vs) : Re c μ F H σ (MM.rest vs s s2) O := by
  have hl : σ2.length = σ.length := by
    have e := congrArg List.length hw
    rw [wipe_length, wipe_length] at e
    exact e
  have hs : s.length = s2.length := by rw [re0.len, re.len, hl]
  have frz0 : ∀ i, mdOf μ i = .frz → O i = [] := fun i hm => by
    by_cases z : ∃ d, s2[i]? = some (some d)
    · obtain ⟨d2, z⟩ := z
      obtain ⟨v, _, q⟩ := re.at_ i d2 z
      rw [hm] at q
      exact q.2
    · exact re.emp i fun d2 q => z ⟨d2, q⟩
  refine ⟨re.ag, by rw [rest_len, re.len, hl], fun j d h => ?_, fun j h => ?_, re.dis, re.fre⟩
  · by_cases q : j ∈ vs
    · rw [rest_in hs q] at h
      obtain ⟨v, h1, h2⟩ := re0.at_ j d h
      rw [hv j q] at h2 ⊢
      exact ⟨v, h1, h2.1.mono le, frz0 j (hv j q)⟩
    · rw [rest_out q] at h
      obtain ⟨v, h1, h2⟩ := re.at_ j d h
      refine ⟨v, ?_, h2⟩
      have e : (L2.wipe σ2 vs)[j]? = (L2.wipe σ vs)[j]? := by rw [hw]
      rw [wipe_out q, wipe_out q] at e
      rw [← e]
      exact h1
  · by_cases q : j ∈ vs
    · exact frz0 j (hv j q)
    · exact re.emp j fun d h2 => h d (by rw [rest_out q]; exact h2)
theorem wipe_same {σ1 σ : St} {vs : List Nat} (hl : σ1.length = σ.length) (h : ∀ j, j ∉ vs → σ1[j]? = σ[j]?) : L2.wipe σ1 vs = L2.wipe σ vs := by
  refine List.ext_getElem? fun j => ?_
  by_cases hj : j ∈ vs
  · have key : ∀ (τ : St) (us : List Nat), j ∈ us → (L2.wipe τ us)[j]? = if j < τ.length then some none else none := by
      intro τ us
      induction us with
      | nil => intro h; simp at h
      | cons v us ih =>
        intro h
        show ((L2.wipe τ us).set v none)[j]? = _
        by_cases e : v = j
        · subst e
          by_cases hv : v < τ.length
          · rw [List.getElem?_set_self (by rw [wipe_length]; exact hv), if_pos hv]
          · rw [if_neg hv, List.getElem?_eq_none (by rw [List.length_set, wipe_length]; omega)]
        · rw [List.getElem?_set_ne e]
          rcases List.mem_cons.mp h with z | z
          · exact absurd z.symm e
          · exact ih z
    rw [key σ1 vs hj, key σ vs hj, hl]
  · rw [wipe_out hj, wipe_out hj]
    exact h j hj
abbrev W0 : WX := fun _ _ _ _ => False
theorem evo_lc {S : List Nat} {p : Option (Addr × HO)} {J : It} {g : TG} {mg : MG} {tt : TT} {mt : MT} {te : TE} {me : ME} {vs : List Nat} (hv : ∀ i, i ∈ vs → mdOf μ i = .frz) (hS : ∀ i, i ∈ S → i ∈ vs)
    (hg : EvG c μ S g mg) (ht : EvT c μ W0 tt mt) (he : EvE c μ W0 te me) {σ : St} {F H F1 H1 : Hp} {O O1 : Os} {sl : Sl} {ds : List D} {Q : VK} (re : Re c μ F1 H1 σ sl O1) (wk : Wk c p F1 J ds) (ph : PH p H1) (hp : ∀ a o, p = some (a, o) → F1 a ≠ none)
    (st : Stp F H O F1 H1 O1) (gs : GO c μ W F H O σ Q ((lcGo vs mg mt me ds sl []).bind fun ys s2 => .ok (.lst ys) s2)) :
    ∀ Da, H1 Da = none → ∃ W : Nat → Nat → Hp → Prop, (∃ m, W 0 m (upd H1 Da (.lst []))) ∧ ∀ i m H, W i m H →
      (J.stop i H ∧ Q (.ref Da) H) ∨ (J.go i H ∧ ∃ Nx : Hp → Prop, (∀ H', Nx H' → ∃ m', m' < m ∧ W (i + 1) m' H') ∧ ∀ x H', J.yld i H x H' → g x (L2.wipe σ vs) H' fun σ2 H2 => L2.wipe σ2 vs = L2.wipe σ vs ∧ tt σ2 H2 fun b H3 =>
        if b = true then te σ2 H3 fun y H4 => ∃ acc, H4 Da = some (.lst acc) ∧ acc.length < sizeLine ∧ Nx (upd H4 Da (.lst (acc ++ [y]))) else Nx H3) := by
  intro Da hD
  refine ⟨fun i m H2 => m = ds.length - i ∧ i ≤ ds.length ∧ ∃ F2 O2 s acc accD, Le F1 F2 ∧ PH p H2 ∧ Re c μ F2 H2 σ s O2 ∧ H2 Da = some (.lst acc) ∧ F2 Da = none ∧ (∀ i, Da ∉ O2 i) ∧ Rps c F2 acc accD ∧ accD.length ≤ i ∧ Stp F H O F2 H2 O2 ∧
    GO c μ W F H O σ Q ((lcGo vs mg mt me (ds.drop i) s accD).bind fun ys s2 => .ok (.lst ys) s2), ⟨ds.length, by simp, Nat.zero_le _, F1, O1, sl, [], [], Le.refl _, ?_, re.addH _ hD, upd_same, re.ag.non hD, re.new hD, .nil, Nat.zero_le _, st.trans (Stp.addH _ hD), by rw [List.drop_zero]; exact gs⟩, ?_⟩
  · cases p with
    | none => trivial
    | some q =>
      obtain ⟨a, o⟩ := q
      show upd H1 Da (.lst []) a = some o
      rw [upd_ne (ne_of_none ph hD)]
      exact ph
  rintro i m H2 ⟨em, hi, F2, O2, s, acc, accD, le, ph2, re2, hDa, hFa, hOa, racc, hacc, st2, gs⟩
  obtain ⟨w1, w2⟩ := wk.2 F2 H2 le re2.ag ph2 i
  by_cases hlt : i < ds.length
  · obtain ⟨hgo, hy⟩ := w2 ds[i] (List.getElem?_eq_getElem hlt)
    refine .inr ⟨hgo, fun H3 => i + 1 ≤ ds.length ∧ ∃ F3 O3 s3 acc accD, Le F1 F3 ∧ PH p H3 ∧ Re c μ F3 H3 σ s3 O3 ∧ H3 Da = some (.lst acc) ∧ F3 Da = none ∧ (∀ i, Da ∉ O3 i) ∧ Rps c F3 acc accD ∧ accD.length ≤ i + 1 ∧ Stp F H O F3 H3 O3 ∧
      GO c μ W F H O σ Q ((lcGo vs mg mt me (ds.drop (i + 1)) s3 accD).bind fun ys s2 => .ok (.lst ys) s2),
      fun H3 ⟨h1, r⟩ => ⟨ds.length - (i + 1), by omega, rfl, h1, r⟩, fun x H3 y => ?_⟩
    obtain ⟨e, rx⟩ := hy x H3 y
    subst e
    rw [List.drop_eq_getElem_cons hlt] at gs
    have gs : GO c μ W F H O σ Q ((match mg ds[i] (wipeS s vs) with
      | none => R.err
      | some s1 => match mt s1 with
        | .ok true s2 => (match me s2 with
          | .ok y s3 => lcGo vs mg mt me (ds.drop (i + 1)) (rest vs s s3) (accD ++ [y])
          | _ => .err)
        | .ok false s2 => lcGo vs mg mt me (ds.drop (i + 1)) (rest vs s s2) accD
        | _ => .err).bind fun ys s2 => .ok (.lst ys) s2) := gs
    -- the new list through a step
    have thru : ∀ {F4 H4 : Hp} {O4 : Os}, Stp F2 H3 O2 F4 H4 O4 → H4 Da = some (.lst acc) ∧ F4 Da = none ∧ ∀ i, Da ∉ O4 i := fun {F4 H4 O4} s4 => by
      refine ⟨s4.kp _ _ hDa hOa, ?_, fun i hi => ?_⟩
      · cases q : F4 Da with
        | none => rfl
        | some u =>
          rcases s4.fo _ _ q with z | z | ⟨j, z⟩
          · rw [hFa] at z; cases z
          · rw [hDa] at z; cases z
          · exact absurd z (hOa j)
      · rcases s4.ow i _ hi with z | ⟨j, z⟩
        · rw [hDa] at z; cases z
        · exact hOa j z
    cases e1 : mg ds[i] (wipeS s vs) with
    | none => rw [e1] at gs; exact gs.elim
    | some s1 =>
      rw [e1] at gs
      dsimp only at gs
      refine hg _ H3 F2 O2 (wipeS s vs) s1 x ds[i] _ (re2.wipe vs hv) rx e1 fun σ1 re3 p1 o1 => ?_
      -- σ1 is the wiped frame with the target stored
      have hl1 : σ1.length = σ.length := by
        rw [o1.1, wipe_length]
      have hσ : L2.wipe σ1 vs = L2.wipe σ vs := wipe_same hl1 fun j hj => by
        rw [o1.2 j fun z => hj (hS j z), wipe_out hj]
      refine ⟨hσ, ?_⟩
      · refine ht σ1 H3 F2 O2 s1 _ re3 ?_
        cases e2 : mt s1 with
        | err => rw [e2] at gs; exact gs.elim
        | exc k fs s => rw [e2] at gs; exact gs.elim
        | ok b s2 =>
          intro b' F4 H4 O4 st4 re4 eb
          have eb' : b' = b := eb
          subst eb'
          rw [e2] at gs
          cases b' with
          | false =>
            rw [if_neg Bool.false_ne_true]
            obtain ⟨t1, t2, t3⟩ := thru st4
            exact ⟨hlt, F4, O4, rest vs s s2, acc, accD, le.trans st4.ff, PH.keep hp le re3.fre st4 ph2, re2.rest st4.ff re4 hv hσ, t1, t2, t3, racc.mono st4.ff, Nat.le_succ_of_le hacc, st2.trans st4, gs⟩
          | true =>
            rw [if_pos rfl]
            refine he σ1 H4 F4 O4 s2 _ re4 ?_
            cases e3 : me s2 with
            | err => (try dsimp only at gs); rw [e3] at gs; exact gs.elim
            | exc k fs s => (try dsimp only at gs); rw [e3] at gs; exact gs.elim
            | ok y s3 =>
              intro v F5 H5 O5 st5 re5 rv
              (try dsimp only at gs)
              rw [e3] at gs
              have st45 := st4.trans st5
              obtain ⟨t1, t2, t3⟩ := thru st45
              have hz : acc.length = accD.length := racc.length
              have hlt2 : accD.length < LB := Nat.lt_of_le_of_lt hacc (Nat.lt_of_lt_of_le hlt wk.1)
              have re6 : Re c μ F5 H5 σ (rest vs s s3) O5 := re2.rest st45.ff re5 hv hσ
              have own : ∀ b, b ≠ Da → upd H5 Da (.lst (acc ++ [v])) b = H5 b := fun b hb => upd_ne hb
              have ne : ∀ i a, a ∈ O5 i → a ≠ Da := fun i a ha z => t3 i (by rw [← z]; exact ha)
              refine ⟨acc, t1, by rw [hz]; exact LB_line (Nat.le_of_lt hlt2), hlt, F5, O5, rest vs s s3, acc ++ [v], accD ++ [y], le.trans st45.ff, ?_, ?_, upd_same, t2, t3, (racc.mono st45.ff).append (.cons rv .nil), by rw [List.length_append]; simpa using hacc, ?_, gs⟩
              · have h5 := PH.keep hp le re3.fre st45 ph2
                cases p with
                | none => trivial
                | some q =>
                  obtain ⟨a, o⟩ := q
                  have e5 : H5 a = some o := h5
                  show upd H5 Da (.lst (acc ++ [v])) a = some o
                  rw [upd_ne]
                  · exact e5
                  · rintro rfl
                    have n1 := hp _ o rfl
                    cases q1 : F1 a with
                    | none => exact n1 q1
                    | some u =>
                      rw [(le.trans st45.ff) a u q1] at t2
                      cases t2
              · exact re6.mono (Le.refl _) (fun b u e => by
                  have nb : b ≠ Da := fun z => by rw [z, t2] at e; cases e
                  rcases re6.ag b u e with q | ⟨lk, kvs, ob, q1, q2⟩
                  · exact .inl (by rw [own b nb]; exact q)
                  · exact .inr ⟨lk, kvs, ob, q1, by rw [own b nb]; exact q2⟩) (fun i a ha o q => by rw [own a (ne i a ha)]; exact q) re6.fre
              · -- the list is new since the start: changing it is no change of what stood
                have st5' := st2.trans st45
                have nH : H Da = none := st.al _ hD
                refine ⟨st5'.ff, fun b o q n => ?_, st5'.fo, st5'.ow, fun a q => st5'.al a (upd_al a q), st5'.pk⟩
                rw [own b (fun z => by rw [z, nH] at q; cases q)]
                exact st5'.kp b o q n
  · have e : i = ds.length := by omega
    subst e
    rw [List.drop_length] at gs
    refine .inl ⟨w1 (Nat.le_refl _), ?_⟩
    have gs : GO c μ W F H O σ Q (.ok (.lst accD) s) := gs
    exact gs (.ref Da) F2 H2 O2 [Da] st2 re2 (.one (.lst hDa (Nat.le_trans hacc wk.1) racc)) fun a ha => by
      have e : a = Da := by simpa using ha
      subst e
      exact ⟨hFa, hOa, st.al _ hD⟩
end
end MM

set_option Elab.async false
set_option linter.all false
set_option maxRecDepth 100000
set_option maxHeartbeats 2000000
/-! The value layer, part g: comprehensions as expressions, lent and moved things, places. -/
namespace MM
open PySem PySem.Spec PyProof.Rows L2

section
variable {c : CI} {X : Cx} {μ : Ms} {ρ : Bool} {W : WX}
structure XTs (X : Cx) (c : CI) (μ : Ms) (W : WX) (ifs : List Expr) (t : TT) (m : MT) : Prop where
  pts : PTs X ifs t
  ev : EvT c μ W t m
def mYes : MT := fun sl => .ok true sl
theorem xts_nil : XTs X c μ W [] tYes mYes := ⟨pts_nil, fun σ H F O sl Q re g => g true F H O (Stp.refl _ _ _) re rfl⟩
theorem xts_one {e : Expr} {t : TT} {m : MT} (h : XT X c μ W e t m) : XTs X c μ W [e] t m := ⟨pts_one h.pt, h.ev⟩
theorem evo_lcI {S : List Nat} {wi : TI} {mi : MA} {g : TG} {mg : MG} {tt : TT} {mt : MT} {te : TE} {me : ME} {vs : List Nat} (hi : Evm (rW c) c μ W wi mi) (hv : ∀ i, i ∈ vs → mdOf μ i = .frz) (hS : ∀ i, i ∈ S → i ∈ vs)
    (hg : EvG c μ S g mg) (ht : EvT c μ W0 tt mt) (he : EvE c μ W0 te me) : EvO c μ W (tLc wi g tt te vs) (mLc mi vs mg mt me) := by
  intro σ H F O sl Q re gs
  refine hi σ H F O sl _ re ?_
  have gs : GO c μ W F H O σ Q ((mi sl).bind fun ds s => (lcGo vs mg mt me ds s []).bind fun ys s2 => .ok (.lst ys) s2) := gs
  revert gs
  cases e : mi sl with
  | err => exact fun g => g
  | exc k fs s => exact fun g => g
  | ok ds s => exact fun gs J F' H' O' st re' wk => evo_lc hv hS hg ht he re' wk trivial (fun _ _ e => nomatch e) st gs
theorem xn_lc {S : List Nat} {elt tg iter : Expr} {ifs : List Expr} {scope : Scope} (own : List (Str × Nat)) {vs : List Nat} {pos : Pos} {wi : TI} {mi : MA} {g : TG} {mg : MG} {tt : TT} {mt : MT} {te : TE} {me : ME} (hc : X.calm = true) (hN : X.N.Nodup) (hi : XI X c μ W tg iter wi mi) (ok : BlkOk X.N X.env.scope scope own)
    (hg : ∀ (s : Shared) (H : Hp) (C : Addr) (cl : List (Str × Addr)) (fp : List Addr), XG (X.blk s H scope (compEnvC scope cl C X.env) fp) c μ S tg g mg)
    (ht : ∀ (s : Shared) (H : Hp) (C : Addr) (cl : List (Str × Addr)) (fp : List Addr), XTs (X.blk s H scope (compEnvC scope cl C X.env) fp) c μ W0 ifs tt mt)
    (he : ∀ (s : Shared) (H : Hp) (C : Addr) (cl : List (Str × Addr)) (fp : List Addr), XE (X.blk s H scope (compEnvC scope cl C X.env) fp) c μ W0 elt te me)
    (hv : ∀ i, i ∈ vs → mdOf μ i = .frz := by decide) (hS : ∀ i, i ∈ S → i ∈ vs := by decide) (hs : ∀ x, foldedSetIterable iter X.env x = pure x := by intro _; rfl) (hvs : own.map (·.2) = vs := by rfl) :
    XN X c μ W (.ListComp elt [⟨tg, iter, ifs, 0⟩] scope pos) (tLc wi g tt te vs) (mLc mi vs mg mt me) := by
  subst hvs
  exact ⟨pe_lc hc hN hi.pi ok (fun s H C cl fp => (hg s H C cl fp).pg) (fun s H C cl fp => (ht s H C cl fp).pts) (fun s H C cl fp => (he s H C cl fp).pe) hs, by
    have h0 : (fun _ _ => (none : Option HO)) = (fun (_ : Nat) (_ : Nat) => (none : Option HO)) := rfl
    exact evo_lcI hi.ev hv hS (hg X.s_0 X.H_0 0 [] []).ev (ht X.s_0 X.H_0 0 [] []).ev (he X.s_0 X.H_0 0 [] []).ev⟩
/-- name = [..], frozen; owned -/
theorem xs_setLc {S : List Nat} (i : Nat) {y : Str} {py : Pos} {elt tg iter : Expr} {ifs : List Expr} {scope : Scope} (own : List (Str × Nat)) {vs : List Nat} {pos spos : Pos} {wi : TI} {mi : MA} {g : TG} {mg : MG} {tt : TT} {mt : MT} {te : TE} {me : ME} (hc : X.calm = true) (hN : X.N.Nodup)
    (hsw : swapsWith (.ListComp elt [⟨tg, iter, ifs, 0⟩] scope pos) (some (.Name y py)) spos.line X.env = pure true) (hi : XI X c μ W tg iter wi mi) (ok : BlkOk X.N X.env.scope scope own)
    (hg : ∀ (s : Shared) (H : Hp) (C : Addr) (cl : List (Str × Addr)) (fp : List Addr), XG (X.blk s H scope (compEnvC scope cl C X.env) fp) c μ S tg g mg)
    (ht : ∀ (s : Shared) (H : Hp) (C : Addr) (cl : List (Str × Addr)) (fp : List Addr), XTs (X.blk s H scope (compEnvC scope cl C X.env) fp) c μ W0 ifs tt mt)
    (he : ∀ (s : Shared) (H : Hp) (C : Addr) (cl : List (Str × Addr)) (fp : List Addr), XE (X.blk s H scope (compEnvC scope cl C X.env) fp) c μ W0 elt te me)
    (hm : mdOf μ i = .frz := by rfl) (hy : X.N[i]? = some y := by rfl) (hyl : X.env.scope.names.lookup y = some .local := by rfl)
    (hv : ∀ i, i ∈ vs → mdOf μ i = .frz := by decide) (hS : ∀ i, i ∈ S → i ∈ vs := by decide) (hs : ∀ x, foldedSetIterable iter X.env x = pure x := by intro _; rfl) (hvs : own.map (·.2) = vs := by rfl) :
    XS X c μ ρ W (.Assign [.Name y py] (.ListComp elt [⟨tg, iter, ifs, 0⟩] scope pos) spos) (tAsg (tLc wi g tt te vs) (gName i)) (mAsg (mFz (mLc mi vs mg mt me)) (gmName i)) := by
  subst hvs
  exact ⟨ps_setLc hc hN hy hyl hsw hi.pi ok (fun s H C cl fp => (hg s H C cl fp).pg) (fun s H C cl fp => (ht s H C cl fp).pts) (fun s H C cl fp => (he s H C cl fp).pe) hs,
    st_asg (ev_fz (evo_lcI hi.ev hv hS (hg X.s_0 X.H_0 0 [] []).ev (ht X.s_0 X.H_0 0 [] []).ev (he X.s_0 X.H_0 0 [] []).ev)) (ev_name hm)⟩
theorem xs_setLcO {S : List Nat} (i : Nat) {y : Str} {py : Pos} {elt tg iter : Expr} {ifs : List Expr} {scope : Scope} (own : List (Str × Nat)) {vs : List Nat} {pos spos : Pos} {wi : TI} {mi : MA} {g : TG} {mg : MG} {tt : TT} {mt : MT} {te : TE} {me : ME} (hc : X.calm = true) (hN : X.N.Nodup)
    (hsw : swapsWith (.ListComp elt [⟨tg, iter, ifs, 0⟩] scope pos) (some (.Name y py)) spos.line X.env = pure true) (hi : XI X c μ W tg iter wi mi) (ok : BlkOk X.N X.env.scope scope own)
    (hg : ∀ (s : Shared) (H : Hp) (C : Addr) (cl : List (Str × Addr)) (fp : List Addr), XG (X.blk s H scope (compEnvC scope cl C X.env) fp) c μ S tg g mg)
    (ht : ∀ (s : Shared) (H : Hp) (C : Addr) (cl : List (Str × Addr)) (fp : List Addr), XTs (X.blk s H scope (compEnvC scope cl C X.env) fp) c μ W0 ifs tt mt)
    (he : ∀ (s : Shared) (H : Hp) (C : Addr) (cl : List (Str × Addr)) (fp : List Addr), XE (X.blk s H scope (compEnvC scope cl C X.env) fp) c μ W0 elt te me)
    (hm : mdOf μ i = .own := by rfl) (hy : X.N[i]? = some y := by rfl) (hyl : X.env.scope.names.lookup y = some .local := by rfl)
    (hv : ∀ i, i ∈ vs → mdOf μ i = .frz := by decide) (hS : ∀ i, i ∈ S → i ∈ vs := by decide) (hs : ∀ x, foldedSetIterable iter X.env x = pure x := by intro _; rfl) (hvs : own.map (·.2) = vs := by rfl) :
    XS X c μ ρ W (.Assign [.Name y py] (.ListComp elt [⟨tg, iter, ifs, 0⟩] scope pos) spos) (tAsg (tLc wi g tt te vs) (gName i)) (mSetO (mLc mi vs mg mt me) i) := by
  subst hvs
  exact ⟨ps_setLc hc hN hy hyl hsw hi.pi ok (fun s H C cl fp => (hg s H C cl fp).pg) (fun s H C cl fp => (ht s H C cl fp).pts) (fun s H C cl fp => (he s H C cl fp).pe) hs,
    st_setO hm (evo_lcI hi.ev hv hS (hg X.s_0 X.H_0 0 [] []).ev (ht X.s_0 X.H_0 0 [] []).ev (he X.s_0 X.H_0 0 [] []).ev)⟩

/-! ### fields of frozen instances -/
theorem lookup_at : ∀ {fs : List (Str × V)} {j : Nat} {f : Str}, (fs.map (·.1)).Nodup → (fs.map (·.1))[j]? = some f → fs.lookup f = (fs.map (·.2))[j]?
  | [], j, f, _, h => by simp at h
  | (g, v) :: r, 0, f, nd, h => by
    have e : g = f := by simpa using h
    subst e
    simp [List.lookup]
  | (g, v) :: r, j + 1, f, nd, h => by
    have h2 : (r.map (·.1))[j]? = some f := by simpa using h
    have nd2 := List.nodup_cons.mp (show (g :: r.map (·.1)).Nodup from nd)
    have hb : (f == g) = false := beq_eq_false_iff_ne.mpr fun z => nd2.1 (by rw [← z]; exact List.mem_of_getElem? h2)
    have ih := lookup_at (fs := r) nd2.2 h2
    simp only [List.lookup, hb]
    rw [ih]
    simp
theorem fld_at {k j n : Nat} {f : Str} {fs : List (Str × V)} (hn : fs.map (·.1) = (c.nm k).take n) (nd : (c.nm k).Nodup) (hf : (c.nm k)[j]? = some f) (hj : j < n) : fs.lookup f = (fs.map (·.2))[j]? := by
  refine lookup_at (by rw [hn]; exact (List.take_sublist n _).nodup nd) ?_
  rw [hn, List.getElem?_take_of_lt hj]
  exact hf
def dFld (k j : Nat) : D → Option D
  | .ins k' ds => if k' = k then ds[j]? else none
  | _ => none
def mFld (k j : Nat) (m : ME) : ME := fun sl => (m sl).bind fun d s => R.ofO (dFld k j d) s
theorem ev_fld {K : PySem.W.Frag} {k j : Nat} {f : Str} {te : TE} {m : ME} (cl : Cls K (c.C k)) (na : NoAttr K (c.C k) f) (nd : (c.nm k).Nodup) (hf : (c.nm k)[j]? = some f) (h : EvE c μ W te m) : EvE c μ W (tFld K te f) (mFld k j m) := by
  refine Evm.bind (κ := fun x σ H1 (Q : VK) => ∃ a C dx fs v, x = .ref a ∧ H1 a = some (.ins C dx fs) ∧ Cls K C ∧ NoAttr K C f ∧ fs.lookup f = some v ∧ Q v H1) h fun σ H F O sl x d Q re rx g => ?_
  cases rx with
  | @ins a dx k' fs vs ds h1 h2 h3 r =>
    have g2 : GX (rD c) c μ W F H O σ Q (R.ofO (if k' = k then ds[j]? else none) sl) := g
    clear g
    by_cases ek : k' = k
    · rw [if_pos ek] at g2
      subst ek
      cases ed : ds[j]? with
      | none => rw [ed] at g2; exact g2.elim
      | some d =>
        rw [ed] at g2
        obtain ⟨v, e1, e2⟩ := r.get ed
        refine ⟨a, _, dx, fs, v, rfl, re.ag.ins h1, cl, na, ?_, g2 v F H O (Stp.refl _ _ _) re e2⟩
        rw [fld_at h2 nd hf (List.getElem?_eq_some_iff.mp ed).1, ← h3]
        exact e1
    · rw [if_neg ek] at g2
      exact g2.elim
  | _ => exact g.elim
theorem xe_fld {k j : Nat} {f : Str} {o : Expr} {te : TE} {m : ME} {pos : Pos} (cl : Cls X.K (c.C k)) (na : NoAttr X.K (c.C k) f) (nd : (c.nm k).Nodup) (hf : (c.nm k)[j]? = some f) (h : XE X c μ W o te m) (hb : attributeBase o f X.env (eval o X.env) = eval o X.env := by rfl) :
    XE X c μ W (.Attribute o f pos) (tFld X.K te f) (mFld k j m) := ⟨pe_fld h.pe hb, ev_fld cl na nd hf h.ev⟩
/-! .. frozen fields of an owned instance in slot i -/
theorem OwF.getF {F H : Hp} : ∀ {m : List Bool} {vs : List V} {ds : List D} {O : List Addr} {j : Nat} {d : D}, OwF c F H m vs ds O → m[j]? = some false → ds[j]? = some d → ∃ v, vs[j]? = some v ∧ Rp c F v d
  | _, _, _, _, j, _, .nil m, _, e => by simp at e
  | _, _, _, _, 0, _, .frz r t, _, e => by
    simp at e
    subst e
    exact ⟨_, rfl, r⟩
  | _, _, _, _, j + 1, _, .frz r t, h, e => by
    obtain ⟨v, h1, h2⟩ := t.getF (j := j) (by simpa using h) (by simpa using e)
    exact ⟨v, by simpa using h1, h2⟩
  | _, _, _, _, 0, _, .own r t, h, _ => by simp at h
  | _, _, _, _, j + 1, _, .own r t, h, e => by
    obtain ⟨v, h1, h2⟩ := t.getF (j := j) (by simpa using h) (by simpa using e)
    exact ⟨v, by simpa using h1, h2⟩
/-- an owned slot's thing -/
theorem Re.own {F H : Hp} {σ : St} {sl : Sl} {O : Os} {i : Nat} {d : D} (re : Re c μ F H σ sl O) (hm : mdOf μ i = .own ∨ mdOf μ i = .pin) (h : sl[i]? = some (some d)) : ∃ v, σ[i]? = some (some v) ∧ Ow c c.md F H v d (O i) := by
  obtain ⟨v, h1, h2⟩ := re.at_ i d h
  refine ⟨v, h1, ?_⟩
  rcases hm with e | e <;> (rw [e] at h2; exact h2)
def mFldO (i k j : Nat) : ME := fun sl => match sl[i]? with
  | some (some d) => R.ofO (dFld k j d) sl
  | _ => .err
theorem ev_fldO {K : PySem.W.Frag} {i k j : Nat} {f : Str} (hm : mdOf μ i = .own ∨ mdOf μ i = .pin) (hj : (c.md k)[j]? = some false) (cl : Cls K (c.C k)) (na : NoAttr K (c.C k) f) (nd : (c.nm k).Nodup) (hf : (c.nm k)[j]? = some f) : EvE c μ W (tFld K (tVar i) f) (mFldO i k j) := by
  intro σ H F O sl Q re g
  unfold mFldO at g
  split at g
  · rename_i d e
    obtain ⟨v, h1, ow⟩ := re.own hm e
    generalize O i = L at ow
    cases ow with
    | one h => cases h <;> exact g.elim
    | @ins a dx k' fs ds O1 h2 h3 h4 r nd' =>
      have g2 : GX (rD c) c μ W F H O σ Q (R.ofO (if k' = k then ds[j]? else none) sl) := g
      clear g
      by_cases ek : k' = k
      · rw [if_pos ek] at g2
        subst ek
        cases ed : ds[j]? with
        | none => rw [ed] at g2; exact g2.elim
        | some d =>
          rw [ed] at g2
          obtain ⟨v, e1, e2⟩ := r.getF hj ed
          refine ⟨_, h1, a, _, dx, fs, v, rfl, h2, cl, na, ?_, g2 v F H O (Stp.refl _ _ _) re e2⟩
          rw [fld_at h4 nd hf (List.getElem?_eq_some_iff.mp ed).1]
          exact e1
      · rw [if_neg ek] at g2
        exact g2.elim
  · exact g.elim
theorem xe_fldO (i : Nat) {k j : Nat} {x f : Str} {p pos : Pos} (cl : Cls X.K (c.C k)) (na : NoAttr X.K (c.C k) f) (nd : (c.nm k).Nodup) (hf : (c.nm k)[j]? = some f) (hj : (c.md k)[j]? = some false) (hm : mdOf μ i = .own ∨ mdOf μ i = .pin := by decide)
    (hN : X.N[i]? = some x := by rfl) (hv : Vis X.env.scope x := by first | exact Or.inl rfl | exact Or.inr (Or.inl rfl) | exact Or.inr (Or.inr rfl)) (hd : (x == ("__debug__" : Str)) = false := by decide) (hcd : (x == ("__classdict__" : Str)) = false := by decide)
    (hb : attributeBase (.Name x p) f X.env (eval (.Name x p) X.env) = eval (.Name x p) X.env := by rfl) : XE X c μ W (.Attribute (.Name x p) f pos) (tFld X.K (tVar i) f) (mFldO i k j) := ⟨pe_fld (pe_var hN hv hd hcd) hb, ev_fldO hm hj cl na nd hf⟩

/-! ### lent: the owned thing of slot i is frozen while an expression is evaluated that changes nothing owned; the answer is no list -/
mutual
def flatT : D → Bool
  | .non | .bl _ | .int _ | .str _ => true
  | .tup ds => flatTs ds
  | _ => false
def flatTs : List D → Bool
  | [] => true
  | d :: ds => flatT d && flatTs ds
end
mutual
theorem flatT_rep {F F' H' : Hp} {lk : Option Addr} (ag : Ag lk F H') (k : ∀ a vs, H' a = some (.tup vs) → F a = some (.tup vs) → F' a = some (.tup vs)) : ∀ {v : V} {d : D}, Rp c F v d → flatT d = true → Rp c F' v d
  | _, _, .non, _ => .non
  | _, _, .bl b, _ => .bl b
  | _, _, .int i, _ => .int i
  | _, _, .str l h, _ => .str l h
  | _, _, .tup h z r, e => .tup (k _ _ (ag.tup h) h) z (flatTs_rep ag k r (by simpa [flatT] using e))
  | _, _, .lst _ _ _, e => by simp [flatT] at e
  | _, _, .dic _ _ _ _ _ _, e => by simp [flatT] at e
  | _, _, .ins _ _ _ _, e => by simp [flatT] at e
  | _, _, .scr _ _, e => by simp [flatT] at e
theorem flatTs_rep {F F' H' : Hp} {lk : Option Addr} (ag : Ag lk F H') (k : ∀ a vs, H' a = some (.tup vs) → F a = some (.tup vs) → F' a = some (.tup vs)) : ∀ {vs : List V} {ds : List D}, Rps c F vs ds → flatTs ds = true → Rps c F' vs ds
  | _, _, .nil, _ => .nil
  | _, _, .cons r t, e => by
    simp [flatTs] at e
    exact .cons (flatT_rep ag k r e.1) (flatTs_rep ag k t e.2)
end
/-- owned slots but i are hidden -/
def mskFrom (μ : Ms) (i : Nat) : Nat → Sl → Sl
  | _, [] => []
  | n, x :: r => (if mdOf μ n = .frz ∨ n = i then x else none) :: mskFrom μ i (n + 1) r
theorem msk_get (μ : Ms) (i : Nat) : ∀ (sl : Sl) (n j : Nat), (mskFrom μ i n sl)[j]? = (sl[j]?).map fun x => if mdOf μ (n + j) = .frz ∨ n + j = i then x else none
  | [], n, j => by simp [mskFrom]
  | x :: r, n, 0 => by simp [mskFrom]
  | x :: r, n, j + 1 => by
    have ih := msk_get μ i r (n + 1) j
    rw [show n + 1 + j = n + (j + 1) by omega] at ih
    simpa [mskFrom] using ih
theorem msk_len (μ : Ms) (i : Nat) : ∀ (sl : Sl) (n : Nat), (mskFrom μ i n sl).length = sl.length
  | [], n => rfl
  | x :: r, n => congrArg (· + 1) (msk_len μ i r (n + 1))
/-- F with what O i owns, as it stands in H -/
def plus (F H : Hp) (L : List Addr) : Hp := fun b => if b ∈ L then H b else F b
theorem OwF.lent {F H F' : Hp} (le : Le F F') : ∀ {m : List Bool} {vs : List V} {ds : List D} {O : List Addr}, OwF c F H m vs ds O → (∀ b, b ∈ O → F' b = H b) → Rps c F' vs ds
  | _, _, _, _, .nil _, _ => .nil
  | _, _, _, _, .frz r t, h => .cons (r.mono le) (t.lent le h)
  | _, _, _, _, .own r t, h => by
    obtain ⟨o, e, q⟩ := r.freeze
    exact .cons (q F' le (by rw [h _ List.mem_cons_self]; exact e)) (t.lent le fun b hb => h b (List.mem_cons_of_mem _ hb))
theorem Ow.lent {md : Nat → List Bool} {F H F' : Hp} {v : V} {d : D} {O : List Addr} (le : Le F F') (h : Ow c md F H v d O) (hl : ∀ b, b ∈ O → F' b = H b) : Rp c F' v d := by
  cases h with
  | one h =>
    obtain ⟨o, e, q⟩ := h.freeze
    exact q F' le (by rw [hl _ (by simp)]; exact e)
  | ins h1 h2 h3 r nd => exact .ins (by rw [hl _ (by simp)]; exact h1) h3 rfl (r.lent le fun b hb => hl b (by simp [hb]))
theorem mdOf_set {μ : Ms} {i j : Nat} (hi : i < μ.length) : mdOf (μ.set i .frz) j = if j = i then .frz else mdOf μ j := by
  unfold mdOf
  rw [List.getD_eq_getElem?_getD, List.getD_eq_getElem?_getD]
  by_cases h : j = i
  · subst h
    rw [if_pos rfl, List.getElem?_set_self hi]
    rfl
  · rw [if_neg h, List.getElem?_set_ne (Ne.symm h)]
theorem Re.lent {F H : Hp} {σ : St} {sl : Sl} {O : Os} {i : Nat} {d : D} (re : Re c μ F H σ sl O) (hi : i < μ.length) (hm : mdOf μ i = .own ∨ mdOf μ i = .pin) (h : sl[i]? = some (some d)) :
    Re c (μ.set i .frz) (plus F H (O i)) H σ (mskFrom μ i 0 sl) (fun _ => []) := by
  obtain ⟨v, h1, ow⟩ := re.own hm h
  have le : Le F (plus F H (O i)) := fun a o e => by
    unfold plus
    rw [if_neg fun z => by rw [re.fre i a z] at e; cases e]
    exact e
  refine ⟨fun a o e => ?_, by rw [msk_len]; exact re.len, fun j d' e => ?_, fun _ _ => rfl, fun _ _ _ z => (nomatch z), fun _ _ z => (nomatch z)⟩
  · unfold plus at e
    split at e
    · exact .inl e
    · exact re.ag a o e
  · rw [msk_get, Nat.zero_add] at e
    cases es : sl[j]? with
    | none => rw [es] at e; cases e
    | some x =>
      rw [es] at e
      have e : (if mdOf μ j = .frz ∨ j = i then x else none) = some d' := Option.some.inj e
      rw [mdOf_set hi]
      by_cases hj : j = i
      · subst hj
        rw [if_pos (.inr rfl)] at e
        subst e
        rw [h] at es
        cases es
        rw [if_pos rfl]
        exact ⟨v, h1, ow.lent le (fun b hb => by unfold plus; rw [if_pos hb]), rfl⟩
      · by_cases hf : mdOf μ j = .frz
        · rw [if_pos (.inl hf)] at e
          subst e
          obtain ⟨v2, h2, h3⟩ := re.at_ j d' es
          rw [hf] at h3
          rw [if_neg hj, hf]
          exact ⟨v2, h2, h3.1.mono le, rfl⟩
        · rw [if_neg (by rintro (z | z); exact hf z; exact hj z)] at e
          cases e
open Classical in
/-- behind it: what was lent is owned again -/
theorem Re.back {F H F' H' : Hp} {σ : St} {sl : Sl} {O O' : Os} {i : Nat} (re : Re c μ F H σ sl O) (st : Stp (plus F H (O i)) H (fun _ => []) F' H' O') (ag : Ag c.lk F' H') :
    Re c μ (fun b => if ∃ j, b ∈ O j then none else F' b) H' σ sl O ∧ Stp F H O (fun b => if ∃ j, b ∈ O j then none else F' b) H' O := by
  have le : Le F (fun b => if ∃ j, b ∈ O j then none else F' b) := fun a o e => by
    have n : ¬ ∃ j, a ∈ O j := fun ⟨j, hj⟩ => by rw [re.fre j a hj] at e; cases e
    show (if ∃ j, a ∈ O j then none else F' a) = some o
    rw [if_neg n]
    refine st.ff a o ?_
    unfold plus
    rw [if_neg fun z => n ⟨i, z⟩]
    exact e
  have kp : ∀ a o, H a = some o → H' a = some o := fun a o e => st.kp a o e fun j hj => nomatch hj
  refine ⟨re.mono le (fun a o e => ?_) (fun j a _ o e => kp a o e) (fun j a h => ?_), le, fun a o e _ => kp a o e, fun a o e => ?_, fun j a h => .inr ⟨j, h⟩, st.al, fun _ => pk_refl _⟩
  · have e : (if ∃ j, a ∈ O j then none else F' a) = some o := e
    split at e
    · cases e
    · exact ag a o e
  · show (if ∃ j, a ∈ O j then none else F' a) = none
    rw [if_pos ⟨j, h⟩]
  · have e : (if ∃ j, a ∈ O j then none else F' a) = some o := e
    split at e
    · cases e
    · rename_i n
      rcases st.fo a o e with z | z | ⟨j, z⟩
      · unfold plus at z
        rw [if_neg fun y => n ⟨i, y⟩] at z
        exact .inl z
      · exact .inr (.inl z)
      · exact nomatch z
def mBor (μ : Ms) (i : Nat) (m : ME) : ME := fun sl => match sl[i]? with
  | some (some _) => (match m (mskFrom μ i 0 sl) with
    | .ok d _ => if flatT d = true then .ok d sl else .err
    | _ => .err)
  | _ => .err
theorem notTup {F H H' : Hp} {σ : St} {sl : Sl} {O : Os} (re : Re c μ F H σ sl O) (kp : ∀ a o, H a = some o → H' a = some o) {j : Nat} {a : Addr} {vs : List V} (ha : a ∈ O j) (h : H' a = some (.tup vs)) : False := by
  have key : ∀ {m : List Bool} {us : List V} {ds : List D} {L : List Addr}, OwF c F H m us ds L → a ∈ L → ∃ o, H a = some o ∧ ∀ vs, o ≠ .tup vs := by
    intro m us ds L ow
    induction ow with
    | nil => intro h; simp at h
    | frz _ _ ih => exact ih
    | own r _ ih =>
      intro h
      rcases List.mem_cons.mp h with e | e
      · subst e
        cases r with
        | lst h _ _ => exact ⟨_, h, fun _ z => nomatch z⟩
        | dic h _ _ _ => exact ⟨_, h, fun _ z => nomatch z⟩
      · exact ih e
  have key2 : ∃ o, H a = some o ∧ ∀ vs, o ≠ .tup vs := by
    by_cases z : ∃ d, sl[j]? = some (some d)
    · obtain ⟨d, z⟩ := z
      obtain ⟨v, _, q⟩ := re.at_ j d z
      have ow : ∃ md, Ow c md F H v d (O j) := by
        generalize O j = L at q ha
        revert q
        cases mdOf μ j with
        | frz => intro q; rw [q.2] at ha; simp at ha
        | own => exact fun q => ⟨_, q⟩
        | pin => exact fun q => ⟨_, q⟩
        | bor j => exact fun q => ⟨_, q⟩
      obtain ⟨md, ow⟩ := ow
      generalize O j = L at ow ha
      cases ow with
      | one r =>
        have e := List.mem_singleton.mp ha
        subst e
        cases r with
        | lst h _ _ => exact ⟨_, h, fun _ z => nomatch z⟩
        | dic h _ _ _ => exact ⟨_, h, fun _ z => nomatch z⟩
      | ins h1 h2 h3 r nd =>
        rcases List.mem_cons.mp ha with e | ha
        · subst e; exact ⟨_, h1, fun _ z => nomatch z⟩
        · rcases List.mem_cons.mp ha with e | ha
          · subst e; exact ⟨_, h2, fun _ z => nomatch z⟩
          · exact key r ha
    · rw [re.emp j fun d q => z ⟨d, q⟩] at ha
      simp at ha
  obtain ⟨o, e, n⟩ := key2
  rw [kp a o e] at h
  exact n vs (Option.some.inj h)
theorem ev_bor {i : Nat} {t : TE} {m : ME} (hi : i < μ.length) (hm : mdOf μ i = .own ∨ mdOf μ i = .pin) (h : EvE c (μ.set i .frz) W0 t m) : EvE c μ W t (mBor μ i m) := by
  intro σ H F O sl Q re g
  unfold mBor at g
  split at g
  · rename_i d0 e0
    refine h σ H _ _ _ Q (re.lent hi hm e0) ?_
    cases e : m (mskFrom μ i 0 sl) with
    | err => rw [e] at g; exact g.elim
    | exc k fs s => rw [e] at g; exact g.elim
    | ok d s =>
      rw [e] at g
      dsimp only at g
      by_cases hf : flatT d = true
      · rw [if_pos hf] at g
        intro v F' H' O' st re' rv
        obtain ⟨re2, st2⟩ := re.back st re'.ag
        refine g v _ H' O st2 re2 (flatT_rep re'.ag (fun a vs ha e => ?_) rv hf)
        have n : ¬ ∃ j, a ∈ O j := fun ⟨j, hj⟩ => notTup re (fun b o e => st.kp b o e fun j hj => nomatch hj) hj ha
        exact (if_neg n).trans e
      · rw [if_neg hf] at g
        exact g.elim
  · exact g.elim
theorem xe_bor (i : Nat) {e : Expr} {t : TE} {m : ME} (h : XE X c (μ.set i .frz) W0 e t m) (hi : i < μ.length := by decide) (hm : mdOf μ i = .own ∨ mdOf μ i = .pin := by decide) : XE X c μ W e t (mBor μ i m) := ⟨h.pe, ev_bor hi hm h.ev⟩
/-- .. in a test, in what is walked -/
def mBorT (μ : Ms) (i : Nat) (m : MT) : MT := fun sl => match sl[i]? with
  | some (some _) => (match m (mskFrom μ i 0 sl) with
    | .ok b _ => .ok b sl
    | _ => .err)
  | _ => .err
theorem ev_borT {i : Nat} {t : TT} {m : MT} (hi : i < μ.length) (hm : mdOf μ i = .own ∨ mdOf μ i = .pin) (h : EvT c (μ.set i .frz) W0 t m) : EvT c μ W t (mBorT μ i m) := by
  intro σ H F O sl Q re g
  unfold mBorT at g
  split at g
  · rename_i d0 e0
    refine h σ H _ _ _ Q (re.lent hi hm e0) ?_
    cases e : m (mskFrom μ i 0 sl) with
    | err => rw [e] at g; exact g.elim
    | exc k fs s => rw [e] at g; exact g.elim
    | ok d s =>
      rw [e] at g
      dsimp only at g
      intro v F' H' O' st re' rv
      obtain ⟨re2, st2⟩ := re.back st re'.ag
      exact g v _ H' O st2 re2 rv
  · exact g.elim
theorem xt_bor (i : Nat) {e : Expr} {t : TT} {m : MT} (h : XT X c (μ.set i .frz) W0 e t m) (hi : i < μ.length := by decide) (hm : mdOf μ i = .own ∨ mdOf μ i = .pin := by decide) : XT X c μ W e t (mBorT μ i m) := ⟨h.pt, ev_borT hi hm h.ev⟩
/-! ### moved: the owned list or dict of slot i becomes a frozen value, the slot is empty -/
theorem Re.emptied {F H : Hp} {σ : St} {sl : Sl} {O : Os} {i : Nat} (re : Re c μ F H σ sl O) : Re c μ F H σ (sl.set i none) (fun j => if j = i then [] else O j) where
  ag := re.ag
  len := by rw [List.length_set]; exact re.len
  at_ := fun j d h => by
    by_cases q : i = j
    · subst q
      by_cases hi : i < sl.length
      · rw [List.getElem?_set_self hi] at h; cases h
      · rw [List.getElem?_eq_none (by rw [List.length_set]; omega)] at h; cases h
    · rw [List.getElem?_set_ne q] at h
      rw [if_neg (Ne.symm q)]
      exact re.at_ j d h
  emp := fun j h => by
    by_cases q : j = i
    · rw [if_pos q]
    · rw [if_neg q]
      exact re.emp j fun d h2 => h d (by rw [List.getElem?_set_ne (Ne.symm q)]; exact h2)
  dis := fun j k a h1 h2 => by
    by_cases q1 : j = i
    · rw [if_pos q1] at h1; exact nomatch h1
    · by_cases q2 : k = i
      · rw [if_pos q2] at h2; exact nomatch h2
      · rw [if_neg q1] at h1
        rw [if_neg q2] at h2
        exact re.dis j k a h1 h2
  fre := fun j a h => by
    by_cases q : j = i
    · rw [if_pos q] at h; exact nomatch h
    · rw [if_neg q] at h
      exact re.fre j a h
theorem Stp.emptied {F H : Hp} {O : Os} {i : Nat} : Stp F H O F H (fun j => if j = i then [] else O j) :=
  ⟨Le.refl _, fun _ _ h _ => h, fun _ _ h => .inl h, fun j a h => by
    have h : a ∈ (if j = i then [] else O j) := h
    split at h
    · exact nomatch h
    · exact .inr ⟨j, h⟩, fun _ h => h, fun j => by
    by_cases q : j = i
    · exact .inr (.inl (if_pos q))
    · show (∃ N, (if j = i then [] else O j) = O j ++ N ∧ _) ∨ _
      rw [if_neg q]
      exact pk_refl _⟩
def mMove (i : Nat) : ME := fun sl => match sl[i]? with
  | some (some d) => if isLD d = true then .ok d (sl.set i none) else .err
  | _ => .err
theorem ev_move {i : Nat} (hm : mdOf μ i = .own) : EvE c μ W (tVar i) (mMove i) := by
  intro σ H F O sl Q re g
  unfold mMove at g
  split at g
  · rename_i d e
    obtain ⟨v, h1, ow⟩ := re.own (.inl hm) e
    by_cases hd : isLD d = true
    · rw [if_pos hd] at g
      refine ⟨v, h1, ?_⟩
      have own : ∃ a, O i = [a] ∧ Ow1 c F H v d a := by
        generalize O i = L at ow
        cases ow with
        | one h => exact ⟨_, rfl, h⟩
        | ins _ _ _ _ _ => cases hd
      obtain ⟨a, eO, h⟩ := own
      obtain ⟨o, e1, q⟩ := h.freeze
      have ha : a ∈ O i := by rw [eO]; exact List.mem_singleton.mpr rfl
      have hf := re.fre i a ha
      have re2 := re.emptied (i := i)
      have n : ∀ j, a ∉ (if j = i then [] else O j) := fun j hj => by
        by_cases q : j = i
        · rw [if_pos q] at hj; exact nomatch hj
        · rw [if_neg q] at hj
          exact q (re.dis j i a hj ha)
      exact g v _ H _ ((Stp.emptied (i := i)).put hf (.inr ⟨i, ha⟩)) (re2.put e1 hf n) (q _ (Le.new o hf) upd_same)
    · rw [if_neg hd] at g
      exact g.elim
  · exact g.elim
theorem xe_move (i : Nat) {x : Str} {pos : Pos} (hm : mdOf μ i = .own := by rfl) (hN : X.N[i]? = some x := by rfl) (hv : Vis X.env.scope x := by first | exact Or.inl rfl | exact Or.inr (Or.inl rfl) | exact Or.inr (Or.inr rfl)) (hd : (x == ("__debug__" : Str)) = false := by decide)
    (hcd : (x == ("__classdict__" : Str)) = false := by decide) : XE X c μ W (.Name x pos) (tVar i) (mMove i) := ⟨pe_var hN hv hd hcd, ev_move hm⟩
/-- return of an owned slot -/
def mRetMove (i : Nat) : MS := fun sl => match sl[i]? with
  | some (some d) => .ok (.rt d) (sl.set i none)
  | _ => .err
theorem st_retMove {i : Nat} (hm : mdOf μ i = .own) : StM c μ true W (tRet (tVar i)) (mRetMove i) := by
  intro σ H F O sl E re g
  unfold mRetMove at g
  split at g
  · rename_i d e
    obtain ⟨v, h1, ow⟩ := re.own (.inl hm) e
    refine ⟨v, h1, g v σ F H _ (O i) (Stp.emptied (i := i)) re.emptied (Pin.refl _ _) ⟨ow, fun a ha => ⟨re.fre i a ha, fun j hj => ?_, .inr ⟨i, ha⟩⟩⟩⟩
    have hj : a ∈ (if j = i then [] else O j) := hj
    by_cases q : j = i
    · rw [if_pos q] at hj; exact nomatch hj
    · rw [if_neg q] at hj
      exact q (re.dis j i a hj ha)
  · exact g.elim
theorem xs_retMove (i : Nat) {x : Str} {p pos : Pos} (hm : mdOf μ i = .own := by rfl) (hN : X.N[i]? = some x := by rfl) (hv : Vis X.env.scope x := by first | exact Or.inl rfl | exact Or.inr (Or.inl rfl) | exact Or.inr (Or.inr rfl)) (hd : (x == ("__debug__" : Str)) = false := by decide)
    (hcd : (x == ("__classdict__" : Str)) = false := by decide) : XS X c μ true W (.Return (some (.Name x p)) pos) (tRet (tVar i)) (mRetMove i) := ⟨ps_ret (pe_var hN hv hd hcd), st_retMove hm⟩
end
end MM

set_option Elab.async false
set_option linter.all false
set_option maxRecDepth 100000
set_option maxHeartbeats 2000000
/-! The value layer, part h: places (owned lists and dicts, in a slot or in a field), what changes them; dicts walked. -/
namespace MM
open PySem PySem.Spec PyProof.Rows L2

section
variable {c : CI} {X : Cx} {μ : Ms} {ρ : Bool} {W : WX}
theorem Ow1.ref {F H : Hp} {v : V} {d : D} {b : Addr} (h : Ow1 c F H v d b) : v = .ref b ∧ isLD d = true := by
  cases h <;> exact ⟨rfl, rfl⟩
theorem Stp.wr {F H : Hp} {O : Os} {i : Nat} {b : Addr} {o : HO} (h : b ∈ O i) : Stp F H O F (upd H b o) O :=
  ⟨Le.refl _, fun a u e n => by rw [upd_ne (show a ≠ b from fun z => n i (by rw [z]; exact h))]; exact e, fun _ _ e => .inl e, fun j a ha => .inr ⟨j, ha⟩, upd_al, fun _ => pk_refl _⟩
theorem Re.wr {F H : Hp} {σ : St} {sl : Sl} {O : Os} {i : Nat} {b : Addr} {o : HO} {v : V} {d d' : D} (re : Re c μ F H σ sl O) (h : b ∈ O i) (hs : sl[i]? = some (some d)) (hv : σ[i]? = some (some v)) (hd : Hold c (mdOf μ i) F (upd H b o) v d' (O i)) :
    Re c μ F (upd H b o) σ (sl.set i (some d')) O where
  ag := fun a u e => by
    have nb : a ≠ b := fun z => by rw [z, re.fre i b h] at e; cases e
    rw [upd_ne nb]
    exact re.ag a u e
  len := by rw [List.length_set]; exact re.len
  at_ := fun j e h2 => by
    have hi : i < sl.length := (List.getElem?_eq_some_iff.mp hs).1
    by_cases q : i = j
    · subst q
      rw [List.getElem?_set_self hi] at h2
      cases h2
      exact ⟨v, hv, hd⟩
    · rw [List.getElem?_set_ne q] at h2
      obtain ⟨v2, e1, e2⟩ := re.at_ j e h2
      exact ⟨v2, e1, e2.mono (Le.refl _) fun a ha u z => by
        rw [upd_ne (show a ≠ b from fun y => q (re.dis i j b h (by rw [← y]; exact ha)))]
        exact z⟩
  emp := fun j h2 => by
    have hi : i < sl.length := (List.getElem?_eq_some_iff.mp hs).1
    by_cases q : i = j
    · subst q
      exact absurd (List.getElem?_set_self hi) (h2 d')
    · exact re.emp j fun e z => h2 e (by rw [List.getElem?_set_ne q]; exact z)
  dis := re.dis
  fre := re.fre
/-- a place: its reading tp gives the address of an owned list or dict; get, set: its value among the slots -/
def Pl (c : CI) (μ : Ms) (tp : TE) (get : Sl → Option D) (set : Sl → D → Sl) : Prop :=
  ∀ (σ : St) (H F : Hp) (O : Os) (sl : Sl) (d : D), Re c μ F H σ sl O → get sl = some d → ∃ b i, (∀ Q : VK, Q (.ref b) H → tp σ H Q) ∧
    ∀ (H' F' : Hp) (O' : Os) (s : Sl) (d' : D), Stp F H O F' H' O' → Re c μ F' H' σ s O' → get s = some d' → Ow1 c F' H' (.ref b) d' b ∧ b ∈ O' i ∧
      ∀ o d'', Ow1 c F' (upd H' b o) (.ref b) d'' b → Re c μ F' (upd H' b o) σ (set s d'') O'
def getV (i : Nat) : Sl → Option D := fun s => match s[i]? with
  | some (some d) => if isLD d = true then some d else none
  | _ => none
def setV (i : Nat) : Sl → D → Sl := fun s d => s.set i (some d)
theorem getV_some {i : Nat} {s : Sl} {d : D} (h : getV i s = some d) : s[i]? = some (some d) ∧ isLD d = true := by
  unfold getV at h
  split at h
  · rename_i d' e
    split at h
    · rename_i hd
      cases h
      exact ⟨e, hd⟩
    · cases h
  · cases h
theorem Ow.ld {md : Nat → List Bool} {F H : Hp} {v : V} {d : D} {O : List Addr} (h : Ow c md F H v d O) (hd : isLD d = true) : ∃ b, O = [b] ∧ Ow1 c F H v d b := by
  cases h with
  | one h => exact ⟨_, rfl, h⟩
  | ins _ _ _ _ _ => cases hd
theorem pl_var {i : Nat} (hm : mdOf μ i = .own ∨ mdOf μ i = .pin) : Pl c μ (tVar i) (getV i) (setV i) := by
  intro σ H F O sl d re hg
  obtain ⟨hs, hd⟩ := getV_some hg
  obtain ⟨v, h1, ow⟩ := re.own hm hs
  obtain ⟨b, eO, h⟩ := ow.ld hd
  have ev := h.ref.1
  subst ev
  refine ⟨b, i, fun Q q => ⟨_, h1, q⟩, fun H' F' O' s d' st re' hg' => ?_⟩
  obtain ⟨hs', hd'⟩ := getV_some hg'
  obtain ⟨v', h1', ow'⟩ := re'.own hm hs'
  obtain ⟨b', eO', h'⟩ := ow'.ld hd'
  have ev : v' = .ref b := by rw [h1] at h1'; exact (Option.some.inj (Option.some.inj h1')).symm
  have eb : b' = b := by
    have := h'.ref.1
    rw [ev] at this
    exact (V.ref.inj this).symm
  subst eb ev
  have hb : b' ∈ O' i := by rw [eO']; exact List.mem_singleton.mpr rfl
  refine ⟨h', hb, fun o d'' hn => re'.wr hb hs' h1' ?_⟩
  have ow2 : Ow c c.md F' (upd H' b' o) (.ref b') d'' (O' i) := by rw [eO']; exact .one hn
  rcases hm with e | e <;> (rw [e]; exact ow2)
/-! the j-th field of the instance of class k in slot i -/
def getF (i k j : Nat) : Sl → Option D := fun s => match s[i]? with
  | some (some (.ins k' ds)) => if k' = k then (match ds[j]? with
    | some d => if isLD d = true then some d else none
    | none => none) else none
  | _ => none
def setF (i j : Nat) : Sl → D → Sl := fun s d => match s[i]? with
  | some (some (.ins k' ds)) => s.set i (some (.ins k' (ds.set j d)))
  | _ => s
theorem getF_some {i k j : Nat} {s : Sl} {d : D} (h : getF i k j s = some d) : ∃ ds, s[i]? = some (some (.ins k ds)) ∧ ds[j]? = some d ∧ isLD d = true := by
  unfold getF at h
  split at h
  · rename_i k' ds e
    split at h
    · rename_i ek
      subst ek
      split at h
      · rename_i d' e2
        split at h
        · rename_i hd
          cases h
          exact ⟨ds, e, e2, hd⟩
        · cases h
      · cases h
    · cases h
  · cases h
theorem setF_eq {i k j : Nat} {s : Sl} {ds : List D} {d : D} (h : s[i]? = some (some (.ins k ds))) : setF i j s d = s.set i (some (.ins k (ds.set j d))) := by
  unfold setF
  rw [h]
theorem OwF.getO {F H : Hp} : ∀ {m : List Bool} {vs : List V} {ds : List D} {O : List Addr} {j : Nat} {d : D}, OwF c F H m vs ds O → m[j]? = some true → ds[j]? = some d → ∃ b, vs[j]? = some (.ref b) ∧ Ow1 c F H (.ref b) d b ∧ O[(m.take j).count true]? = some b
  | _, _, _, _, j, _, .nil m, _, e => by simp at e
  | _, _, _, _, 0, _, .frz r t, h, e => by simp at h
  | _, _, _, _, j + 1, _, .frz r t, h, e => by
    obtain ⟨b, h1, h2, h3⟩ := t.getO (j := j) (by simpa using h) (by simpa using e)
    exact ⟨b, by simpa using h1, h2, by simpa using h3⟩
  | _, _, _, _, 0, _, .own r t, h, e => by
    simp at e
    subst e
    have := r.ref.1
    subst this
    exact ⟨_, rfl, r, rfl⟩
  | _, _, _, _, j + 1, _, .own r t, h, e => by
    obtain ⟨b, h1, h2, h3⟩ := t.getO (j := j) (by simpa using h) (by simpa using e)
    exact ⟨b, by simpa using h1, h2, by simpa using h3⟩
theorem OwF.setO {F H H' : Hp} {b : Addr} {d' : D} (hb : Ow1 c F H' (.ref b) d' b) (k : ∀ a o, a ≠ b → H a = some o → H' a = some o) : ∀ {m : List Bool} {vs : List V} {ds : List D} {O : List Addr} {j : Nat}, OwF c F H m vs ds O → O.Nodup → m[j]? = some true → O[(m.take j).count true]? = some b → vs[j]? = some (.ref b) → OwF c F H' m vs (ds.set j d') O
  | _, _, _, _, j, .nil m, _, _, _, _ => .nil m
  | _, _, _, _, 0, .frz r t, _, h, _, _ => by simp at h
  | _, _, _, _, j + 1, .frz r t, nd, h, e, v => .frz r (t.setO hb k nd (j := j) (by simpa using h) (by simpa using e) (by simpa using v))
  | _, _, _, _, 0, .own (O := O) r t, nd, h, e, v => by
    simp at e v
    subst e
    subst v
    refine .own hb (t.mono (Le.refl _) fun a ha o z => k a o (fun y => ?_) z)
    subst y
    exact (List.nodup_cons.mp nd).1 ha
  | _, _, _, _, j + 1, .own (a := a) r t, nd, h, e, v => by
    have e2 : _ := (by simpa using e : _)
    have nd' := List.nodup_cons.mp nd
    refine .own (r.mono (Le.refl _) fun o z => k _ o (fun y => ?_) z) (t.setO hb k nd'.2 (j := j) (by simpa using h) e2 (by simpa using v))
    subst y
    exact nd'.1 (List.mem_of_getElem? e2)
theorem pl_fld {K : PySem.W.Frag} {i k j : Nat} {f : Str} (hm : mdOf μ i = .own ∨ mdOf μ i = .pin) (hj : (c.md k)[j]? = some true) (cl : Cls K (c.C k)) (na : NoAttr K (c.C k) f) (nd : (c.nm k).Nodup) (hf : (c.nm k)[j]? = some f) :
    Pl c μ (tFld K (tVar i) f) (getF i k j) (setF i j) := by
  intro σ H F O sl d re hg
  obtain ⟨ds, hs, hds, hd⟩ := getF_some hg
  obtain ⟨v, h1, ow⟩ := re.own hm hs
  generalize eL : O i = L at ow
  cases ow with
  | one h => cases h
  | @ins a dx _ fs _ O1 h2 h3 h4 r nd' =>
    obtain ⟨b, g1, g2, g3⟩ := r.getO hj hds
    have hfl : fs.lookup f = some (.ref b) := by
      rw [fld_at h4 nd hf (List.getElem?_eq_some_iff.mp hds).1]
      exact g1
    refine ⟨b, i, fun Q q => ⟨_, h1, a, _, dx, fs, _, rfl, h2, cl, na, hfl, q⟩, fun H' F' O' s d' st re' hg' => ?_⟩
    obtain ⟨ds', hs', hds', hd'⟩ := getF_some hg'
    obtain ⟨v', h1', ow'⟩ := re'.own hm hs'
    have ev : v' = .ref a := by rw [h1] at h1'; exact (Option.some.inj (Option.some.inj h1')).symm
    subst ev
    generalize eL' : O' i = L' at ow'
    cases ow' with
    | one h => cases h
    | @ins _ dx' _ fs' _ O1' h2' h3' h4' r' nd'' =>
      obtain ⟨b', g1', g2', g3'⟩ := r'.getO hj hds'
      -- the field's address is as it was
      have eb : b' = b := by
        rcases st.pk i with ⟨N, e, _⟩ | e | e
        · rw [eL, eL'] at e
          have e1 : dx' :: O1' = dx :: (O1 ++ N) := by
            have := List.cons.inj (show a :: (dx' :: O1') = a :: (dx :: (O1 ++ N)) from e)
            exact this.2
          have e2 : O1' = O1 ++ N := (List.cons.inj e1).2
          rw [e2, List.getElem?_append_left (List.getElem?_eq_some_iff.mp g3).1, g3] at g3'
          exact (Option.some.inj g3').symm
        · rw [eL'] at e; cases e
        · have := e a (by rw [eL']; exact List.mem_cons_self)
          rw [h2] at this; cases this
      subst eb
      have hb : b' ∈ O' i := by rw [eL']; exact List.mem_cons_of_mem _ (List.mem_cons_of_mem _ (List.mem_of_getElem? g3'))
      refine ⟨g2', by rw [← eL']; exact hb, fun o d'' hn => ?_⟩
      rw [setF_eq hs']
      refine re'.wr hb hs' h1' ?_
      have hm1 : b' ∈ O1' := List.mem_of_getElem? g3'
      have nda := List.nodup_cons.mp nd''
      have ndx := List.nodup_cons.mp nda.2
      have na' : a ≠ b' := fun z => nda.1 (by rw [z]; exact List.mem_cons_of_mem _ hm1)
      have nx' : dx' ≠ b' := fun z => ndx.1 (by rw [z]; exact hm1)
      have ow2 : Ow c c.md F' (upd H' b' o) (.ref a) (.ins k (ds'.set j d'')) (O' i) := by
        rw [eL']
        refine .ins (by rw [upd_ne na']; exact h2') (by rw [upd_ne nx']; exact h3') (by rw [List.length_set]; exact h4') (r'.setO hn (fun x u n e => by rw [upd_ne n]; exact e) ndx.2 hj g3' g1') nd''
      rcases hm with e | e <;> (rw [e]; exact ow2)
/-- what a place is in the text: a name, or a field of a name -/
structure XP (X : Cx) (c : CI) (μ : Ms) (e : Expr) (tp : TE) (get : Sl → Option D) (set : Sl → D → Sl) : Prop where
  pe : PE X e tp
  pl : Pl c μ tp get set
theorem xp_var (i : Nat) {x : Str} {pos : Pos} (hm : mdOf μ i = .own ∨ mdOf μ i = .pin := by decide) (hN : X.N[i]? = some x := by rfl) (hv : Vis X.env.scope x := by first | exact Or.inl rfl | exact Or.inr (Or.inl rfl) | exact Or.inr (Or.inr rfl)) (hd : (x == ("__debug__" : Str)) = false := by decide)
    (hcd : (x == ("__classdict__" : Str)) = false := by decide) : XP X c μ (.Name x pos) (tVar i) (getV i) (setV i) := ⟨pe_var hN hv hd hcd, pl_var hm⟩
theorem xp_fld (i : Nat) {k j : Nat} {x f : Str} {p pos : Pos} (cl : Cls X.K (c.C k)) (na : NoAttr X.K (c.C k) f) (nd : (c.nm k).Nodup) (hf : (c.nm k)[j]? = some f) (hj : (c.md k)[j]? = some true) (hm : mdOf μ i = .own ∨ mdOf μ i = .pin := by decide)
    (hN : X.N[i]? = some x := by rfl) (hv : Vis X.env.scope x := by first | exact Or.inl rfl | exact Or.inr (Or.inl rfl) | exact Or.inr (Or.inr rfl)) (hd : (x == ("__debug__" : Str)) = false := by decide) (hcd : (x == ("__classdict__" : Str)) = false := by decide)
    (hb : attributeBase (.Name x p) f X.env (eval (.Name x p) X.env) = eval (.Name x p) X.env := by rfl) : XP X c μ (.Attribute (.Name x p) f pos) (tFld X.K (tVar i) f) (getF i k j) (setF i j) := ⟨pe_fld (pe_var hN hv hd hcd) hb, pl_fld hm hj cl na nd hf⟩
variable {tp : TE} {get : Sl → Option D} {set : Sl → D → Sl} {pos : Pos}
/-! place.append(e) -/
def mApp (get : Sl → Option D) (set : Sl → D → Sl) (m : ME) : MS := fun sl => match get sl with
  | some (.lst _) => (m sl).bind fun d s => (match get s with
    | some (.lst ds) => if ds.length < LB then .ok .nx (set s (.lst (ds ++ [d]))) else .err
    | _ => .err)
  | _ => .err
theorem st_app {K : PySem.W.Frag} {te : TE} {m : ME} (pl : Pl c μ tp get set) (he : EvE c μ W te m) : StM c μ ρ W (tDrop (tBM K "list" rAppend tp (tCons te tNil))) (mApp get set m) := by
  intro σ H F O sl E re g
  unfold mApp at g
  split at g
  · rename_i ds0 e0
    obtain ⟨b, i, h1, h2⟩ := pl σ H F O sl _ re e0
    obtain ⟨ow0, _, _⟩ := h2 H F O sl _ (Stp.refl _ _ _) re e0
    refine h1 _ ⟨?_, ?_⟩
    · cases ow0 with
      | lst h z r => exact .inl ⟨rfl, _, SqL.of h⟩
    · refine he σ H F O sl _ re (gx_of g fun v d F' H' O' sl' st re' rv g' => ?_)
      split at g'
      · rename_i ds e1
        split at g'
        · rename_i hl
          obtain ⟨ow, hb, up⟩ := h2 H' F' O' sl' _ st re' e1
          cases ow with
          | lst h z r =>
            refine ⟨b, _, v, rfl, rfl, h, by rw [r.length]; exact LB_line (Nat.le_of_lt hl), ?_⟩
            exact g' σ F' _ O' (Stp.wr hb) (up _ _ (.lst upd_same (by rw [List.length_append]; exact hl) (r.append (.cons rv .nil)))) (Pin.refl _ _)
        · exact g'.elim
      · exact g'.elim
  · exact g.elim
theorem xs_app {o e : Expr} {apos cpos : Pos} {te : TE} {m : ME} (hp : XP X c μ o tp get set) (he : XE X c μ W e te m)
    (hbase : attributeBase o "append" X.env (eval o X.env) = eval o X.env := by rfl)
    (hfew : ((backTo cpos (starEach (e :: []) X.env)).all (fun x => !x.1) && (backToKw cpos (keywordEach [] X.env)).all (fun x => x.1.isSome)
      && decide ((e :: []).length + ([] : List Keyword).length + (if ([] : List Keyword).isEmpty then 0 else 1) < 30)) = true := by rfl)
    (hline : (apos.endLine == cpos.line) = true := by rfl) (hs : starEach (e :: []) X.env = (false, eval e X.env) :: starEach [] X.env := by rfl) (hplain : (backTo cpos (starEach [] X.env)).any (·.1) = false := by rfl)
    (hw : swapsWith (.Call (.Attribute o "append" apos) [e] [] cpos) none pos.line X.env = pure false := by rfl) :
    XS X c μ ρ W (.Expr (.Call (.Attribute o "append" apos) [e] [] cpos) pos) (tDrop (tBM X.K "list" rAppend tp (tCons te tNil))) (mApp get set m) :=
  ⟨ps_expr (pe_bm PySem.F.plainAttrs_list PySem.F.slot_list_append PySem.F.type_list_append mt_append hp.pe (pa_cons he.pe pa_nil hs) hbase hfew hline hs hplain) hw, st_app hp.pl he.ev⟩
/-! place.clear() -/
def mClear (get : Sl → Option D) (set : Sl → D → Sl) : MS := fun sl => match get sl with
  | some (.lst _) => .ok .nx (set sl (.lst []))
  | _ => .err
theorem st_clear {K : PySem.W.Frag} (pl : Pl c μ tp get set) : StM c μ ρ W (tDrop (tBM0 K "list" rClear tp)) (mClear get set) := by
  intro σ H F O sl E re g
  unfold mClear at g
  split at g
  · rename_i ds0 e0
    obtain ⟨b, i, h1, h2⟩ := pl σ H F O sl _ re e0
    obtain ⟨ow0, hb, up⟩ := h2 H F O sl _ (Stp.refl _ _ _) re e0
    cases ow0 with
    | lst h z r =>
      refine h1 _ ⟨.inl ⟨rfl, _, SqL.of h⟩, b, _, rfl, rfl, h, ?_⟩
      exact g σ F _ O (Stp.wr hb) (up _ _ (.lst upd_same (Nat.zero_le _) .nil)) (Pin.refl _ _)
  · exact g.elim
theorem xs_clear {o : Expr} {apos cpos : Pos} (hp : XP X c μ o tp get set) (hbase : attributeBase o "clear" X.env (eval o X.env) = eval o X.env := by rfl) (hline : (apos.endLine == cpos.line) = true := by rfl)
    (hw : swapsWith (.Call (.Attribute o "clear" apos) [] [] cpos) none pos.line X.env = pure false := by rfl) : XS X c μ ρ W (.Expr (.Call (.Attribute o "clear" apos) [] [] cpos) pos) (tDrop (tBM0 X.K "list" rClear tp)) (mClear get set) :=
  ⟨ps_expr (pe_bm0 PySem.F.plainAttrs_list PySem.F.slot_list_clear PySem.F.type_list_clear mt_clear hp.pe hbase hline) hw, st_clear hp.pl⟩
/-! place[k] = e, a dict -/
def mPut (get : Sl → Option D) (set : Sl → D → Sl) (mv mk : ME) : MS := fun sl => (mv sl).bind fun d s => match get s with
  | some (.dic _) => (mk s).bind fun k s2 => (match get s2, kd k with
    | some (.dic kv), some k => if kv.length < LB then .ok .nx (set s2 (.dic (putD kv k d))) else .err
    | _, _ => .err)
  | _ => .err
theorem st_put {tv tk : TE} {mv mk : ME} (pl : Pl c μ tp get set) (hv : EvE c μ W tv mv) (hk : EvE c μ W tk mk) : StM c μ ρ W (sDPut tp tk tv) (mPut get set mv mk) := by
  intro σ H F O sl E re g
  refine hv σ H F O sl _ re (gx_of g fun v d F1 H1 O1 s1 st1 re1 rv g1 => ?_)
  split at g1
  · rename_i kv0 e0
    obtain ⟨b, i, h1, h2⟩ := pl σ H1 F1 O1 s1 _ re1 e0
    refine h1 _ (hk σ H1 F1 O1 s1 _ re1 (gx_of g1 fun kv' dk F' H' O' sl' st re' rk g' => ?_))
    split at g'
    · rename_i kv k e1 ek
      split at g'
      · rename_i hl
        obtain ⟨ow, hb, up⟩ := h2 H' F' O' sl' _ st re' e1
        cases ow with
        | dic h z k1 r =>
          have rk2 : RpK c F' _ kv := ⟨k1, r⟩
          have ex := kd_rep rk ek
          subst ex
          refine ⟨b, _, rfl, DPut.k h (by rw [rk2.len]; exact LB_line (Nat.le_of_lt hl)), ?_⟩
          have rp := rk2.put k (rv.mono st.ff)
          exact g' σ F' _ O' (Stp.wr hb) (up _ _ (.dic upd_same (Nat.le_trans (putD_len _ _ _) hl) rp.ks rp.vs)) (Pin.refl _ _)
      · exact g'.elim
    · exact g'.elim
  · exact g1.elim
theorem xs_put {o k e : Expr} {pos' : Pos} {tv tk : TE} {mv mk : ME} (hu : X.A.units + 1 < cLine) (hp : XP X c μ o tp get set) (hk : XE X c μ W k tk mk) (he : XE X c μ W e tv mv) (hs : swapsWith e (some (.Subscript o k pos')) pos.line X.env = pure false := by rfl) :
    XS X c μ ρ W (.Assign [.Subscript o k pos'] e pos) (sDPut tp tk tv) (mPut get set mv mk) := ⟨ps_dput hu hp.pe hk.pe he.pe hs, st_put hp.pl he.ev hk.ev⟩
/-! place[i] = e, a list -/
def mSetL (get : Sl → Option D) (set : Sl → D → Sl) (mv mk : ME) : MS := fun sl => (mv sl).bind fun d s => match get s with
  | some (.lst _) => (mk s).bind fun k s2 => (match get s2, k with
    | some (.lst ds), .int i => (match ixN ds.length i with
      | some j => .ok .nx (set s2 (.lst (ds.set j d)))
      | none => .err)
    | _, _ => .err)
  | _ => .err
theorem st_setL {tv tk : TE} {mv mk : ME} (pl : Pl c μ tp get set) (hv : EvE c μ W tv mv) (hk : EvE c μ W tk mk) : StM c μ ρ W (tAsg tv (gSub tp tk rSetL)) (mSetL get set mv mk) := by
  intro σ H F O sl E re g
  refine hv σ H F O sl _ re (gx_of g fun v d F1 H1 O1 s1 st1 re1 rv g1 => ?_)
  split at g1
  · rename_i ds0 e0
    obtain ⟨b, i, h1, h2⟩ := pl σ H1 F1 O1 s1 _ re1 e0
    refine h1 _ (hk σ H1 F1 O1 s1 _ re1 (gx_of g1 fun kv' dk F' H' O' sl' st re' rk g' => ?_))
    split at g'
    · rename_i ds n e1
      split at g'
      · rename_i j ej
        obtain ⟨ow, hb, up⟩ := h2 H' F' O' sl' _ st re' e1
        cases rk
        cases ow with
        | lst h z r =>
          refine ⟨b, _, n, j, rfl, rfl, h, by rw [r.length]; exact ej, ?_⟩
          exact g' σ F' _ O' (Stp.wr hb) (up _ _ (.lst upd_same (by rw [List.length_set]; exact z) (r.set j (rv.mono st.ff)))) (Pin.refl _ _)
      · exact g'.elim
    · exact g'.elim
  · exact g1.elim
theorem xs_setL {o k e : Expr} {pos' : Pos} {tv tk : TE} {mv mk : ME} (hp : XP X c μ o tp get set) (hk : XE X c μ W k tk mk) (he : XE X c μ W e tv mv) (ha : ∀ v, assign (.Subscript o k pos') X.env v = (do
      let ov ← holding [v] (eval o X.env)
      let iv ← holding [v, ov] (eval k X.env)
      standAt pos'
      holding [v, ov, iv] (setItem ov iv v)
      release [v, ov, iv] []) := by intro _; rfl) (hs : swapsWithSole [.Subscript o k pos'] e pos.line X.env = pure false := by rfl) (hw : swappedStores [.Subscript o k pos'] e X.env = pure none := by rfl)
    (h1 : (assignEach [.Subscript o k pos'] X.env).map (·.2) = [assign (.Subscript o k pos') X.env] := by rfl) : XS X c μ ρ W (.Assign [.Subscript o k pos'] e pos) (tAsg tv (gSub tp tk rSetL)) (mSetL get set mv mk) :=
  ⟨ps_asg he.pe (pg_sub hp.pe hk.pe set_list ha) hs hw h1, st_setL hp.pl he.ev hk.ev⟩
/-! place.pop(k), a dict, its value dropped -/
def mPopD (get : Sl → Option D) (set : Sl → D → Sl) (mk : ME) : MS := fun sl => match get sl with
  | some (.dic _) => (mk sl).bind fun k s => (match get s, kd k with
    | some (.dic kv), some k => if (lookD kv k).isSome = true then .ok .nx (set s (.dic (dropD kv k))) else .err
    | _, _ => .err)
  | _ => .err
theorem st_popD {tk : TE} {mk : ME} (pl : Pl c μ tp get set) (hk : EvE c μ W tk mk) : StM c μ ρ W (tDrop (tDPop1 tp tk)) (mPopD get set mk) := by
  intro σ H F O sl E re g
  unfold mPopD at g
  split at g
  · rename_i kv0 e0
    obtain ⟨b, i, h1, h2⟩ := pl σ H F O sl _ re e0
    obtain ⟨ow0, _, _⟩ := h2 H F O sl _ (Stp.refl _ _ _) re e0
    refine h1 _ ⟨b, rfl, ?_, ?_⟩
    · cases ow0 with
      | dic h z k1 r => exact .inl ⟨_, .inl h⟩
    · refine hk σ H F O sl _ re (gx_of g fun kv' dk F' H' O' sl' st re' rk g' => ?_)
      split at g'
      · rename_i kv k e1 ek
        split at g'
        · rename_i hl
          obtain ⟨ow, hb, up⟩ := h2 H' F' O' sl' _ st re' e1
          cases ow with
          | dic h z k1 r =>
            have rk2 : RpK c F' _ kv := ⟨k1, r⟩
            have ex := kd_rep rk ek
            subst ex
            rcases rk2.look k with ⟨q1, _⟩ | ⟨d, v, q1, q2, _⟩
            · rw [q1] at hl; cases hl
            · refine ⟨_, kK k, v, h, rfl, q2, ?_⟩
              have rp := rk2.drop k
              exact g' σ F' _ O' (Stp.wr hb) (up _ _ (.dic upd_same (Nat.le_trans (dropD_len _ _) z) rp.ks rp.vs)) (Pin.refl _ _)
        · exact g'.elim
      · exact g'.elim
  · exact g.elim
theorem xs_popD {o e : Expr} {apos cpos : Pos} {tk : TE} {mk : ME} (hp : XP X c μ o tp get set) (hk : XE X c μ W e tk mk) (m : M1 X o "pop" apos e cpos)
    (hw : swapsWith (.Call (.Attribute o "pop" apos) [e] [] cpos) none pos.line X.env = pure false := by rfl) : XS X c μ ρ W (.Expr (.Call (.Attribute o "pop" apos) [e] [] cpos) pos) (tDrop (tDPop1 tp tk)) (mPopD get set mk) :=
  ⟨ps_expr (pe_dpop1 hp.pe hk.pe m) hw, st_popD hp.pl hk.ev⟩
end
end MM

set_option Elab.async false
set_option linter.all false
set_option maxRecDepth 100000
set_option maxHeartbeats 2000000
/-! The value layer, part i: fields stored, promises of defs, calls. -/
namespace MM
open PySem PySem.Spec PyProof.Rows L2

section
variable {c : CI} {X : Cx} {μ : Ms} {ρ : Bool} {W : WX} {pos : Pos}
/-! ### self.f = e in an __init__: the fields come in the order of c.nm -/
theorem putF_new (f : Str) (v : V) : ∀ fs : List (Str × V), f ∉ fs.map (·.1) → putF f v fs = fs ++ [(f, v)]
  | [], _ => rfl
  | (g, x) :: r, h => by
    have h1 : ¬ g = f := fun z => h (by rw [z]; exact List.mem_cons_self)
    show (if g = f then _ else _) = _
    rw [if_neg h1, putF_new f v r fun z => h (List.mem_cons_of_mem _ z)]
    rfl
theorem OwF.snocF {F H : Hp} {v : V} {d : D} (r : Rp c F v d) : ∀ {m : List Bool} {vs : List V} {ds : List D} {O : List Addr}, OwF c F H m vs ds O → m[ds.length]? = some false → OwF c F H m (vs ++ [v]) (ds ++ [d]) O
  | _, _, _, _, .nil m, h => by
    cases m with
    | nil => simp at h
    | cons b m =>
      have e : b = false := by simpa using h
      subst e
      exact .frz r (.nil m)
  | _, _, _, _, .frz q t, h => .frz q (t.snocF r (by simpa using h))
  | _, _, _, _, .own q t, h => .own q (t.snocF r (by simpa using h))
theorem OwF.snocO {F H : Hp} {v : V} {d : D} {b : Addr} (r : Ow1 c F H v d b) : ∀ {m : List Bool} {vs : List V} {ds : List D} {O : List Addr}, OwF c F H m vs ds O → m[ds.length]? = some true → OwF c F H m (vs ++ [v]) (ds ++ [d]) (O ++ [b])
  | _, _, _, _, .nil m, h => by
    cases m with
    | nil => simp at h
    | cons b m =>
      have e : b = true := by simpa using h
      subst e
      exact .own r (.nil m)
  | _, _, _, _, .frz q t, h => .frz q (t.snocO r (by simpa using h))
  | _, _, _, _, .own q t, h => .own q (t.snocO r (by simpa using h))
theorem OwF.len {F H : Hp} : ∀ {m : List Bool} {vs : List V} {ds : List D} {O : List Addr}, OwF c F H m vs ds O → vs.length = ds.length
  | _, _, _, _, .nil m => rfl
  | _, _, _, _, .frz _ t => congrArg (· + 1) t.len
  | _, _, _, _, .own _ t => congrArg (· + 1) t.len
theorem nm_step {k j : Nat} {f : Str} (nd : (c.nm k).Nodup) (hf : (c.nm k)[j]? = some f) : f ∉ (c.nm k).take j ∧ (c.nm k).take j ++ [f] = (c.nm k).take (j + 1) := by
  have hj := (List.getElem?_eq_some_iff.mp hf).1
  refine ⟨fun h => ?_, by rw [List.take_add_one, hf]; rfl⟩
  obtain ⟨i, hi, e⟩ := List.mem_take_iff_getElem.mp h
  have hi' : i < j := by omega
  have e2 : (c.nm k)[i]? = some f := by rw [List.getElem?_eq_getElem (by omega), e]
  have := nodup_ix nd e2 hf
  omega
def mSetFld (i k j : Nat) (m : ME) : MS := fun sl => (m sl).bind fun d s => match s[i]? with
  | some (some (.ins k' ds)) => if k' = k ∧ ds.length = j then .ok .nx (s.set i (some (.ins k' (ds ++ [d])))) else .err
  | _ => .err
theorem st_fld {K : PySem.W.Frag} {i k j : Nat} {f : Str} {te : TE} {m : ME} (hm : mdOf μ i = .own ∨ mdOf μ i = .pin) (hj : (c.md k)[j]? = some false) (h1000 : j < 1000) (cl : Cls K (c.C k)) (na : NoAttr K (c.C k) f) (nd : (c.nm k).Nodup) (hf : (c.nm k)[j]? = some f) (he : EvE c μ W te m) :
    StM c μ ρ W (sFld K (tVar i) te f) (mSetFld i k j m) := by
  intro σ H F O sl E re g
  refine he σ H F O sl _ re (gx_of g fun v d F' H' O' s st re' rv g' => ?_)
  split at g'
  · rename_i k' ds e
    split at g'
    · rename_i hk
      obtain ⟨ek, el⟩ := hk
      subst ek
      obtain ⟨v0, h1, ow⟩ := re'.own hm e
      refine ⟨v0, h1, ?_⟩
      generalize eL : O' i = L at ow
      cases ow with
      | one h => cases h
      | @ins a dx _ fs _ O1 h2 h3 h4 r nd' =>
        have hl : fs.length = j := by
          have := r.len
          rw [List.length_map] at this
          omega
        obtain ⟨n1, n2⟩ := nm_step nd hf
        have nf : f ∉ fs.map (·.1) := by rw [h4, el]; exact n1
        refine ⟨a, _, dx, fs, rfl, h2, cl, na, by omega, ?_⟩
        rw [putF_new f v fs nf]
        have hb : a ∈ O' i := by rw [eL]; exact List.mem_cons_self
        have nda := List.nodup_cons.mp nd'
        refine g' σ F' _ O' (Stp.wr hb) (re'.wr hb e h1 ?_) (Pin.refl _ _)
        have ow2 : Ow c c.md F' (upd H' a (.ins (c.C k') dx (fs ++ [(f, v)]))) (.ref a) (.ins k' (ds ++ [d])) (O' i) := by
          rw [eL]
          refine .ins upd_same ?_ ?_ ?_ nd'
          · rw [upd_ne fun z => nda.1 (by rw [← z]; exact List.mem_cons_self)]
            exact h3
          · rw [List.map_append, h4, List.length_append, el]
            exact n2
          · rw [List.map_append]
            refine (r.snocF rv (by rw [el]; exact hj)).mono (Le.refl _) fun x hx o z => ?_
            rw [upd_ne fun y => nda.1 (by rw [← y]; exact List.mem_cons_of_mem _ hx)]
            exact z
        rcases hm with q | q <;> (rw [q]; exact ow2)
    · exact g'.elim
  · exact g'.elim
theorem xs_fld (i : Nat) {k j : Nat} {x f : Str} {p pos' : Pos} {e : Expr} {te : TE} {m : ME} (cl : Cls X.K (c.C k)) (na : NoAttr X.K (c.C k) f) (nd : (c.nm k).Nodup) (hf : (c.nm k)[j]? = some f) (hj : (c.md k)[j]? = some false) (he : XE X c μ W e te m) (h1000 : j < 1000 := by decide) (hm : mdOf μ i = .own ∨ mdOf μ i = .pin := by decide)
    (hN : X.N[i]? = some x := by rfl) (hv : Vis X.env.scope x := by first | exact Or.inl rfl | exact Or.inr (Or.inl rfl) | exact Or.inr (Or.inr rfl)) (hd : (x == ("__debug__" : Str)) = false := by decide) (hcd : (x == ("__classdict__" : Str)) = false := by decide)
    (hs : swapsWith e (some (.Attribute (.Name x p) f pos')) pos.line X.env = pure false := by rfl) : XS X c μ ρ W (.Assign [.Attribute (.Name x p) f pos'] e pos) (sFld X.K (tVar i) te f) (mSetFld i k j m) := ⟨ps_fld (pe_var hN hv hd hcd) he.pe hs, st_fld hm hj h1000 cl na nd hf he.ev⟩
/-! .. an owned list or dict into a field -/
def mSetFldO (i k j : Nat) (m : ME) : MS := fun sl => (m sl).bind fun d s => match s[i]? with
  | some (some (.ins k' ds)) => if k' = k ∧ ds.length = j ∧ isLD d = true then .ok .nx (s.set i (some (.ins k' (ds ++ [d])))) else .err
  | _ => .err
theorem st_fldN {K : PySem.W.Frag} {i k j : Nat} {f : Str} {te : TE} {m : ME} (hm : mdOf μ i = .own ∨ mdOf μ i = .pin) (hj : (c.md k)[j]? = some true) (h1000 : j < 1000) (cl : Cls K (c.C k)) (na : NoAttr K (c.C k) f) (nd : (c.nm k).Nodup) (hf : (c.nm k)[j]? = some f) (he : EvO c μ W te m) :
    StM c μ ρ W (sFld K (tVar i) te f) (mSetFldO i k j m) := by
  intro σ H F O sl E re g
  refine he σ H F O sl _ re (go_of' g fun v d F' H' O' Or s st re' ow1 q g' => ?_)
  split at g'
  · rename_i k' ds e
    split at g'
    · rename_i hk
      obtain ⟨ek, el, hd⟩ := hk
      subst ek
      obtain ⟨b, eOr, hb1⟩ := ow1.ld hd
      subst eOr
      obtain ⟨q1, q2, q3⟩ := q b (List.mem_singleton.mpr rfl)
      obtain ⟨v0, h1, ow⟩ := re'.own hm e
      refine ⟨v0, h1, ?_⟩
      generalize eL : O' i = L at ow
      cases ow with
      | one h => cases h
      | @ins a dx _ fs _ O1 h2 h3 h4 r nd' =>
        have hl : fs.length = j := by
          have := r.len
          rw [List.length_map] at this
          omega
        obtain ⟨n1, n2⟩ := nm_step nd hf
        have nf : f ∉ fs.map (·.1) := by rw [h4, el]; exact n1
        refine ⟨a, _, dx, fs, rfl, h2, cl, na, by omega, ?_⟩
        rw [putF_new f v fs nf]
        have ha : a ∈ O' i := by rw [eL]; exact List.mem_cons_self
        have nda := List.nodup_cons.mp nd'
        have nab : b ≠ a := fun z => q2 i (by rw [z]; exact ha)
        have nin : b ∉ a :: dx :: O1 := fun z => q2 i (by rw [eL]; exact z)
        have hi : i < s.length := (List.getElem?_eq_some_iff.mp e).1
        have others : ∀ j y, j ≠ i → y ∈ O' j → y ≠ a := fun j y hj hy z => hj (re'.dis j i a (by rw [← z]; exact hy) ha)
        have ow2 : Ow c c.md F' (upd H' a (.ins (c.C k') dx (fs ++ [(f, v)]))) (.ref a) (.ins k' (ds ++ [d])) (O' i ++ [b]) := by
          rw [eL]
          show Ow c c.md F' _ (.ref a) (.ins k' (ds ++ [d])) (a :: dx :: (O1 ++ [b]))
          refine .ins upd_same ?_ ?_ ?_ ?_
          · rw [upd_ne fun z => nda.1 (by rw [← z]; exact List.mem_cons_self)]
            exact h3
          · rw [List.map_append, h4, List.length_append, el]
            exact n2
          · rw [List.map_append]
            refine (r.snocO hb1 (by rw [el]; exact hj)).mono (Le.refl _) fun x hx o z => ?_
            rw [upd_ne fun y => ?_]
            · exact z
            · rcases List.mem_append.mp hx with w1 | w1
              · exact nda.1 (by rw [← y]; exact List.mem_cons_of_mem _ w1)
              · have w2 : x = b := by simpa using w1
                exact nab (by rw [← w2, y])
          · have e9 : a :: dx :: (O1 ++ [b]) = (a :: dx :: O1) ++ [b] := rfl
            rw [e9]
            refine List.nodup_append.mpr ⟨nd', by simp, fun x hx y hy z => ?_⟩
            have e8 : y = b := by simpa using hy
            exact nin (by rw [← e8, ← z]; exact hx)
        refine g' σ F' _ (fun j => if j = i then O' i ++ [b] else O' j) ?_ ?_ (Pin.refl _ _)
        · have stw := st.trans (Stp.wr (F := F') (o := .ins (c.C k') dx (fs ++ [(f, v)])) ha)
          refine ⟨stw.ff, stw.kp, stw.fo, fun j y hy => ?_, stw.al, fun j => ?_⟩
          · have hy : y ∈ (if j = i then O' i ++ [b] else O' j) := hy
            split at hy
            · rcases List.mem_append.mp hy with w1 | w1
              · exact st.ow i y w1
              · have w2 : y = b := by simpa using w1
                exact .inl (by rw [w2]; exact q3)
            · exact st.ow j y hy
          · by_cases z : j = i
            · subst z
              show (∃ N, (if j = j then O' j ++ [b] else O' j) = O j ++ N ∧ _) ∨ (if j = j then O' j ++ [b] else O' j) = [] ∨ ∀ x, x ∈ (if j = j then O' j ++ [b] else O' j) → H x = none
              rw [if_pos rfl]
              rcases st.pk j with ⟨N, e1, e2⟩ | e1 | e1
              · refine .inl ⟨N ++ [b], by rw [e1, List.append_assoc], fun x hx => ?_⟩
                rcases List.mem_append.mp hx with w1 | w1
                · exact e2 x w1
                · have w2 : x = b := by simpa using w1
                  rw [w2]; exact q3
              · rw [e1] at ha; exact nomatch ha
              · refine .inr (.inr fun x hx => ?_)
                rcases List.mem_append.mp hx with w1 | w1
                · exact e1 x w1
                · have w2 : x = b := by simpa using w1
                  rw [w2]; exact q3
            · show (∃ N, (if j = i then O' i ++ [b] else O' j) = O j ++ N ∧ _) ∨ (if j = i then O' i ++ [b] else O' j) = [] ∨ ∀ x, x ∈ (if j = i then O' i ++ [b] else O' j) → H x = none
              rw [if_neg z]
              exact st.pk j
        · refine ⟨fun y u ey => ?_, by rw [List.length_set]; exact re'.len, fun j d2 hd2 => ?_, fun j hj2 => ?_, fun j l y hy1 hy2 => ?_, fun j y hy => ?_⟩
          · have nb : y ≠ a := fun z => by rw [z, re'.fre i a ha] at ey; cases ey
            rw [upd_ne nb]
            exact re'.ag y u ey
          · by_cases z : i = j
            · subst z
              rw [List.getElem?_set_self hi] at hd2
              cases hd2
              rw [if_pos rfl]
              refine ⟨_, h1, ?_⟩
              rcases hm with q | q <;> (rw [q]; exact ow2)
            · rw [List.getElem?_set_ne z] at hd2
              rw [if_neg (Ne.symm z)]
              obtain ⟨v2, e1, e2⟩ := re'.at_ j d2 hd2
              exact ⟨v2, e1, e2.mono (Le.refl _) fun y hy u w1 => by rw [upd_ne (others j y (Ne.symm z) hy)]; exact w1⟩
          · by_cases z : i = j
            · subst z
              exact absurd (List.getElem?_set_self hi) (hj2 _)
            · rw [if_neg (Ne.symm z)]
              exact re'.emp j fun d2 w1 => hj2 d2 (by rw [List.getElem?_set_ne z]; exact w1)
          · have isb : ∀ j y, y ∈ (if j = i then O' i ++ [b] else O' j) → y ∈ O' j ∨ (j = i ∧ y = b) := fun j y hy => by
              split at hy
              · rename_i e1
                subst e1
                rcases List.mem_append.mp hy with w1 | w1
                · exact .inl w1
                · exact .inr ⟨rfl, by simpa using w1⟩
              · exact .inl hy
            rcases isb j y hy1 with w1 | ⟨w1, w1'⟩ <;> rcases isb l y hy2 with w2 | ⟨w2, w2'⟩
            · exact re'.dis j l y w1 w2
            · exact absurd (by rw [← w2']; exact w1) (q2 j)
            · exact absurd (by rw [← w1']; exact w2) (q2 l)
            · rw [w1, w2]
          · have hy : y ∈ (if j = i then O' i ++ [b] else O' j) := hy
            split at hy
            · rcases List.mem_append.mp hy with w1 | w1
              · exact re'.fre i y w1
              · have w2 : y = b := by simpa using w1
                rw [w2]; exact q1
            · exact re'.fre j y hy
    · exact g'.elim
  · exact g'.elim
theorem xs_fldN (i : Nat) {k j : Nat} {x f : Str} {p pos' : Pos} {e : Expr} {te : TE} {m : ME} (cl : Cls X.K (c.C k)) (na : NoAttr X.K (c.C k) f) (nd : (c.nm k).Nodup) (hf : (c.nm k)[j]? = some f) (hj : (c.md k)[j]? = some true) (he : XN X c μ W e te m) (h1000 : j < 1000 := by decide) (hm : mdOf μ i = .own ∨ mdOf μ i = .pin := by decide)
    (hN : X.N[i]? = some x := by rfl) (hv : Vis X.env.scope x := by first | exact Or.inl rfl | exact Or.inr (Or.inl rfl) | exact Or.inr (Or.inr rfl)) (hd : (x == ("__debug__" : Str)) = false := by decide) (hcd : (x == ("__classdict__" : Str)) = false := by decide)
    (hs : swapsWith e (some (.Attribute (.Name x p) f pos')) pos.line X.env = pure false := by rfl) : XS X c μ ρ W (.Assign [.Attribute (.Name x p) f pos'] e pos) (sFld X.K (tVar i) te f) (mSetFldO i k j m) := ⟨ps_fld (pe_var hN hv hd hcd) he.pe hs, st_fldN hm hj h1000 cl na nd hf he.ev⟩
end
end MM

set_option Elab.async false
set_option linter.all false
set_option maxRecDepth 100000
set_option maxHeartbeats 2000000
/-! The value layer, part j: promises of defs, calls. -/
namespace MM
open PySem PySem.Spec PyProof.Rows L2

/-- what a call gives: frozen, or owned and new (ρ) -/
def HF (c : CI) (ρ : Bool) (H F' H' : Hp) (O' : Os) (v : V) (d : D) (Or : List Addr) : Prop :=
  if ρ = true then Ow c c.md F' H' v d Or ∧ ∀ a, a ∈ Or → F' a = none ∧ (∀ i, a ∉ O' i) ∧ H a = none else Rp c F' v d ∧ Or = []
def GF (c : CI) (pm : Ms) (ρ : Bool) (F H : Hp) (O : Os) (σ : St) (Q : VK) (E : XK) : R D → Prop
  | .ok d sl' => ∀ v F' H' O' Or, Stp F H O F' H' O' → Re c pm F' H' σ sl' O' → HF c ρ H F' H' O' v d Or → Q v H'
  | .exc k fs sl' => ∀ dd F' H' O', Stp F H O F' H' O' → Re c pm F' H' σ sl' O' → XR c F' H' k fs dd → E (.ref (c.C k)) dd H'
  | .err => False
/-- a def's promise: it does what f says -/
def SpM (c : CI) (pm : Ms) (ρ : Bool) (f : Sl → R D) : Sp := fun vs H Q E => vs.length = pm.length ∧ ∃ (F : Hp) (O : Os) (ds : List D), ds.length = pm.length ∧ Re c pm F H (vs.map some) (ds.map some) O ∧ GF c pm ρ F H O (vs.map some) Q E (f (ds.map some))
/-- at a def's end: what stands in the parameters by reference -/
def mskP : Ms → Sl → Option Sl
  | [], _ => some []
  | .frz :: ms, _ :: s => (mskP ms s).map fun r => none :: r
  | .pin :: ms, some d :: s => (mskP ms s).map fun r => some d :: r
  | _, _ => none
def fnB (pm : Ms) (ρ : Bool) (n : Nat) (m : MS) : Sl → R D := fun ps => match m (ps ++ List.replicate n none) with
  | .ok (.rt d) s => (match mskP pm s with
    | some r => .ok d r
    | none => .err)
  | .ok .nx s => if ρ = true then .err else (match mskP pm s with
    | some r => .ok .non r
    | none => .err)
  | _ => .err
theorem mskP_spec : ∀ {pm : Ms} {s r : Sl}, mskP pm s = some r → r.length = pm.length ∧ ∀ i, i < pm.length → (mdOf pm i = .frz ∧ r[i]? = some none) ∨ (mdOf pm i = .pin ∧ ∃ d, s[i]? = some (some d) ∧ r[i]? = some (some d))
  | [], s, r, h => by
    cases h
    exact ⟨rfl, fun i hi => by simp at hi⟩
  | m :: ms, s, r, h => by
    unfold mskP at h
    split at h
    · rename_i e; cases e
    · rename_i ms' x s' e
      cases e
      cases e2 : mskP ms s' with
      | none => rw [e2] at h; cases h
      | some r' =>
        rw [e2] at h
        cases h
        obtain ⟨h1, h2⟩ := mskP_spec e2
        refine ⟨by simp [h1], fun i hi => ?_⟩
        cases i with
        | zero => exact .inl ⟨rfl, rfl⟩
        | succ i =>
          have hi' : i < ms.length := by simpa using hi
          rcases h2 i hi' with ⟨a, b⟩ | ⟨a, d, b, b2⟩
          · exact .inl ⟨by simpa [mdOf] using a, by simpa using b⟩
          · exact .inr ⟨by simpa [mdOf] using a, d, by simpa using b, by simpa using b2⟩
    · rename_i ms' d s' e
      cases e
      cases e2 : mskP ms s' with
      | none => rw [e2] at h; cases h
      | some r' =>
        rw [e2] at h
        cases h
        obtain ⟨h1, h2⟩ := mskP_spec e2
        refine ⟨by simp [h1], fun i hi => ?_⟩
        cases i with
        | zero => exact .inr ⟨rfl, d, rfl, rfl⟩
        | succ i =>
          have hi' : i < ms.length := by simpa using hi
          rcases h2 i hi' with ⟨a, b⟩ | ⟨a, d, b, b2⟩
          · exact .inl ⟨by simpa [mdOf] using a, by simpa using b⟩
          · exact .inr ⟨by simpa [mdOf] using a, d, by simpa using b, by simpa using b2⟩
    · cases h
theorem Ow.head {c : CI} {md : Nat → List Bool} {F H : Hp} {v : V} {d : D} {O : List Addr} (h : Ow c md F H v d O) : ∃ a, v = .ref a ∧ a ∈ O := by
  cases h with
  | one h => exact ⟨_, h.ref.1, List.mem_singleton.mpr rfl⟩
  | ins _ _ _ _ _ => exact ⟨_, rfl, List.mem_cons_self⟩
section
variable {c : CI} {pm μ : Ms} {ρ : Bool}
/-- the frame at the start -/
theorem Re.start {F H : Hp} {vs : List V} {ds : List D} {O : Os} {n : Nat} {N : List Str} (hp : ∀ i, i < pm.length → mdOf μ i = mdOf pm i) (hv : vs.length = pm.length) (hd : ds.length = pm.length) (hN : N.length = pm.length + n) (re : Re c pm F H (vs.map some) (ds.map some) O) :
    Re c μ F H (L2.start N vs) (ds.map some ++ List.replicate n none) O := by
  refine ⟨re.ag, ?_, fun i d h => ?_, fun i h => ?_, re.dis, re.fre⟩
  · unfold L2.start
    rw [List.length_append, List.length_append, List.length_map, List.length_map, List.length_replicate, List.length_replicate]
    omega
  · by_cases hi : i < ds.length
    · rw [List.getElem?_append_left (by rw [List.length_map]; exact hi)] at h
      obtain ⟨v, h1, h2⟩ := re.at_ i d h
      refine ⟨v, ?_, by rw [hp i (by omega)]; exact h2⟩
      unfold L2.start
      rw [List.getElem?_append_left (by rw [List.length_map]; omega)]
      exact h1
    · rw [List.getElem?_append_right (by rw [List.length_map]; omega)] at h
      rw [List.getElem?_replicate] at h
      split at h <;> cases h
  · refine re.emp i fun d h2 => h d ?_
    have hi := (List.getElem?_eq_some_iff.mp h2).1
    rw [List.getElem?_append_left hi]
    exact h2
/-- and at the end -/
theorem fn_end {F H F' H' : Hp} {O O' : Os} {vs : List V} {ds : List D} {N : List Str} {σ' : St} {s r : Sl} (hp : ∀ i, i < pm.length → mdOf μ i = mdOf pm i) (hv : vs.length = pm.length) (re0 : Re c pm F H (vs.map some) (ds.map some) O)
    (st : Stp F H O F' H' O') (re : Re c μ F' H' σ' s O') (p : Pin μ (L2.start N vs) σ') (hr : mskP pm s = some r) :
    Re c pm F' H' (vs.map some) r (fun i => if mdOf pm i = .pin ∧ i < pm.length then O' i else []) ∧ Stp F H O F' H' (fun i => if mdOf pm i = .pin ∧ i < pm.length then O' i else []) ∧
      ∀ a, (∀ i, a ∉ O' i) → (H a = none ∨ ∃ j, a ∈ O j) → H a = none := by
  obtain ⟨hl, hs⟩ := mskP_spec hr
  have sub : ∀ i a, a ∈ (if mdOf pm i = .pin ∧ i < pm.length then O' i else []) → a ∈ O' i := fun i a h => by
    split at h
    · exact h
    · exact nomatch h
  have pinv : ∀ i, mdOf pm i = .pin → i < pm.length → σ'[i]? = (vs.map some)[i]? := fun i e hi => by
    have e1 := p i (by rw [hp i hi, e]; exact fun z => nomatch z) (by rw [hp i hi, e]; exact fun z => nomatch z)
    rw [e1]
    unfold L2.start
    rw [List.getElem?_append_left (by rw [List.length_map]; omega)]
  refine ⟨⟨re.ag, by rw [hl, List.length_map, hv], fun i d h => ?_, fun i h => ?_, fun i j a h1 h2 => re.dis i j a (sub i a h1) (sub j a h2), fun i a h => re.fre i a (sub i a h)⟩, ⟨st.ff, st.kp, st.fo, fun i a h => st.ow i a (sub i a h), st.al, fun i => ?_⟩, fun a n h => ?_⟩
  · have hi : i < pm.length := by
      have := (List.getElem?_eq_some_iff.mp h).1
      rwa [hl] at this
    rcases hs i hi with ⟨_, e⟩ | ⟨e, d', e1, e2⟩
    · rw [e] at h; cases h
    · rw [e2] at h
      cases h
      obtain ⟨v, h1, h2⟩ := re.at_ i d e1
      rw [pinv i e hi] at h1
      rw [hp i hi, e] at h2
      rw [e, if_pos ⟨rfl, hi⟩]
      exact ⟨v, h1, h2⟩
  · by_cases q : mdOf pm i = .pin ∧ i < pm.length
    · rcases hs i q.2 with ⟨e, _⟩ | ⟨e, d', e1, e2⟩
      · rw [q.1] at e; cases e
      · exact absurd e2 (h d')
    · rw [if_neg q]
  · by_cases q : mdOf pm i = .pin ∧ i < pm.length
    · show (∃ N, (if mdOf pm i = .pin ∧ i < pm.length then O' i else []) = O i ++ N ∧ _) ∨ (if mdOf pm i = .pin ∧ i < pm.length then O' i else []) = [] ∨ ∀ a, a ∈ (if mdOf pm i = .pin ∧ i < pm.length then O' i else []) → H a = none
      rw [if_pos q]
      exact st.pk i
    · exact .inr (.inl (if_neg q))
  · rcases h with h | ⟨j, hj⟩
    · exact h
    · -- a thing that a parameter by reference owned at the start is still owned by it
      have alive : ∃ d, (ds.map some)[j]? = some (some d) := by
        by_cases z : ∃ d, (ds.map some)[j]? = some (some d)
        · exact z
        · rw [re0.emp j fun d q => z ⟨d, q⟩] at hj
          exact nomatch hj
      obtain ⟨d, hd⟩ := alive
      have hjl : j < pm.length := by
        have := (List.getElem?_eq_some_iff.mp hd).1
        have e := re0.len
        rw [List.length_map, List.length_map, hv] at e
        rw [List.length_map] at this
        omega
      obtain ⟨v, h1, h2⟩ := re0.at_ j d hd
      have ow0 : mdOf pm j = .pin := by
        rcases hs j hjl with ⟨e, _⟩ | ⟨e, _⟩
        · rw [e] at h2
          rw [h2.2] at hj
          exact nomatch hj
        · exact e
      rw [ow0] at h2
      obtain ⟨a0, ev, ha0⟩ := Ow.head h2
      rcases hs j hjl with ⟨e, _⟩ | ⟨_, d', e1, _⟩
      · rw [ow0] at e; cases e
      obtain ⟨v', g1, g2⟩ := re.at_ j d' e1
      rw [pinv j ow0 hjl, h1] at g1
      have ev' : v' = v := (Option.some.inj (Option.some.inj g1)).symm
      subst ev'
      rw [hp j hjl, ow0] at g2
      obtain ⟨a1, ev1, ha1⟩ := Ow.head g2
      have e01 : a1 = a0 := by rw [ev] at ev1; exact (V.ref.inj ev1).symm
      subst e01
      rcases st.pk j with ⟨M, e, _⟩ | e | e
      · exact absurd (by rw [e]; exact List.mem_append_left _ hj) (n j)
      · rw [e] at ha1; exact nomatch ha1
      · obtain ⟨o, ho⟩ := Ow.there h2 a1 ha0
        have := e a1 ha1
        rw [ho] at this; cases this
/-- a body's outcome, from the promise -/
theorem GS_of {F H : Hp} {O : Os} {vs : List V} {ds : List D} {n : Nat} {N : List Str} {m : MS} {Q : VK} {E : XK} (hp : ∀ i, i < pm.length → mdOf μ i = mdOf pm i) (hv : vs.length = pm.length) (re0 : Re c pm F H (vs.map some) (ds.map some) O)
    (g : GF c pm ρ F H O (vs.map some) Q E (fnB pm ρ n m (ds.map some))) : GS c μ ρ W0 F H O (L2.start N vs) { nx := fun _ H' => Q .non H', rt := Q } (m (ds.map some ++ List.replicate n none)) := by
  unfold fnB at g
  cases e : m (ds.map some ++ List.replicate n none) with
  | err => rw [e] at g; exact g.elim
  | exc k fs s => rw [e] at g; exact g.elim
  | ok fl s =>
    rw [e] at g
    cases fl with
    | bk => exact g.elim
    | ct => exact g.elim
    | nx =>
      dsimp only at g
      cases ρ with
      | true => rw [if_pos rfl] at g; exact g.elim
      | false =>
        rw [if_neg Bool.false_ne_true] at g
        cases er : mskP pm s with
        | none => rw [er] at g; exact g.elim
        | some r =>
          rw [er] at g
          intro σ' F' H' O' st re p
          obtain ⟨r1, r2, _⟩ := fn_end hp hv re0 st re p er
          exact g .non F' H' _ [] r2 r1 ⟨.non, rfl⟩
    | rt d =>
      dsimp only at g
      cases er : mskP pm s with
      | none => rw [er] at g; exact g.elim
      | some r =>
        rw [er] at g
        intro v σ' F' H' O' Or st re p hr
        obtain ⟨r1, r2, r3⟩ := fn_end hp hv re0 st re p er
        refine g v F' H' _ Or r2 r1 ?_
        cases ρ with
        | false => exact hr
        | true =>
          refine ⟨hr.1, fun a ha => ?_⟩
          obtain ⟨q1, q2, q3⟩ := hr.2 a ha
          refine ⟨q1, fun i hi => ?_, r3 a q2 q3⟩
          have hi : a ∈ (if mdOf pm i = .pin ∧ i < pm.length then O' i else []) := hi
          split at hi
          · exact q2 i hi
          · exact nomatch hi
variable {P : Program} {w : World} {K : PySem.W.Frag} {mg : Str → Option Value} {base : Heap}
/-- THE RULE for a def from which nothing is raised -/
theorem fn0 {x qual : Str} {st : Stmt} {f : Addr} {fd : FuncData} {N ps : List Str} {k n : Nat} {m : MS} (F : Fun K x qual st f fd) (S : FnScope N ps (defScope st)) (hps : ps.length = pm.length) (hp : ∀ i, i < pm.length → mdOf μ i = mdOf pm i) (hN : N.length = pm.length + n)
    (hb : ∀ (cdv : Value) (A : Around) (outer : List Env) (s : Shared) (H : Hp) (E : XK), Room k (A.deeper (envOfC qual (defScope st) s.heap.objs.size f cdv)) → ∃ t, XSs (cxOf CX0 P w K mg base N qual (defScope st) f cdv A outer s H E).nox c μ ρ W0 (defBody st) t m) :
    FnOk P w K mg base CX0 (k + 1) f fd ps (SpM c pm ρ (fnB pm ρ n m)) := by
  refine F.ok S (fun vs H Q E h => by rw [h.1, hps]) (fun cdv A outer s H vs Q E hr h => ?_)
  obtain ⟨t, xs⟩ := hb cdv A outer s H E hr
  obtain ⟨hv, F0, O0, ds, hd, re0, g⟩ := h
  exact ⟨t, xs.ps, xs.ev _ _ _ _ _ _ (re0.start hp hv hd hN) (GS_of hp hv re0 g)⟩
end
/-- nothing can be asked of what always falls -/
theorem fn_none {c : CI} {pm : Ms} {ρ : Bool} {P : Program} {w : World} {K : PySem.W.Frag} {mg : Str → Option Value} {base : Heap} {CX : CXT} {k : Nat} {f : Addr} {fd : FuncData} {ps : List Str} {m : Sl → R D} (hm : ∀ s, m s = .err) : FnOk P w K mg base CX k f fd ps (SpM c pm ρ m) := by
  have no : ∀ vs H Q E, ¬ SpM c pm ρ m vs H Q E := fun vs H Q E h => by
    obtain ⟨_, F0, O0, ds, _, _, g⟩ := h
    rw [hm] at g
    exact g
  exact ⟨fun vs H Q E h => absurd h (no vs H Q E), fun A outer s H args us vs Q E _ _ _ _ h => absurd h (no vs H Q E)⟩

/-! ### calls -/
section
variable {c : CI} {X : Cx} {μ pm : Ms} {W : WX} {f : Sl → R D}
/-- frozen arguments to a callee -/
theorem Re.args {F H : Hp} {σ : St} {sl : Sl} {O : Os} {vs : List V} {ds : List D} (re : Re c μ F H σ sl O) (rs : Rps c F vs ds) (hp : ∀ i, i < pm.length → mdOf pm i = .frz) (hl : ds.length = pm.length) : Re c pm F H (vs.map some) (ds.map some) (fun _ => []) := by
  refine ⟨re.ag, by rw [List.length_map, List.length_map, rs.length], fun i d h => ?_, fun _ _ => rfl, fun _ _ _ h => (nomatch h), fun _ _ h => (nomatch h)⟩
  rw [List.getElem?_map] at h
  cases e : ds[i]? with
  | none => rw [e] at h; cases h
  | some d' =>
    rw [e] at h
    cases h
    obtain ⟨v, h1, h2⟩ := rs.get e
    refine ⟨v, by rw [List.getElem?_map, h1]; rfl, ?_⟩
    rw [hp i (by have := (List.getElem?_eq_some_iff.mp e).1; omega)]
    exact ⟨h2, rfl⟩
/-- behind a call that was handed frozen things alone -/
theorem Re.behind {F H F' H' : Hp} {σ σ2 : St} {sl s2 : Sl} {O O2 : Os} (re : Re c μ F H σ sl O) (st : Stp F H (fun _ => []) F' H' O2) (re2 : Re c pm F' H' σ2 s2 O2) : Re c μ F' H' σ sl O ∧ Stp F H O F' H' O := by
  have kp : ∀ a o, H a = some o → H' a = some o := fun a o h => st.kp a o h fun i hi => nomatch hi
  refine ⟨re.mono st.ff re2.ag (fun i a _ o h => kp a o h) fun i a ha => ?_, st.ff, fun a o h _ => kp a o h, fun a o h => ?_, fun i a h => .inr ⟨i, h⟩, st.al, fun _ => pk_refl _⟩
  · cases q : F' a with
    | none => rfl
    | some o =>
      obtain ⟨u, hu⟩ := re.there ha
      rcases st.fo a o q with z | z | ⟨j, z⟩
      · rw [re.fre i a ha] at z; cases z
      · rw [hu] at z; cases z
      · exact nomatch z
  · rcases st.fo a o h with z | z | ⟨j, z⟩
    · exact .inl z
    · exact .inr (.inl z)
    · exact nomatch z
def mCallF (np : Nat) (f : Sl → R D) (n : MA) : ME := fun sl => (n sl).bind fun ds s => if ds.length = np then (match f (ds.map some) with
  | .ok d _ => .ok d s
  | _ => .err) else .err
theorem ev_call {t : TA} {n : MA} (hp : ∀ i, i < pm.length → mdOf pm i = .frz) (h : EvA c μ W t n) : EvE c μ W (tCall (SpM c pm false f) [] E0 t) (mCallF pm.length f n) := by
  refine Evm.bind (κ := fun vs σ H1 (Q : VK) => SpM c pm false f (vs ++ []) H1 Q E0) h fun σ H F O sl vs ds Q re rs g => ?_
  show SpM c pm false f (vs ++ []) H Q E0
  rw [List.append_nil]
  by_cases hl : ds.length = pm.length
  · rw [if_pos hl] at g
    refine ⟨by rw [rs.length, hl], F, _, ds, hl, re.args rs hp hl, ?_⟩
    cases e : f (ds.map some) with
    | err => rw [e] at g; exact g.elim
    | exc k fs s => rw [e] at g; exact g.elim
    | ok d s =>
      rw [e] at g
      intro v F' H' O' Or st re' hf
      obtain ⟨r1, r2⟩ := re.behind st re'
      exact g v F' H' O r2 r1 hf.1
  · rw [if_neg hl] at g
    exact g.elim
theorem evo_call {t : TA} {n : MA} (hp : ∀ i, i < pm.length → mdOf pm i = .frz) (h : EvA c μ W t n) : EvO c μ W (tCall (SpM c pm true f) [] E0 t) (mCallF pm.length f n) := by
  refine Evm.bindO (κ := fun vs σ H1 (Q : VK) => SpM c pm true f (vs ++ []) H1 Q E0) h fun σ H F O sl vs ds Q re rs g => ?_
  show SpM c pm true f (vs ++ []) H Q E0
  rw [List.append_nil]
  by_cases hl : ds.length = pm.length
  · rw [if_pos hl] at g
    refine ⟨by rw [rs.length, hl], F, _, ds, hl, re.args rs hp hl, ?_⟩
    cases e : f (ds.map some) with
    | err => rw [e] at g; exact g.elim
    | exc k fs s => rw [e] at g; exact g.elim
    | ok d s =>
      rw [e] at g
      intro v F' H' O' Or st re' hf
      obtain ⟨r1, r2⟩ := re.behind st re'
      refine g v F' H' O Or r2 r1 hf.1 fun a ha => ?_
      obtain ⟨q1, q2, q3⟩ := hf.2 a ha
      exact ⟨q1, re.new q3, q3⟩
  · rw [if_neg hl] at g
    exact g.elim
variable {k : Nat} {fa : Addr} {fd : FuncData} {ps : List Str} {x : Str} {p pos : Pos} {e : Expr} {es : List Expr} {t : TA} {n : MA} {CX : CXT}
theorem xe_call (F : FnOk X.prog X.w X.K X.mg X.base CX k fa fd ps (SpM c pm false f)) (hr : Room k X.A) (hm : X.mg x = some (.ref fa)) (hk : PySem.W.keepIn X.K (.ref fa) = true) (hb : Binds X.K fd ps []) (ha : XA X c μ W (e :: es) t n) (hx : Passes CX X E0) (hp : ∀ i, i < pm.length → mdOf pm i = .frz := by decide)
    (hg : Gl X x := by rfl) (hdb : (x == ("__debug__" : Str)) = false := by decide) (he : starEach (e :: es) X.env = (false, eval e X.env) :: starEach es X.env := by rfl) (hpl : (backTo pos (starEach es X.env)).any (·.1) = false := by rfl) :
    XE X c μ W (.Call (.Name x p) (e :: es) [] pos) (tCall (SpM c pm false f) [] E0 t) (mCallF pm.length f n) := ⟨pe_call F hr hg hm hk hb .nil hx ha.pa hdb he hpl, ev_call hp ha.ev⟩
theorem xn_call (F : FnOk X.prog X.w X.K X.mg X.base CX k fa fd ps (SpM c pm true f)) (hr : Room k X.A) (hm : X.mg x = some (.ref fa)) (hk : PySem.W.keepIn X.K (.ref fa) = true) (hb : Binds X.K fd ps []) (ha : XA X c μ W (e :: es) t n) (hx : Passes CX X E0) (hp : ∀ i, i < pm.length → mdOf pm i = .frz := by decide)
    (hg : Gl X x := by rfl) (hdb : (x == ("__debug__" : Str)) = false := by decide) (he : starEach (e :: es) X.env = (false, eval e X.env) :: starEach es X.env := by rfl) (hpl : (backTo pos (starEach es X.env)).any (·.1) = false := by rfl) :
    XN X c μ W (.Call (.Name x p) (e :: es) [] pos) (tCall (SpM c pm true f) [] E0 t) (mCallF pm.length f n) := ⟨pe_call F hr hg hm hk hb .nil hx ha.pa hdb he hpl, evo_call hp ha.ev⟩
/-! a method of a frozen instance -/
def mMethF (k np : Nat) (f : Sl → R D) (m : ME) (n : MA) : ME := fun sl => (m sl).bind fun o s => if isIns k o = true then ((n s).bind fun ds s2 => if ds.length + 1 = np then (match f ((o :: ds).map some) with
  | .ok d _ => .ok d s2
  | _ => .err) else .err) else .err
theorem isIns_rep {F H : Hp} {lk : Option Addr} (ag : Ag lk F H) {k : Nat} {m : Str} {v : V} {d : D} (hn : m ∉ c.nm k) (r : Rp c F v d) (h : isIns k d = true) : ∃ a dx fs, v = .ref a ∧ H a = some (.ins (c.C k) dx fs) ∧ fs.lookup m = none := by
  cases r with
  | @ins a dx k' fs vs ds h1 h2 h3 r =>
    have ek : k' = k := by simpa [isIns] using h
    subst ek
    refine ⟨a, dx, fs, rfl, ag.ins h1, ?_⟩
    have nf : m ∉ fs.map (·.1) := fun z => hn (by rw [h2] at z; exact List.mem_of_mem_take z)
    rw [List.lookup_eq_none_iff]
    intro p hp
    simp only [beq_eq_false_iff_ne, bne_iff_ne, ne_eq]
    intro z
    exact nf (by rw [z]; exact List.mem_map_of_mem hp)
  | _ => cases h
theorem ev_methF {ρ : Bool} {kc : Nat} {m : Str} {ta : TE} {mo : ME} {t : TA} {n : MA} (hn : m ∉ c.nm kc) (hp : ∀ i, i < pm.length → mdOf pm i = .frz) (ho : EvE c μ W ta mo) (h : EvA c μ W t n) :
    (ρ = false → EvE c μ W (tMeth (c.C kc) m (SpM c pm ρ f) [] E0 ta t) (mMethF kc pm.length f mo n)) ∧ (ρ = true → EvO c μ W (tMeth (c.C kc) m (SpM c pm ρ f) [] E0 ta t) (mMethF kc pm.length f mo n)) := by
  constructor
  · intro hρ
    subst hρ
    refine Evm.bind (κ := fun x σ H1 (Q : VK) => ∃ a dx fs, x = .ref a ∧ H1 a = some (.ins (c.C kc) dx fs) ∧ fs.lookup m = none ∧ t σ H1 fun vs H2 => SpM c pm false f (x :: (vs ++ [])) H2 Q E0) ho fun σ H F O sl x o Q re rx g => ?_
    by_cases hi : isIns kc o = true
    · rw [if_pos hi] at g
      obtain ⟨a, dx, fs, h1, h2, h3⟩ := isIns_rep re.ag hn rx hi
      refine ⟨a, dx, fs, h1, h2, h3, ?_⟩
      refine h σ H F O sl _ re ?_
      revert g
      cases en : n sl with
      | err => exact fun g => g
      | exc k fs s => exact fun g => g
      | ok ds s2 =>
        intro g vs F1 H1 O1 st1 re1 rs
        have g : GX (rD c) c μ W F H O σ Q (if ds.length + 1 = pm.length then (match f ((o :: ds).map some) with | .ok d _ => .ok d s2 | _ => .err) else .err) := g
        have rs' : Rps c F1 (x :: (vs ++ [])) (o :: ds) := by
          rw [List.append_nil]
          exact .cons (rx.mono st1.ff) rs
        by_cases hl : ds.length + 1 = pm.length
        · rw [if_pos hl] at g
          refine ⟨by rw [rs'.length]; exact hl, F1, _, o :: ds, hl, re1.args rs' hp hl, ?_⟩
          cases e : f ((o :: ds).map some) with
          | err => rw [e] at g; exact g.elim
          | exc k fs s => rw [e] at g; exact g.elim
          | ok d s =>
            rw [e] at g
            intro v F' H' O' Or st re' hf
            obtain ⟨r1, r2⟩ := re1.behind st re'
            exact g v F' H' O1 (st1.trans r2) r1 hf.1
        · rw [if_neg hl] at g
          exact g.elim
    · rw [if_neg hi] at g
      exact g.elim
  · intro hρ
    subst hρ
    refine Evm.bindO (κ := fun x σ H1 (Q : VK) => ∃ a dx fs, x = .ref a ∧ H1 a = some (.ins (c.C kc) dx fs) ∧ fs.lookup m = none ∧ t σ H1 fun vs H2 => SpM c pm true f (x :: (vs ++ [])) H2 Q E0) ho fun σ H F O sl x o Q re rx g => ?_
    by_cases hi : isIns kc o = true
    · rw [if_pos hi] at g
      obtain ⟨a, dx, fs, h1, h2, h3⟩ := isIns_rep re.ag hn rx hi
      refine ⟨a, dx, fs, h1, h2, h3, ?_⟩
      refine h σ H F O sl _ re ?_
      revert g
      cases en : n sl with
      | err => exact fun g => g
      | exc k fs s => exact fun g => g
      | ok ds s2 =>
        intro g vs F1 H1 O1 st1 re1 rs
        have g : GO c μ W F H O σ Q (if ds.length + 1 = pm.length then (match f ((o :: ds).map some) with | .ok d _ => .ok d s2 | _ => .err) else .err) := g
        have rs' : Rps c F1 (x :: (vs ++ [])) (o :: ds) := by
          rw [List.append_nil]
          exact .cons (rx.mono st1.ff) rs
        by_cases hl : ds.length + 1 = pm.length
        · rw [if_pos hl] at g
          refine ⟨by rw [rs'.length]; exact hl, F1, _, o :: ds, hl, re1.args rs' hp hl, ?_⟩
          cases e : f ((o :: ds).map some) with
          | err => rw [e] at g; exact g.elim
          | exc k fs s => rw [e] at g; exact g.elim
          | ok d s =>
            rw [e] at g
            intro v F' H' O' Or st re' hf
            obtain ⟨r1, r2⟩ := re1.behind st re'
            refine g v F' H' O1 Or (st1.trans r2) r1 hf.1 fun a ha => ?_
            obtain ⟨q1, q2, q3⟩ := hf.2 a ha
            exact ⟨q1, re1.new q3, st1.al a q3⟩
        · rw [if_neg hl] at g
          exact g.elim
    · rw [if_neg hi] at g
      exact g.elim
variable {kc : Nat} {m : Str} {apos : Pos} {o : Expr} {ta : TE} {mo : ME}
theorem xe_methF {pl : Sem Bool} (cl : Cls X.K (c.C kc)) (hm : Meth X.K (c.C kc) m fa) (F : FnOk X.prog X.w X.K X.mg X.base CX k fa fd ps (SpM c pm false f)) (hr : Room k X.A) (hb : Binds X.K fd ps []) (ho : XE X c μ W o ta mo) (ha : XA X c μ W (e :: es) t n) (hx : Passes CX X E0) (hn : m ∉ c.nm kc)
    (hp : ∀ i, i < pm.length → mdOf pm i = .frz := by decide)
    (hst : starEach (e :: es) X.env = (false, eval e X.env) :: starEach es X.env := by rfl) (hpl : (backTo pos (starEach es X.env)).any (·.1) = false := by rfl)
    (ht : eval (.Call (.Attribute o m apos) (e :: es) [] pos) X.env = (do
      let ov ← eval o X.env
      standAt apos.atName
      let (f, first) ← holding [ov] (getMethod ov m pl)
      callWith pos f first (backTo pos (starEach (e :: es) X.env)) (backToKw pos (keywordEach [] X.env))) := by rfl) :
    XE X c μ W (.Call (.Attribute o m apos) (e :: es) [] pos) (tMeth (c.C kc) m (SpM c pm false f) [] E0 ta t) (mMethF kc pm.length f mo n) := ⟨pe_meth ho.pe cl hm F hr hb .nil hx ha.pa hst hpl ht, (ev_methF hn hp ho.ev ha.ev).1 rfl⟩
theorem xn_methF {pl : Sem Bool} (cl : Cls X.K (c.C kc)) (hm : Meth X.K (c.C kc) m fa) (F : FnOk X.prog X.w X.K X.mg X.base CX k fa fd ps (SpM c pm true f)) (hr : Room k X.A) (hb : Binds X.K fd ps []) (ho : XE X c μ W o ta mo) (ha : XA X c μ W (e :: es) t n) (hx : Passes CX X E0) (hn : m ∉ c.nm kc)
    (hp : ∀ i, i < pm.length → mdOf pm i = .frz := by decide)
    (hst : starEach (e :: es) X.env = (false, eval e X.env) :: starEach es X.env := by rfl) (hpl : (backTo pos (starEach es X.env)).any (·.1) = false := by rfl)
    (ht : eval (.Call (.Attribute o m apos) (e :: es) [] pos) X.env = (do
      let ov ← eval o X.env
      standAt apos.atName
      let (f, first) ← holding [ov] (getMethod ov m pl)
      callWith pos f first (backTo pos (starEach (e :: es) X.env)) (backToKw pos (keywordEach [] X.env))) := by rfl) :
    XN X c μ W (.Call (.Attribute o m apos) (e :: es) [] pos) (tMeth (c.C kc) m (SpM c pm true f) [] E0 ta t) (mMethF kc pm.length f mo n) := ⟨pe_meth ho.pe cl hm F hr hb .nil hx ha.pa hst hpl ht, (ev_methF hn hp ho.ev ha.ev).2 rfl⟩
theorem xe_methF0 {pl : Sem Bool} (cl : Cls X.K (c.C kc)) (hm : Meth X.K (c.C kc) m fa) (F : FnOk X.prog X.w X.K X.mg X.base CX k fa fd ps (SpM c pm false f)) (hr : Room k X.A) (hb : Binds X.K fd ps []) (ho : XE X c μ W o ta mo) (hx : Passes CX X E0) (hn : m ∉ c.nm kc)
    (hp : ∀ i, i < pm.length → mdOf pm i = .frz := by decide)
    (ht : eval (.Call (.Attribute o m apos) [] [] pos) X.env = (do
      let ov ← eval o X.env
      standAt apos.atName
      let (f, first) ← holding [ov] (getMethod ov m pl)
      callWith pos f first (backTo pos (starEach [] X.env)) (backToKw pos (keywordEach [] X.env))) := by rfl) :
    XE X c μ W (.Call (.Attribute o m apos) [] [] pos) (tMeth (c.C kc) m (SpM c pm false f) [] E0 ta tNil) (mMethF kc pm.length f mo mNil) := ⟨pe_meth0 ho.pe cl hm F hr hb .nil hx ht, (ev_methF hn hp ho.ev ev_nil).1 rfl⟩
theorem xn_methF0 {pl : Sem Bool} (cl : Cls X.K (c.C kc)) (hm : Meth X.K (c.C kc) m fa) (F : FnOk X.prog X.w X.K X.mg X.base CX k fa fd ps (SpM c pm true f)) (hr : Room k X.A) (hb : Binds X.K fd ps []) (ho : XE X c μ W o ta mo) (hx : Passes CX X E0) (hn : m ∉ c.nm kc)
    (hp : ∀ i, i < pm.length → mdOf pm i = .frz := by decide)
    (ht : eval (.Call (.Attribute o m apos) [] [] pos) X.env = (do
      let ov ← eval o X.env
      standAt apos.atName
      let (f, first) ← holding [ov] (getMethod ov m pl)
      callWith pos f first (backTo pos (starEach [] X.env)) (backToKw pos (keywordEach [] X.env))) := by rfl) :
    XN X c μ W (.Call (.Attribute o m apos) [] [] pos) (tMeth (c.C kc) m (SpM c pm true f) [] E0 ta tNil) (mMethF kc pm.length f mo mNil) := ⟨pe_meth0 ho.pe cl hm F hr hb .nil hx ht, (ev_methF hn hp ho.ev ev_nil).2 rfl⟩
end
end MM

set_option Elab.async false
set_option linter.all false
set_option maxRecDepth 100000
set_option maxHeartbeats 2000000
/-! The value layer, part k: calls that change an owned thing, instances made, dicts walked. -/
namespace MM
open PySem PySem.Spec PyProof.Rows L2

section
variable {c : CI} {X : Cx} {μ pm : Ms} {W : WX} {f : Sl → R D}
def oc (L : List Addr) : Os := fun j => if j = 0 then L else []
theorem oc_mem {L : List Addr} {j : Nat} {a : Addr} (h : a ∈ oc L j) : a ∈ L := by
  unfold oc at h
  split at h
  · exact h
  · exact nomatch h
/-- an owned thing, then frozen arguments, to a callee -/
theorem args_own {F H : Hp} {vs : List V} {ds : List D} {v0 : V} {d0 : D} {L : List Addr} (ag : Ag c.lk F H) (ow : Ow c c.md F H v0 d0 L) (fr : ∀ a, a ∈ L → F a = none) (rs : Rps c F vs ds) (h0 : mdOf pm 0 = .pin) (hp : ∀ i, i < pm.length → i ≠ 0 → mdOf pm i = .frz) (hl : ds.length + 1 = pm.length) :
    Re c pm F H ((v0 :: vs).map some) ((d0 :: ds).map some) (oc L) := by
  refine ⟨ag, by rw [List.length_map, List.length_map, List.length_cons, List.length_cons, rs.length], fun i d h => ?_, fun i h => ?_, fun i j a h1 h2 => ?_, fun i a h => fr a (oc_mem h)⟩
  · cases i with
    | zero =>
      have e : d0 = d := by simpa using h
      subst e
      exact ⟨v0, rfl, by rw [h0]; exact ow⟩
    | succ i =>
      have h : (ds.map some)[i]? = some (some d) := by simpa using h
      rw [List.getElem?_map] at h
      cases e : ds[i]? with
      | none => rw [e] at h; cases h
      | some d' =>
        rw [e] at h
        cases h
        obtain ⟨v, h1, h2⟩ := rs.get e
        refine ⟨v, by simp [h1], ?_⟩
        rw [hp (i + 1) (by have := (List.getElem?_eq_some_iff.mp e).1; omega) (Nat.succ_ne_zero i)]
        exact ⟨h2, rfl⟩
  · cases i with
    | zero => exact absurd rfl (h d0)
    | succ i => rfl
  · unfold oc at h1 h2
    split at h1
    · split at h2
      · omega
      · exact nomatch h2
    · exact nomatch h1
/-- behind a call that may have changed slot i's thing -/
theorem Re.behindI {F H F' H' : Hp} {σ : St} {sl s2 : Sl} {O O2 : Os} {i : Nat} {v0 : V} {vs : List V} {d0 d1 : D} (re : Re c μ F H σ sl O) (hm : mdOf μ i = .own ∨ mdOf μ i = .pin) (hs : sl[i]? = some (some d0)) (hv : σ[i]? = some (some v0)) (h0 : mdOf pm 0 = .pin)
    (st : Stp F H (oc (O i)) F' H' O2) (re2 : Re c pm F' H' ((v0 :: vs).map some) s2 O2) (hd1 : s2[0]? = some (some d1)) :
    Re c μ F' H' σ (sl.set i (some d1)) (fun j => if j = i then O2 0 else O j) ∧ Stp F H O F' H' (fun j => if j = i then O2 0 else O j) := by
  have hi : i < sl.length := (List.getElem?_eq_some_iff.mp hs).1
  obtain ⟨v1, e1, ow⟩ := re2.at_ 0 d1 hd1
  have ev : v1 = v0 := by
    have e : some (some v0) = some (some v1) := e1
    exact (Option.some.inj (Option.some.inj e)).symm
  subst ev
  rw [h0] at ow
  have keep : ∀ j a, j ≠ i → a ∈ O j → ∀ o, H a = some o → H' a = some o := fun j a hj ha o ho => st.kp a o ho fun l hl => hj (re.dis j i a ha (oc_mem hl))
  have frO : ∀ j a, j ≠ i → a ∈ O j → F' a = none := fun j a hj ha => by
    cases q : F' a with
    | none => rfl
    | some o =>
      obtain ⟨u, hu⟩ := re.there ha
      rcases st.fo a o q with z | z | ⟨l, z⟩
      · rw [re.fre j a ha] at z; cases z
      · rw [hu] at z; cases z
      · exact absurd (re.dis j i a ha (oc_mem z)) hj
  have new2 : ∀ a, a ∈ O2 0 → H a = none ∨ a ∈ O i := fun a ha => by
    rcases st.ow 0 a ha with z | ⟨l, z⟩
    · exact .inl z
    · exact .inr (oc_mem z)
  refine ⟨⟨re2.ag, by rw [List.length_set]; exact re.len, fun j d h => ?_, fun j h => ?_, fun j l a h1 h2 => ?_, fun j a h => ?_⟩, st.ff, fun a o ho n => st.kp a o ho fun l hl => n i (oc_mem hl), fun a o q => ?_, fun j a h => ?_, st.al, fun j => ?_⟩
  · by_cases q : i = j
    · subst q
      rw [List.getElem?_set_self hi] at h
      cases h
      rw [if_pos rfl]
      refine ⟨v1, hv, ?_⟩
      rcases hm with e | e <;> (rw [e]; exact ow)
    · rw [List.getElem?_set_ne q] at h
      rw [if_neg (Ne.symm q)]
      obtain ⟨v2, q1, q2⟩ := re.at_ j d h
      exact ⟨v2, q1, q2.mono st.ff fun a ha o ho => keep j a (Ne.symm q) ha o ho⟩
  · by_cases q : i = j
    · subst q
      exact absurd (List.getElem?_set_self hi) (h d1)
    · rw [if_neg (Ne.symm q)]
      exact re.emp j fun d2 w1 => h d2 (by rw [List.getElem?_set_ne q]; exact w1)
  · have key : ∀ j a, j ≠ i → a ∈ O2 0 → a ∈ O j → False := fun j a hj ha hb => by
      rcases new2 a ha with z | z
      · obtain ⟨u, hu⟩ := re.there hb
        rw [z] at hu; cases hu
      · exact hj (re.dis j i a hb z)
    by_cases q1 : j = i
    · by_cases q2 : l = i
      · rw [q1, q2]
      · rw [if_pos q1] at h1
        rw [if_neg q2] at h2
        exact (key l a q2 h1 h2).elim
    · by_cases q2 : l = i
      · rw [if_neg q1] at h1
        rw [if_pos q2] at h2
        exact (key j a q1 h2 h1).elim
      · rw [if_neg q1] at h1
        rw [if_neg q2] at h2
        exact re.dis j l a h1 h2
  · by_cases q : j = i
    · rw [if_pos q] at h
      exact re2.fre 0 a h
    · rw [if_neg q] at h
      exact frO j a q h
  · rcases st.fo a o q with z | z | ⟨l, z⟩
    · exact .inl z
    · exact .inr (.inl z)
    · exact .inr (.inr ⟨i, oc_mem z⟩)
  · by_cases q : j = i
    · have h : a ∈ (if j = i then O2 0 else O j) := h
      rw [if_pos q] at h
      rcases new2 a h with z | z
      · exact .inl z
      · exact .inr ⟨i, z⟩
    · have h : a ∈ (if j = i then O2 0 else O j) := h
      rw [if_neg q] at h
      exact .inr ⟨j, h⟩
  · show (∃ N, (if j = i then O2 0 else O j) = O j ++ N ∧ _) ∨ (if j = i then O2 0 else O j) = [] ∨ ∀ a, a ∈ (if j = i then O2 0 else O j) → H a = none
    by_cases q : j = i
    · subst q
      rw [if_pos rfl]
      exact st.pk 0
    · rw [if_neg q]
      exact pk_refl _
/-- f(x_i, ..), x_i owned -/
def mCallI (i np : Nat) (f : Sl → R D) (n : MA) : ME := fun sl => match sl[i]? with
  | some (some _) => (n sl).bind fun ds s => (match s[i]? with
    | some (some d0) => if ds.length + 1 = np then (match f ((d0 :: ds).map some) with
      | .ok d s2 => (match s2[0]? with
        | some (some d1) => .ok d (s.set i (some d1))
        | _ => .err)
      | _ => .err) else .err
    | _ => .err)
  | _ => .err
theorem own_at {F H F' H' : Hp} {σ : St} {sl s : Sl} {O O' : Os} {i : Nat} {d d' : D} (hm : mdOf μ i = .own ∨ mdOf μ i = .pin) (re : Re c μ F H σ sl O) (h : sl[i]? = some (some d)) (re' : Re c μ F' H' σ s O') (h' : s[i]? = some (some d')) :
    ∃ v, σ[i]? = some (some v) ∧ Ow c c.md F H v d (O i) ∧ Ow c c.md F' H' v d' (O' i) := by
  obtain ⟨v, e1, o1⟩ := re.own hm h
  obtain ⟨v', e2, o2⟩ := re'.own hm h'
  have e : v' = v := by rw [e1] at e2; exact (Option.some.inj (Option.some.inj e2)).symm
  subst e
  exact ⟨v', e1, o1, o2⟩
theorem ev_callI {i : Nat} {t : TA} {n : MA} (hm : mdOf μ i = .own ∨ mdOf μ i = .pin) (h0 : mdOf pm 0 = .pin) (hp : ∀ j, j < pm.length → j ≠ 0 → mdOf pm j = .frz) (h : EvA c μ W t n) : EvE c μ W (tCall (SpM c pm false f) [] E0 (tCons (tVar i) t)) (mCallI i pm.length f n) := by
  intro σ H F O sl Q re g
  unfold mCallI at g
  split at g
  · rename_i d00 e00
    obtain ⟨v0, hv0, _⟩ := re.own hm e00
    refine ⟨v0, hv0, ?_⟩
    refine h σ H F O sl _ re ?_
    revert g
    cases en : n sl with
    | err => exact fun g => g
    | exc k fs s => exact fun g => g
    | ok ds s =>
      intro g vs F1 H1 O1 st1 re1 rs
      show SpM c pm false f ((v0 :: vs) ++ []) H1 Q E0
      rw [List.append_nil]
      have g : GX (rD c) c μ W F H O σ Q (match s[i]? with
        | some (some d0) => if ds.length + 1 = pm.length then (match f ((d0 :: ds).map some) with
          | .ok d s2 => (match s2[0]? with
            | some (some d1) => .ok d (s.set i (some d1))
            | _ => .err)
          | _ => .err) else .err
        | _ => .err) := g
      split at g
      · rename_i d0 e0
        obtain ⟨v0', h1, _, ow⟩ := own_at hm re e00 re1 e0
        have ev : v0' = v0 := by rw [hv0] at h1; exact (Option.some.inj (Option.some.inj h1)).symm
        subst ev
        by_cases hl : ds.length + 1 = pm.length
        · rw [if_pos hl] at g
          refine ⟨by rw [List.length_cons, rs.length]; exact hl, F1, _, d0 :: ds, hl, args_own re1.ag ow (fun a ha => re1.fre i a ha) rs h0 hp hl, ?_⟩
          cases e : f ((d0 :: ds).map some) with
          | err => rw [e] at g; exact g.elim
          | exc k fs s => rw [e] at g; exact g.elim
          | ok d s2 =>
            rw [e] at g
            dsimp only at g
            intro v F' H' O' Or st re' hf
            split at g
            · rename_i d1 e1
              obtain ⟨r1, r2⟩ := re1.behindI hm e0 hv0 h0 st re' e1
              exact g v F' H' _ (st1.trans r2) r1 hf.1
            · exact g.elim
        · rw [if_neg hl] at g
          exact g.elim
      · exact g.elim
  · exact g.elim
theorem evo_callI {i : Nat} {t : TA} {n : MA} (hm : mdOf μ i = .own ∨ mdOf μ i = .pin) (h0 : mdOf pm 0 = .pin) (hp : ∀ j, j < pm.length → j ≠ 0 → mdOf pm j = .frz) (h : EvA c μ W t n) : EvO c μ W (tCall (SpM c pm true f) [] E0 (tCons (tVar i) t)) (mCallI i pm.length f n) := by
  intro σ H F O sl Q re g
  unfold mCallI at g
  split at g
  · rename_i d00 e00
    obtain ⟨v0, hv0, _⟩ := re.own hm e00
    refine ⟨v0, hv0, ?_⟩
    refine h σ H F O sl _ re ?_
    revert g
    cases en : n sl with
    | err => exact fun g => g
    | exc k fs s => exact fun g => g
    | ok ds s =>
      intro g vs F1 H1 O1 st1 re1 rs
      show SpM c pm true f ((v0 :: vs) ++ []) H1 Q E0
      rw [List.append_nil]
      have g : GO c μ W F H O σ Q (match s[i]? with
        | some (some d0) => if ds.length + 1 = pm.length then (match f ((d0 :: ds).map some) with
          | .ok d s2 => (match s2[0]? with
            | some (some d1) => .ok d (s.set i (some d1))
            | _ => .err)
          | _ => .err) else .err
        | _ => .err) := g
      split at g
      · rename_i d0 e0
        obtain ⟨v0', h1, _, ow⟩ := own_at hm re e00 re1 e0
        have ev : v0' = v0 := by rw [hv0] at h1; exact (Option.some.inj (Option.some.inj h1)).symm
        subst ev
        by_cases hl : ds.length + 1 = pm.length
        · rw [if_pos hl] at g
          refine ⟨by rw [List.length_cons, rs.length]; exact hl, F1, _, d0 :: ds, hl, args_own re1.ag ow (fun a ha => re1.fre i a ha) rs h0 hp hl, ?_⟩
          cases e : f ((d0 :: ds).map some) with
          | err => rw [e] at g; exact g.elim
          | exc k fs s => rw [e] at g; exact g.elim
          | ok d s2 =>
            rw [e] at g
            dsimp only at g
            intro v F' H' O' Or st re' hf
            split at g
            · rename_i d1 e1
              obtain ⟨r1, r2⟩ := re1.behindI hm e0 hv0 h0 st re' e1
              refine g v F' H' _ Or (st1.trans r2) r1 hf.1 fun a ha => ?_
              obtain ⟨q1, q2, q3⟩ := hf.2 a ha
              refine ⟨q1, fun j hj => ?_, st1.al a q3⟩
              have hj : a ∈ (if j = i then O' 0 else O1 j) := hj
              split at hj
              · exact q2 0 hj
              · exact re1.new q3 j hj
            · exact g.elim
        · rw [if_neg hl] at g
          exact g.elim
      · exact g.elim
  · exact g.elim
variable {k : Nat} {fa : Addr} {fd : FuncData} {ps : List Str} {x y : Str} {p py pos : Pos} {es : List Expr} {t : TA} {n : MA} {CX : CXT}
theorem xe_callI (i : Nat) (F : FnOk X.prog X.w X.K X.mg X.base CX k fa fd ps (SpM c pm false f)) (hr : Room k X.A) (hm : X.mg x = some (.ref fa)) (hk : PySem.W.keepIn X.K (.ref fa) = true) (hb : Binds X.K fd ps []) (ha : XA X c μ W es t n) (hx : Passes CX X E0)
    (h0 : mdOf pm 0 = .pin := by rfl) (hp : ∀ j, j < pm.length → j ≠ 0 → mdOf pm j = .frz := by decide) (hmi : mdOf μ i = .own ∨ mdOf μ i = .pin := by decide)
    (hN : X.N[i]? = some y := by rfl) (hv : Vis X.env.scope y := by first | exact Or.inl rfl | exact Or.inr (Or.inl rfl) | exact Or.inr (Or.inr rfl)) (hd : (y == ("__debug__" : Str)) = false := by decide) (hcd : (y == ("__classdict__" : Str)) = false := by decide)
    (hg : Gl X x := by rfl) (hdb : (x == ("__debug__" : Str)) = false := by decide) (he : starEach (.Name y py :: es) X.env = (false, eval (.Name y py) X.env) :: starEach es X.env := by rfl) (hpl : (backTo pos (starEach es X.env)).any (·.1) = false := by rfl) :
    XE X c μ W (.Call (.Name x p) (.Name y py :: es) [] pos) (tCall (SpM c pm false f) [] E0 (tCons (tVar i) t)) (mCallI i pm.length f n) := ⟨pe_call F hr hg hm hk hb .nil hx (pa_cons (pe_var hN hv hd hcd) ha.pa he) hdb he hpl, ev_callI hmi h0 hp ha.ev⟩
theorem xn_callI (i : Nat) (F : FnOk X.prog X.w X.K X.mg X.base CX k fa fd ps (SpM c pm true f)) (hr : Room k X.A) (hm : X.mg x = some (.ref fa)) (hk : PySem.W.keepIn X.K (.ref fa) = true) (hb : Binds X.K fd ps []) (ha : XA X c μ W es t n) (hx : Passes CX X E0)
    (h0 : mdOf pm 0 = .pin := by rfl) (hp : ∀ j, j < pm.length → j ≠ 0 → mdOf pm j = .frz := by decide) (hmi : mdOf μ i = .own ∨ mdOf μ i = .pin := by decide)
    (hN : X.N[i]? = some y := by rfl) (hv : Vis X.env.scope y := by first | exact Or.inl rfl | exact Or.inr (Or.inl rfl) | exact Or.inr (Or.inr rfl)) (hd : (y == ("__debug__" : Str)) = false := by decide) (hcd : (y == ("__classdict__" : Str)) = false := by decide)
    (hg : Gl X x := by rfl) (hdb : (x == ("__debug__" : Str)) = false := by decide) (he : starEach (.Name y py :: es) X.env = (false, eval (.Name y py) X.env) :: starEach es X.env := by rfl) (hpl : (backTo pos (starEach es X.env)).any (·.1) = false := by rfl) :
    XN X c μ W (.Call (.Name x p) (.Name y py :: es) [] pos) (tCall (SpM c pm true f) [] E0 (tCons (tVar i) t)) (mCallI i pm.length f n) := ⟨pe_call F hr hg hm hk hb .nil hx (pa_cons (pe_var hN hv hd hcd) ha.pa he) hdb he hpl, evo_callI hmi h0 hp ha.ev⟩
/-! a method of an owned instance in slot i -/
def mMethI (i kc np : Nat) (f : Sl → R D) (n : MA) : ME := fun sl => match sl[i]? with
  | some (some o) => if isIns kc o = true then mCallI i np f n sl else .err
  | _ => .err
theorem ow_ins {F H : Hp} {md : Nat → List Bool} {v : V} {d : D} {L : List Addr} {kc : Nat} {m : Str} (hn : m ∉ c.nm kc) (ow : Ow c md F H v d L) (h : isIns kc d = true) : ∃ a dx fs, v = .ref a ∧ H a = some (.ins (c.C kc) dx fs) ∧ fs.lookup m = none := by
  cases ow with
  | one h1 => cases h1 <;> cases h
  | @ins a dx k' fs ds O1 h1 h2 h3 r nd =>
    have ek : k' = kc := by simpa [isIns] using h
    subst ek
    refine ⟨a, dx, fs, rfl, h1, ?_⟩
    have nf : m ∉ fs.map (·.1) := fun z => hn (by rw [h3] at z; exact List.mem_of_mem_take z)
    rw [List.lookup_eq_none_iff]
    intro p hp
    simp only [beq_eq_false_iff_ne, bne_iff_ne, ne_eq]
    intro z
    exact nf (by rw [z]; exact List.mem_map_of_mem hp)
theorem ev_methI {i kc : Nat} {m : Str} (hn : m ∉ c.nm kc) (hm : mdOf μ i = .own ∨ mdOf μ i = .pin) (h0 : mdOf pm 0 = .pin) (hp : ∀ j, j < pm.length → j ≠ 0 → mdOf pm j = .frz) (h : EvA c μ W t n) : EvE c μ W (tMeth (c.C kc) m (SpM c pm false f) [] E0 (tVar i) t) (mMethI i kc pm.length f n) := by
  intro σ H F O sl Q re g
  unfold mMethI at g
  split at g
  · rename_i o eo
    by_cases hi : isIns kc o = true
    · rw [if_pos hi] at g
      obtain ⟨v0, hv0, ow⟩ := re.own hm eo
      obtain ⟨a, dx, fs, q1, q2, q3⟩ := ow_ins hn ow hi
      have key := ev_callI (f := f) hm h0 hp h σ H F O sl Q re g
      obtain ⟨v1, e1, k1⟩ := key
      have ev : v1 = v0 := by rw [hv0] at e1; exact (Option.some.inj (Option.some.inj e1)).symm
      subst ev
      exact ⟨v1, hv0, a, dx, fs, q1, q2, q3, k1⟩
    · rw [if_neg hi] at g
      exact g.elim
  · exact g.elim
variable {kc : Nat} {m : Str} {apos : Pos} {e : Expr}
theorem xe_methI {pl : Sem Bool} (i : Nat) (cl : Cls X.K (c.C kc)) (hm : Meth X.K (c.C kc) m fa) (F : FnOk X.prog X.w X.K X.mg X.base CX k fa fd ps (SpM c pm false f)) (hr : Room k X.A) (hb : Binds X.K fd ps []) (ha : XA X c μ W (e :: es) t n) (hx : Passes CX X E0) (hn : m ∉ c.nm kc)
    (h0 : mdOf pm 0 = .pin := by rfl) (hp : ∀ j, j < pm.length → j ≠ 0 → mdOf pm j = .frz := by decide) (hmi : mdOf μ i = .own ∨ mdOf μ i = .pin := by decide)
    (hN : X.N[i]? = some y := by rfl) (hv : Vis X.env.scope y := by first | exact Or.inl rfl | exact Or.inr (Or.inl rfl) | exact Or.inr (Or.inr rfl)) (hd : (y == ("__debug__" : Str)) = false := by decide) (hcd : (y == ("__classdict__" : Str)) = false := by decide)
    (hst : starEach (e :: es) X.env = (false, eval e X.env) :: starEach es X.env := by rfl) (hpl : (backTo pos (starEach es X.env)).any (·.1) = false := by rfl)
    (ht : eval (.Call (.Attribute (.Name y py) m apos) (e :: es) [] pos) X.env = (do
      let ov ← eval (.Name y py) X.env
      standAt apos.atName
      let (f, first) ← holding [ov] (getMethod ov m pl)
      callWith pos f first (backTo pos (starEach (e :: es) X.env)) (backToKw pos (keywordEach [] X.env))) := by rfl) :
    XE X c μ W (.Call (.Attribute (.Name y py) m apos) (e :: es) [] pos) (tMeth (c.C kc) m (SpM c pm false f) [] E0 (tVar i) t) (mMethI i kc pm.length f n) := ⟨pe_meth (pe_var hN hv hd hcd) cl hm F hr hb .nil hx ha.pa hst hpl ht, ev_methI hn hmi h0 hp ha.ev⟩
theorem xe_methI0 {pl : Sem Bool} (i : Nat) (cl : Cls X.K (c.C kc)) (hm : Meth X.K (c.C kc) m fa) (F : FnOk X.prog X.w X.K X.mg X.base CX k fa fd ps (SpM c pm false f)) (hr : Room k X.A) (hb : Binds X.K fd ps []) (hx : Passes CX X E0) (hn : m ∉ c.nm kc)
    (h0 : mdOf pm 0 = .pin := by rfl) (hp : ∀ j, j < pm.length → j ≠ 0 → mdOf pm j = .frz := by decide) (hmi : mdOf μ i = .own ∨ mdOf μ i = .pin := by decide)
    (hN : X.N[i]? = some y := by rfl) (hv : Vis X.env.scope y := by first | exact Or.inl rfl | exact Or.inr (Or.inl rfl) | exact Or.inr (Or.inr rfl)) (hd : (y == ("__debug__" : Str)) = false := by decide) (hcd : (y == ("__classdict__" : Str)) = false := by decide)
    (ht : eval (.Call (.Attribute (.Name y py) m apos) [] [] pos) X.env = (do
      let ov ← eval (.Name y py) X.env
      standAt apos.atName
      let (f, first) ← holding [ov] (getMethod ov m pl)
      callWith pos f first (backTo pos (starEach [] X.env)) (backToKw pos (keywordEach [] X.env))) := by rfl) :
    XE X c μ W (.Call (.Attribute (.Name y py) m apos) [] [] pos) (tMeth (c.C kc) m (SpM c pm false f) [] E0 (tVar i) tNil) (mMethI i kc pm.length f mNil) := ⟨pe_meth0 (pe_var hN hv hd hcd) cl hm F hr hb .nil hx ht, ev_methI hn hmi h0 hp ev_nil⟩
/-! an instance made here and now, one method called of it -/
theorem Re.behindT {F0 H0 F H F' H' : Hp} {σ : St} {sl : Sl} {O0 O O2 : Os} {Or : List Addr} (re : Re c μ F H σ sl O) (st0 : Stp F0 H0 O0 F H O) (nO : ∀ a, a ∈ Or → (∀ i, a ∉ O i) ∧ H0 a = none) (st : Stp F H (oc Or) F' H' O2) (ag : Ag c.lk F' H') :
    Re c μ F' H' σ sl O ∧ Stp F0 H0 O0 F' H' O := by
  refine ⟨re.mono st.ff ag (fun i a ha o h => st.kp a o h fun l hl => (nO a (oc_mem hl)).1 i ha) fun i a ha => ?_, st0.ff.trans st.ff, fun a o h n => st.kp a o (st0.kp a o h n) (fun l hl => (by rw [(nO a (oc_mem hl)).2] at h; cases h)), fun a o h => ?_, st0.ow, fun a h => st0.al a (st.al a h), st0.pk⟩
  · cases q : F' a with
    | none => rfl
    | some o =>
      obtain ⟨u, hu⟩ := re.there ha
      rcases st.fo a o q with z | z | ⟨l, z⟩
      · rw [re.fre i a ha] at z; cases z
      · rw [hu] at z; cases z
      · exact absurd ha ((nO a (oc_mem z)).1 i)
  · rcases st.fo a o h with z | z | ⟨l, z⟩
    · exact st0.fo a o z
    · exact .inr (.inl (st0.al a z))
    · exact .inr (.inl (nO a (oc_mem z)).2)
def mMethT (kc np : Nat) (f : Sl → R D) (m : ME) (n : MA) : ME := fun sl => (m sl).bind fun o s => if isIns kc o = true then ((n s).bind fun ds s2 => if ds.length + 1 = np then (match f ((o :: ds).map some) with
  | .ok d _ => .ok d s2
  | _ => .err) else .err) else .err
theorem ev_methT {ta : TE} {mo : ME} (hn : m ∉ c.nm kc) (h0 : mdOf pm 0 = .pin) (hp : ∀ j, j < pm.length → j ≠ 0 → mdOf pm j = .frz) (ho : EvO c μ W ta mo) (h : EvA c μ W t n) : EvE c μ W (tMeth (c.C kc) m (SpM c pm false f) [] E0 ta t) (mMethT kc pm.length f mo n) := by
  intro σ H F O sl Q re g
  refine ho σ H F O sl _ re ?_
  have g : GX (rD c) c μ W F H O σ Q ((mo sl).bind fun o s => if isIns kc o = true then ((n s).bind fun ds s2 => if ds.length + 1 = pm.length then (match f ((o :: ds).map some) with
    | .ok d _ => .ok d s2
    | _ => .err) else .err) else .err) := g
  revert g
  cases eo : mo sl with
  | err => exact fun g => g
  | exc k fs s => exact fun g => g
  | ok o s =>
    intro g v0 F1 H1 O1 Or st1 re1 ow q
    have g : GX (rD c) c μ W F H O σ Q (if isIns kc o = true then ((n s).bind fun ds s2 => if ds.length + 1 = pm.length then (match f ((o :: ds).map some) with
      | .ok d _ => .ok d s2
      | _ => .err) else .err) else .err) := g
    by_cases hi : isIns kc o = true
    · rw [if_pos hi] at g
      obtain ⟨a, dx, fs, q1, q2, q3⟩ := ow_ins hn ow hi
      refine ⟨a, dx, fs, q1, q2, q3, ?_⟩
      refine h σ H1 F1 O1 s _ re1 ?_
      revert g
      cases en : n s with
      | err => exact fun g => g
      | exc k fs s => exact fun g => GX.from st1 g
      | ok ds s2 =>
        intro g vs F2 H2 O2 st2 re2 rs
        rw [List.append_nil]
        have g : GX (rD c) c μ W F H O σ Q (if ds.length + 1 = pm.length then (match f ((o :: ds).map some) with | .ok d _ => .ok d s2 | _ => .err) else .err) := g
        have alive : ∀ a, a ∈ Or → ∃ u, H1 a = some u := fun a ha => ow.there a ha
        have keep : ∀ a, a ∈ Or → ∀ u, H1 a = some u → H2 a = some u := fun a ha u hu => st2.kp a u hu (q a ha).2.1
        have ow2 : Ow c c.md F2 H2 v0 o Or := ow.mono st2.ff keep
        have fr2 : ∀ a, a ∈ Or → F2 a = none := fun a ha => by
          cases z : F2 a with
          | none => rfl
          | some u =>
            obtain ⟨u1, hu1⟩ := alive a ha
            rcases st2.fo a u z with y | y | ⟨l, y⟩
            · rw [(q a ha).1] at y; cases y
            · rw [hu1] at y; cases y
            · exact absurd y ((q a ha).2.1 l)
        have nO2 : ∀ a, a ∈ Or → (∀ i, a ∉ O2 i) ∧ H a = none := fun a ha => ⟨fun i hi2 => by
          obtain ⟨u1, hu1⟩ := alive a ha
          rcases st2.ow i a hi2 with y | ⟨l, y⟩
          · rw [hu1] at y; cases y
          · exact (q a ha).2.1 l y, (q a ha).2.2⟩
        by_cases hl : ds.length + 1 = pm.length
        · rw [if_pos hl] at g
          refine ⟨by rw [List.length_cons, rs.length]; exact hl, F2, _, o :: ds, hl, args_own re2.ag ow2 fr2 rs h0 hp hl, ?_⟩
          cases e : f ((o :: ds).map some) with
          | err => rw [e] at g; exact g.elim
          | exc k fs s => rw [e] at g; exact g.elim
          | ok d s3 =>
            rw [e] at g
            intro v F' H' O' Or' st re' hf
            obtain ⟨r1, r2⟩ := re2.behindT (st1.trans st2) nO2 st re'.ag
            exact g v F' H' O2 r2 r1 hf.1
        · rw [if_neg hl] at g
          exact g.elim
    · rw [if_neg hi] at g
      exact g.elim
theorem xe_methT {pl : Sem Bool} {o : Expr} {ta : TE} {mo : ME} (cl : Cls X.K (c.C kc)) (hm : Meth X.K (c.C kc) m fa) (F : FnOk X.prog X.w X.K X.mg X.base CX k fa fd ps (SpM c pm false f)) (hr : Room k X.A) (hb : Binds X.K fd ps []) (ho : XN X c μ W o ta mo) (ha : XA X c μ W (e :: es) t n) (hx : Passes CX X E0) (hn : m ∉ c.nm kc)
    (h0 : mdOf pm 0 = .pin := by rfl) (hp : ∀ j, j < pm.length → j ≠ 0 → mdOf pm j = .frz := by decide)
    (hst : starEach (e :: es) X.env = (false, eval e X.env) :: starEach es X.env := by rfl) (hpl : (backTo pos (starEach es X.env)).any (·.1) = false := by rfl)
    (ht : eval (.Call (.Attribute o m apos) (e :: es) [] pos) X.env = (do
      let ov ← eval o X.env
      standAt apos.atName
      let (f, first) ← holding [ov] (getMethod ov m pl)
      callWith pos f first (backTo pos (starEach (e :: es) X.env)) (backToKw pos (keywordEach [] X.env))) := by rfl) :
    XE X c μ W (.Call (.Attribute o m apos) (e :: es) [] pos) (tMeth (c.C kc) m (SpM c pm false f) [] E0 ta t) (mMethT kc pm.length f mo n) := ⟨pe_meth ho.pe cl hm F hr hb .nil hx ha.pa hst hpl ht, ev_methT hn h0 hp ho.ev ha.ev⟩
/-! C(..) -/
def mMake (kc np : Nat) (f : Sl → R D) (n : MA) : ME := fun sl => (n sl).bind fun ds s => if ds.length + 1 = np then (match f ((.ins kc [] :: ds).map some) with
  | .ok .non s2 => (match s2[0]? with
    | some (some d1) => .ok d1 s
    | _ => .err)
  | _ => .err) else .err
theorem evo_make (h0 : mdOf pm 0 = .pin) (hp : ∀ j, j < pm.length → j ≠ 0 → mdOf pm j = .frz) (h : EvA c μ W t n) : EvO c μ W (tMake (c.C kc) (SpM c pm false f) [] E0 t) (mMake kc pm.length f n) := by
  refine Evm.bindO (κ := fun vs σ H1 (Q : VK) => ∀ x dx, H1 x = none → H1 dx = none → dx ≠ x → SpM c pm false f (.ref x :: (vs ++ [])) (upd (upd H1 dx (.own x)) x (.ins (c.C kc) dx [])) (fun v H2 => v = .non ∧ Q (.ref x) H2) E0) h fun σ H F O sl vs ds Q re rs g => ?_
  intro x dx hx hdx hne
  rw [List.append_nil]
  have hx2 : upd (upd H dx (.own x)) x (.ins (c.C kc) dx []) x = some (.ins (c.C kc) dx []) := upd_same
  have hdx2 : upd (upd H dx (.own x)) x (.ins (c.C kc) dx []) dx = some (.own x) := by rw [upd_ne hne]; exact upd_same
  have old : ∀ a o, H a = some o → upd (upd H dx (.own x)) x (.ins (c.C kc) dx []) a = some o := fun a o e => by rw [upd_ne (ne_of_none e hx), upd_ne (ne_of_none e hdx)]; exact e
  have al2 : ∀ a, upd (upd H dx (.own x)) x (.ins (c.C kc) dx []) a = none → H a = none := fun a e => upd_al a (upd_al a e)
  have ag2 : Ag c.lk F (upd (upd H dx (.own x)) x (.ins (c.C kc) dx [])) := fun a o e => by
    rcases re.ag a o e with z | ⟨l, kvs, ob, e1, z⟩
    · exact .inl (old a _ z)
    · exact .inr ⟨l, kvs, ob, e1, old a _ z⟩
  have ow : Ow c c.md F (upd (upd H dx (.own x)) x (.ins (c.C kc) dx [])) (.ref x) (.ins kc []) [x, dx] :=
    .ins hx2 hdx2 rfl (.nil _) (List.nodup_cons.mpr ⟨by simpa using Ne.symm hne, by simp⟩)
  have fr : ∀ a, a ∈ [x, dx] → F a = none := fun a ha => by
    rcases List.mem_cons.mp ha with e | e
    · rw [e]; exact re.ag.non hx
    · rw [List.mem_singleton.mp e]; exact re.ag.non hdx
  by_cases hl : ds.length + 1 = pm.length
  · rw [if_pos hl] at g
    refine ⟨by rw [List.length_cons, rs.length]; exact hl, F, _, .ins kc [] :: ds, hl, args_own ag2 ow fr rs h0 hp hl, ?_⟩
    cases e : f ((D.ins kc [] :: ds).map some) with
    | err => rw [e] at g; exact g.elim
    | exc k fs s => rw [e] at g; exact g.elim
    | ok d s2 =>
      rw [e] at g
      intro v F' H' O' Or st re' hf
      cases d with
      | non =>
        dsimp only at g
        have ev : v = .non := by
          have := hf.1
          cases this
          rfl
        refine ⟨ev, ?_⟩
        split at g
        · rename_i d1 e1
          obtain ⟨v1, g1, ow1⟩ := re'.at_ 0 d1 e1
          have ev1 : v1 = .ref x := by
            have z : some (some (V.ref x)) = some (some v1) := g1
            exact (Option.some.inj (Option.some.inj z)).symm
          subst ev1
          rw [h0] at ow1
          have in2 : ∀ a, a ∈ [x, dx] → H a = none := fun a ha => by
            rcases List.mem_cons.mp ha with e | e
            · rw [e]; exact hx
            · rw [List.mem_singleton.mp e]; exact hdx
          have stH : Stp F H O F' H' O := ⟨st.ff, fun a o ho n => st.kp a o (old a o ho) (fun l hl => (by rw [in2 a (oc_mem hl)] at ho; cases ho)), fun a o q => by
            rcases st.fo a o q with z | z | ⟨l, z⟩
            · exact .inl z
            · exact .inr (.inl (al2 a z))
            · exact .inr (.inl (in2 a (oc_mem z)))
            , fun i a ha => .inr ⟨i, ha⟩, fun a q => al2 a (st.al a q), fun _ => pk_refl _⟩
          have reH : Re c μ F' H' σ sl O := re.mono st.ff re'.ag (fun i a ha o ho => st.kp a o (old a o ho) (fun l hl => (by rw [in2 a (oc_mem hl)] at ho; cases ho))) fun i a ha => by
            cases q : F' a with
            | none => rfl
            | some o =>
              obtain ⟨u, hu⟩ := re.there ha
              rcases stH.fo a o q with z | z | ⟨l, z⟩
              · rw [re.fre i a ha] at z; cases z
              · rw [hu] at z; cases z
              · rcases st.fo a o q with y | y | ⟨l, y⟩
                · rw [re.fre i a ha] at y; cases y
                · rw [al2 a y] at hu; cases hu
                · rw [in2 a (oc_mem y)] at hu; cases hu
          refine g (.ref x) F' H' O (O' 0) stH reH ow1 fun a ha => ?_
          have nH : H a = none := by
            rcases st.ow 0 a ha with z | ⟨l, z⟩
            · exact al2 a z
            · exact in2 a (oc_mem z)
          exact ⟨re'.fre 0 a ha, re.new nH, nH⟩
        · exact g.elim
      | _ => exact g.elim
  · rw [if_neg hl] at g
    exact g.elim
theorem xn_make (M : Mk X.K (c.C kc) fa) (F : FnOk X.prog X.w X.K X.mg X.base CX k fa fd ps (SpM c pm false f)) (hr : Room (k + 1) X.A) (hm : X.mg x = some (.ref (c.C kc))) (hb : Binds X.K fd ps []) (ha : XA X c μ W (e :: es) t n) (hx : Passes CX X E0)
    (h0 : mdOf pm 0 = .pin := by rfl) (hp : ∀ j, j < pm.length → j ≠ 0 → mdOf pm j = .frz := by decide) (hg : Gl X x := by rfl) (hdb : (x == ("__debug__" : Str)) = false := by decide)
    (he : starEach (e :: es) X.env = (false, eval e X.env) :: starEach es X.env := by rfl) (hpl : (backTo pos (starEach es X.env)).any (·.1) = false := by rfl) :
    XN X c μ W (.Call (.Name x p) (e :: es) [] pos) (tMake (c.C kc) (SpM c pm false f) [] E0 t) (mMake kc pm.length f n) := ⟨pe_make M F hr hg hm hb .nil hx ha.pa hdb he hpl, evo_make h0 hp ha.ev⟩
end
end MM

set_option Elab.async false
set_option linter.all false
set_option maxRecDepth 100000
set_option maxHeartbeats 2000000
/-! The value layer, part l: isinstance, texts turned round, join. -/
namespace MM
open PySem PySem.Spec PyProof.Rows L2
open PySem.Builtin.Str (glued)

inductive Ty where
  | str | int | bool | tup | lst | dic
  deriving DecidableEq
def Ty.nm : Ty → String
  | .str => "str"
  | .int => "int"
  | .bool => "bool"
  | .tup => "tuple"
  | .lst => "list"
  | .dic => "dict"
def isTy : Ty → D → Option Bool
  | t, .non => some false
  | t, .bl _ => some (decide (t = .bool ∨ t = .int))
  | t, .int _ => some (decide (t = .int))
  | t, .str _ => some (decide (t = .str))
  | t, .tup _ => some (decide (t = .tup))
  | t, .lst _ => some (decide (t = .lst))
  | t, .dic _ => some (decide (t = .dic))
  | _, _ => none
def fIsi (t : Ty) (d : D) : Option D := (isTy t d).map D.bl
section
variable {c : CI} {X : Cx} {μ : Ms} {W : WX}
theorem rv_isi {K : PySem.W.Frag} (t : Ty) {F H : Hp} {x : V} {d : D} {b : Bool} {Q : VK} (ag : Ag c.lk F H) (r : Rp c F x d) (e : isTy t d = some b) (q : Q (.bl b) H) : rIsi K [x, .ty t.nm] H Q := by
  have go : ∀ (n : String), TyX K H x (.type n) → kitB n t.nm = some b → rIsi K [x, .ty t.nm] H Q := fun n h1 h2 => ⟨x, .ty t.nm, .type n, .type t.nm, b, rfl, .ty _, h1, kit_ty h2, q⟩
  cases r with
  | non => cases e; exact go "NoneType" (.base .non) (by cases t <;> decide +kernel)
  | bl y => cases e; exact go "bool" (.base (.bl y)) (by cases t <;> decide +kernel)
  | int i => cases e; exact go "int" (.base (.int i)) (by cases t <;> decide +kernel)
  | str l h => cases e; exact go "str" (.base (.str _)) (by cases t <;> decide +kernel)
  | tup h z r => cases e; exact go "tuple" (.base (.tup (ag.tup h))) (by cases t <;> decide +kernel)
  | lst h z r => cases e; exact go "list" (.base (.lst (ag.lst h))) (by cases t <;> decide +kernel)
  | dic h z h1 h2 h3 r =>
    cases e
    rcases ag.dic h with q | ⟨ob, q⟩
    · exact go "dict" (.base (.dK q)) (by cases t <;> decide +kernel)
    · exact go "dict" (.fDict q) (by cases t <;> decide +kernel)
  | _ => cases e
def mIsi (t : Ty) (m : ME) : ME := fun sl => (m sl).bind fun x s => R.ofO (fIsi t x) s
theorem xe_isi (t : Ty) {x : Str} {e : Expr} {p p2 pos : Pos} {te : TE} {m : ME} (hm : X.mg "isinstance" = none) (hT : X.mg x = none) (h : XE X c μ W e te m)
    (hv : bootBuiltins x = some (.type t.nm) := by decide +kernel) (hg : Gl X "isinstance" := by rfl) (hg2 : Gl X x := by rfl) (hn : x ≠ "__name__" := by decide) (hdb : (x == ("__debug__" : Str)) = false := by decide)
    (he : starEach [e, .Name x p2] X.env = (false, eval e X.env) :: starEach [.Name x p2] X.env := by rfl) (he2 : starEach [.Name x p2] X.env = (false, eval (.Name x p2) X.env) :: starEach [] X.env := by rfl) (hpl : (backTo pos (starEach [.Name x p2] X.env)).any (·.1) = false := by rfl) :
    XE X c μ W (.Call (.Name "isinstance" p) [e, .Name x p2] [] pos) (tCB (rIsi X.K) (tCons te (tCons (tC (.ty t.nm)) tNil))) (mIsi t m) :=
  ⟨pe_callB call_isi hg hm (by decide +kernel) (pa_cons h.pe (pa_cons (pe_bltn hg2 hT hv rfl hn hdb) pa_nil he2) he) (by decide) (by decide) he hpl, by
    refine Evm.bind (κ := fun v σ H1 (Q : VK) => rIsi X.K [v, .ty t.nm] H1 Q) h.ev fun σ H F O sl x d Q re rx g => ?_
    unfold fIsi at g
    cases e : isTy t d with
    | none => rw [e] at g; exact g.elim
    | some b =>
      rw [e] at g
      exact rv_isi t re.ag rx e (g _ F H O (Stp.refl _ _ _) re (.bl b))⟩

/-! ### x[::-1] of a text -/
def tRevS (te : TE) : TE := fun σ H Q => te σ H fun x H1 => ∃ l : T, x = .str (tS l) ∧ l.length ≤ sizeLine ∧ Q (.str (tS l.reverse)) H1
theorem rev_text (l : T) (u : Tok) : (⟨((slicePicked (tS l) none none (some (-1, u))).filterMap ((tS l).cps[·]?)).toArray⟩ : Str) = tS l.reverse := by
  have h := step_rev_list (tS l) u
  unfold Txt.sliceBy at h
  rw [if_neg (by
    have : ((((some ((-1 : Int), u)).map (·.1)).getD 1 == 1)) = false := rfl
    rw [this]; simp)] at h
  have h2 : ((slicePicked (tS l) none none (some (-1, u))).filterMap ((tS l).cps[·]?)) = l.reverse := by
    have h3 : ((slicePicked (tS l) none none (some (-1, u))).filterMap ((tS l).cps[·]?)).toArray.toList = _ := h
    rw [List.toList_toArray] at h3
    rw [h3]
    apply List.ext_getElem
    · simp [tS_len]
    · intro i h1 h2
      have hl : i < l.length := by simpa using h2
      simp only [List.getElem_map, List.getElem_range, List.getElem_reverse, tS_len]
      show l.toArray.getD (l.length - 1 - i) 0 = _
      have hj : l.length - 1 - i < l.length := by omega
      simp [Array.getD, hj]
  show (⟨((slicePicked (tS l) none none (some (-1, u))).filterMap ((tS l).cps[·]?)).toArray⟩ : Str) = ⟨l.reverse.toArray⟩
  rw [h2]
theorem pe_revS {e : Expr} {te : TE} {k : Nat} {p1 p2 p3 pos : Pos} (he : PE X e te) : PE X (.Subscript e (.Slice none none (some (.UnaryOp .USub (.Constant (.int 1) k p1) p2)) p3) pos) (tRevS te) := by
  refine ⟨fun pins s σ H Q I h => ?_⟩
  refine Subscript_ (thn (he.run pins s σ H _ I h) fun v s1 ⟨x, H1, I1, r1, q1⟩ => ?_)
  obtain ⟨l0, ex, hz, q⟩ := q1
  subst ex
  obtain ⟨t, rfl⟩ := r1
  have hst : PO X (some (.UnaryOp .USub (.Constant (.int 1) k p1) p2)) (tPart (tUn (rU fun i => .int (-i)) (tC (.int 1)))) := po_some (pe_un un_neg pe_int)
  refine wpAny_Slice (thn (po_none.run pins s1 σ H1 (fun o H2 => o = none ∧ H2 = H1) I1 ⟨rfl, rfl⟩) fun vl s2 ⟨l, H2, I2, pl, el, e2⟩ => ?_)
  subst el e2
  refine thn (po_none.run pins s2 σ H2 (fun o H3 => o = none ∧ H3 = H2) I2 ⟨rfl, rfl⟩) fun vu s3 ⟨u, H3, I3, pu, eu, e3⟩ => ?_
  subst eu e3
  refine thn (hst.run pins s3 σ H3 (fun o H4 => o = some (-1) ∧ H4 = H3) I3 ⟨1, rfl, -1, rfl, rfl, rfl⟩) fun vs s4 ⟨o, H4, I4, ps, eo, e4⟩ => ?_
  subst eo e4
  have I5 : Inv X pins σ H4 { s4 with heap := s4.heap.push { cls := .type "slice", data := .fields #[vl, vu, vs] } } := I4.kept (t' := s4.toks) fun b ob q => Heap.get?_push_of_some _ q
  obtain ⟨l1, rfl, hl1⟩ := IsPart.raw pl
  obtain ⟨u1, rfl, hu1⟩ := IsPart.raw pu
  obtain ⟨st1, rfl, hs1⟩ := IsPart.raw ps
  cases l1 with
  | some z => cases hl1
  | none =>
    cases u1 with
    | some z => cases hu1
    | none =>
      cases st1 with
      | none => cases hs1
      | some z =>
        obtain ⟨zi, zt⟩ := z
        have ez : zi = -1 := by
          have e := hs1
          simpa using e.symm.symm
        subst ez
        refine tail_any (T := "str") (ops := [.ref s4.heap.objs.size, .str (tS l0) t]) (typeIs_str _ _ _) F.slot_str_getitem.lookup ?_ (by with_unfolding_all rfl)
        refine wpAny_getItem_str_slice (l := none) (u := none) (st := some (-1, zt)) ⟨_, Heap.get?_push_size _ rfl, rfl, rfl⟩ rfl ?_
        have e : sliceMade (tS l0) t none none (some (-1, zt)) = Made.str (tS l0.reverse) := by
          rw [← rev_text l0 zt]
          rfl
        rw [e]
        exact ⟨by rw [tS_len, List.length_reverse]; exact hz, .str _, H4, I5.tok _, ⟨_, rfl⟩, q⟩
def mRevS (m : ME) : ME := fun sl => (m sl).bind fun x s => match x with
  | .str l => .ok (.str l.reverse) s
  | _ => .err
theorem xe_revS {e : Expr} {te : TE} {m : ME} {k : Nat} {p1 p2 p3 pos : Pos} (h : XE X c μ W e te m) : XE X c μ W (.Subscript e (.Slice none none (some (.UnaryOp .USub (.Constant (.int 1) k p1) p2)) p3) pos) (tRevS te) (mRevS m) :=
  ⟨pe_revS h.pe, by
    refine Evm.bind (κ := fun x σ H1 (Q : VK) => ∃ l : T, x = .str (tS l) ∧ l.length ≤ sizeLine ∧ Q (.str (tS l.reverse)) H1) h.ev fun σ H F O sl x d Q re rx g => ?_
    cases rx with
    | str l hl => exact ⟨l, rfl, Nat.le_of_lt (LB_line hl), g _ F H O (Stp.refl _ _ _) re (.str _ (by rw [List.length_reverse]; exact hl))⟩
    | _ => exact g.elim⟩

/-! ### sep.join -/
def textsD : List D → Option (List T)
  | [] => some []
  | .str l :: r => (textsD r).map (l :: ·)
  | _ :: _ => none
def joinT (sep : T) : List T → T
  | [] => []
  | [x] => x
  | x :: y :: r => x ++ sep ++ joinT sep (y :: r)
def fJoin (x : D) (xs : List D) : Option D := match x, xs with
  | .str sep, [.lst ds] => (match textsD ds with
    | some ls => if (ls.map (·.length)).sum + ls.length * sep.length ≤ LB then some (.str (joinT sep ls)) else none
    | none => none)
  | .str sep, [.tup ds] => (match textsD ds with
    | some ls => if (ls.map (·.length)).sum + ls.length * sep.length ≤ LB then some (.str (joinT sep ls)) else none
    | none => none)
  | _, _ => none
theorem texts_rep {F : Hp} : ∀ {vs : List V} {ds : List D} {ls : List T}, Rps c F vs ds → textsD ds = some ls → vs = (ls.map tS).map V.str
  | _, _, _, .nil, e => by cases e; rfl
  | _, _, _, .cons r t, e => by
    cases r with
    | str l h =>
      unfold textsD at e
      rename_i vs ds
      cases e2 : textsD ds with
      | none => rw [e2] at e; cases e
      | some ls =>
        rw [e2] at e
        cases e
        rw [texts_rep t e2]
        rfl
    | _ => cases e
theorem joinT_len (sep : T) : ∀ ls : List T, (joinT sep ls).length ≤ (ls.map (·.length)).sum + ls.length * sep.length
  | [] => by simp [joinT]
  | [x] => by simp [joinT]
  | x :: y :: r => by
    have h := joinT_len sep (y :: r)
    show (x ++ sep ++ joinT sep (y :: r)).length ≤ _
    rw [List.length_append, List.length_append, List.map_cons, List.sum_cons, List.length_cons (a := x)]
    rw [Nat.add_mul, Nat.one_mul]
    omega
theorem len_tS (ls : List T) : ((ls.map tS).map (·.length)) = ls.map (·.length) := by
  rw [List.map_map]
  exact List.map_congr_left fun l _ => tS_len l
def rJoinM (K : PySem.W.Frag) : V → List V → Hp → VK → Prop := fun x xs H Q => ∃ a p, ∃ ys : List Str, x = .str a ∧ xs = [.ref p] ∧ (SqL K H p (ys.map V.str) ∨ SqT K H p (ys.map V.str)) ∧
    (ys.map (·.length)).sum + ys.length * a.length ≤ 16777216 ∧ Q (.str (Txt.join a ys)) H
theorem join_tS (sep : T) : ∀ ls : List T, Txt.join (tS sep) (ls.map tS) = tS (joinT sep ls) := fun ls => by
  show glued (tS sep) (ls.map tS) = _
  rw [StrLaws.glued_eq_join]
  exact go ls
where go : ∀ ls : List T, Str.join (tS sep) (ls.map tS) = tS (joinT sep ls)
  | [] => rfl
  | [x] => rfl
  | x :: y :: r => by
    show tS x ++ tS sep ++ Str.join (tS sep) ((y :: r).map tS) = tS (x ++ sep ++ joinT sep (y :: r))
    rw [go (y :: r), tS_app, tS_app]
theorem rv_join {K : PySem.W.Frag} : RvM c K "str" (rJoinM K) fJoin isStr := by
  refine ⟨ty_str, fun μ σ H F O sl x dx xs ds d Q re rx rs e g => ?_⟩
  have lb : LB ≤ 16777216 := by decide
  unfold fJoin at e
  split at e
  · rename_i sep ds
    cases et : textsD ds with
    | none => rw [et] at e; cases e
    | some ls =>
      rw [et] at e
      dsimp only at e
      split at e
      · rename_i hb
        cases e
        cases rs with
        | cons q t =>
          cases t
          cases rx with
          | str _ hs =>
            cases q with
            | lst h z r =>
              refine ⟨tS sep, _, ls.map tS, rfl, rfl, .inl (by rw [← texts_rep r et]; exact SqL.of (re.ag.lst h)), ?_, ?_⟩
              · rw [len_tS, List.length_map, tS_len]
                exact Nat.le_trans hb lb
              · rw [join_tS]
                exact stay re g (.str _ (Nat.le_trans (joinT_len _ _) hb))
      · cases e
  · rename_i sep ds
    cases et : textsD ds with
    | none => rw [et] at e; cases e
    | some ls =>
      rw [et] at e
      dsimp only at e
      split at e
      · rename_i hb
        cases e
        cases rs with
        | cons q t =>
          cases t
          cases rx with
          | str _ hs =>
            cases q with
            | tup h z r =>
              refine ⟨tS sep, _, ls.map tS, rfl, rfl, .inr (by rw [← texts_rep r et]; exact SqT.of (re.ag.tup h)), ?_, ?_⟩
              · rw [len_tS, List.length_map, tS_len]
                exact Nat.le_trans hb lb
              · rw [join_tS]
                exact stay re g (.str _ (Nat.le_trans (joinT_len _ _) hb))
      · cases e
  · cases e
end
end MM

set_option Elab.async false
set_option linter.all false
set_option maxRecDepth 100000
set_option maxHeartbeats 2000000
/-! The value layer, part m: facts of the top by place, a def's promise with its binding. -/
namespace MM
open PySem PySem.Spec PyProof.Rows L2

structure Zc (fa : List He.Fa) (fn : List He.DefD) (K : PySem.W.Frag) (h : Heap) (mg : Str → Option Value) : Prop where
  c : He.SaysD fa fn K
  X : K.In h
  G : h.Ns mainGlobals mg
section
variable {fa : List He.Fa} {fn : List He.DefD} {K : PySem.W.Frag} {h : Heap} {mg : Str → Option Value}
theorem Zc.free (Z : Zc fa fn K h mg) (i : Nat) {x : Str} (e : fa[i]? = some (.free x) := by rfl) : mg x = none := He.free_ok Z.X Z.G (Z.c.fact i e)
theorem Zc.glo (Z : Zc fa fn K h mg) (i : Nat) {x : Str} (e : fa[i]? = some (.glo x) := by rfl) : mg x = some (.ref (He.ga K x)) := He.glo_ok Z.X Z.G (Z.c.fact i e)
theorem Zc.int (Z : Zc fa fn K h mg) (i : Nat) {x : Str} {n : Int} (e : fa[i]? = some (.int x n) := by rfl) : ∃ t, mg x = some (.int n t) := He.int_ok Z.X Z.G (Z.c.fact i e)
theorem Zc.str (Z : Zc fa fn K h mg) (i : Nat) {x z : Str} (e : fa[i]? = some (.str x z) := by rfl) : ∃ t, mg x = some (.str z t) := He.str_ok Z.X Z.G (Z.c.fact i e)
theorem Zc.cls (Z : Zc fa fn K h mg) (i : Nat) {x : Str} (e : fa[i]? = some (.cls x) := by rfl) : Cls K (He.ga K x) := He.cls_ok (Z.c.fact i e)
theorem Zc.noat (Z : Zc fa fn K h mg) (i : Nat) {x f : Str} (e : fa[i]? = some (.noat x f) := by rfl) : NoAttr K (He.ga K x) f := He.noat_ok (Z.c.fact i e)
theorem Zc.meth (Z : Zc fa fn K h mg) (i : Nat) {x m : Str} (e : fa[i]? = some (.meth x m) := by rfl) : Meth K (He.ga K x) m (He.ma K (He.ga K x) m) := He.meth_ok (Z.c.fact i e)
theorem Zc.mkr (Z : Zc fa fn K h mg) (i : Nat) {x : Str} (e : fa[i]? = some (.mkr x) := by rfl) : Mk K (He.ga K x) (He.ma K (He.ga K x) "__init__") := He.mkr_ok (Z.c.fact i e)
end
/-- the def at a keeps its promise, its arguments bind -/
structure Has (P : Program) (w : World) (K : PySem.W.Frag) (mg : Str → Option Value) (base : Heap) (c : CI) (a : Addr) (k : Nat) (ps : List Str) (pm : Ms) (ρ : Bool) (f : Sl → R D) (fd : FuncData) : Prop where
  ok : FnOk P w K mg base CX0 k a fd ps (SpM c pm ρ f)
  bd : Binds K fd ps []
  kp : PySem.W.keepIn K (.ref a) = true
section
variable {P : Program} {w : World} {K : PySem.W.Frag} {mg : Str → Option Value} {base : Heap} {c : CI} {pm μ : Ms} {ρ : Bool}
theorem fn0D {x qual : Str} {params : Arguments} {body : List Stmt} {scope : Scope} {f : Addr} {fd : FuncData} {N ps : List Str} {k n : Nat} {m : MS} (F : FunD K x qual params body scope [] [] f fd) (S : FnScope N ps scope) (hps : ps.length = pm.length) (hp : ∀ i, i < pm.length → mdOf μ i = mdOf pm i) (hN : N.length = pm.length + n)
    (hb : ∀ (cdv : Value) (A : Around) (outer : List Env) (s : Shared) (H : Hp) (E : XK), Room k (A.deeper (envOfC qual scope s.heap.objs.size f cdv)) → ∃ t, XSs (cxOf CX0 P w K mg base N qual scope f cdv A outer s H E).nox c μ ρ W0 body t m) :
    FnOk P w K mg base CX0 (k + 1) f fd ps (SpM c pm ρ (fnB pm ρ n m)) := by
  refine F.ok S (fun vs H Q E h => by rw [h.1, hps]) (fun cdv A outer s H vs Q E hr h => ?_)
  obtain ⟨t, xs⟩ := hb cdv A outer s H E hr
  obtain ⟨hv, F0, O0, ds, hd, re0, g⟩ := h
  exact ⟨t, xs.ps.nox, xs.ev _ _ _ _ _ _ (re0.start hp hv hd hN) (GS_of hp hv re0 g)⟩
theorem hasD {x qual : Str} {params : Arguments} {body : List Stmt} {scope : Scope} {f : Addr} {N ps : List Str} {k n : Nat} {m : MS} {fd : FuncData} (F : FunD K x qual params body scope [] [] f fd) (S : FnScope N ps scope) (hps : ps.length = pm.length) (hp : ∀ i, i < pm.length → mdOf μ i = mdOf pm i) (hN : N.length = pm.length + n)
    (hbi : ∀ (kV doc pm : Value) (an : Option Addr) (cdv ct : Value) (us : List Value), us.length = ps.length → bindArgs (PySem.W.fnOf x qual params body scope .none kV doc pm an cdv ct) ⟨us, []⟩ = pure (ps.zip us))
    (hb : ∀ (cdv : Value) (A : Around) (outer : List Env) (s : Shared) (H : Hp) (E : XK), Room k (A.deeper (envOfC qual scope s.heap.objs.size f cdv)) → ∃ t, XSs (cxOf CX0 P w K mg base N qual scope f cdv A outer s H E).nox c μ ρ W0 body t m) :
    Has P w K mg base c f (k + 1) ps pm ρ (fnB pm ρ n m) fd :=
  ⟨fn0D F S hps hp hN hb, F.bindsN hbi, F.kp⟩
theorem hasNone {x qual : Str} {params : Arguments} {body : List Stmt} {scope : Scope} {f : Addr} {ps : List Str} {k : Nat} {m : Sl → R D} {fd : FuncData} (F : FunD K x qual params body scope [] [] f fd) (hm : ∀ s, m s = .err)
    (hbi : ∀ (kV doc pm : Value) (an : Option Addr) (cdv ct : Value) (us : List Value), us.length = ps.length → bindArgs (PySem.W.fnOf x qual params body scope .none kV doc pm an cdv ct) ⟨us, []⟩ = pure (ps.zip us)) :
    Has P w K mg base c f k ps pm ρ m fd :=
  ⟨fn_none hm, F.bindsN hbi, F.kp⟩
end
section
variable {c : CI} {X : Cx} {μ : Ms} {W : WX}
theorem xe_gintE {x : Str} {i : Int} {pos : Pos} (h : ∃ t, X.mg x = some (.int i t)) (hg : Gl X x := by rfl) (hd : (x == ("__debug__" : Str)) = false := by decide) : XE X c μ W (.Name x pos) (tC (.int i)) (mC (.int i)) := by
  obtain ⟨t, e⟩ := h
  exact xe_gint e ⟨t, rfl⟩ hg hd
theorem xe_gstrE {x z : Str} {l : T} {pos : Pos} (h : ∃ t, X.mg x = some (.str z t)) (hz : z = tS l) (hl : l.length ≤ LB) (hg : Gl X x := by rfl) (hd : (x == ("__debug__" : Str)) = false := by decide) : XE X c μ W (.Name x pos) (tC (.str (tS l))) (mC (.str l)) := by
  obtain ⟨t, e⟩ := h
  subst hz
  exact xe_gstr e ⟨t, rfl⟩ hl hg hd
end
end MM
namespace MM
open PySem PySem.Spec PyProof.Rows L2
/-! the classes of the program: fields, which are owned -/
def nmT : Nat → List Str
  | 0 => ["base", "rows"]
  | 1 => ["sheet", "figures", "found"]
  | 2 => ["sheet", "figures", "found"]
  | 3 => ["sheet", "names", "rows", "order", "figures"]
  | 9 => ["why", "at"]
  | 10 => ["table"]
  | 11 => ["two"]
  | 12 => ["row"]
  | _ => []
def mdT : Nat → List Bool
  | 0 => [false, false]
  | 1 => [false, true, true]
  | 2 => [false, true, true]
  | 3 => [false, false, false, false, true]
  | _ => []
theorem hu65 {k : Nat} {A : Around} (hr : Room k A) : A.units + 65 < cLine := by have := hr.un; omega
theorem fund_same {K : PySem.W.Frag} {x qual : Str} {params : Arguments} {body : List Stmt} {scope : Scope} {f : Addr} {fd fd2 : FuncData} (F : FunD K x qual params body scope [] [] f fd) (G : FunD K x qual params body scope [] [] f fd2) : fd = fd2 := by
  obtain ⟨oc, od, dV, kV, doc, pm, an, cdv, ct, osl, rfl, lk, _⟩ := F.ex
  obtain ⟨oc2, od2, dV2, kV2, doc2, pm2, an2, cdv2, ct2, osl2, rfl, lk2, _⟩ := G.ex
  rw [lk] at lk2
  have e := Option.some.inj lk2
  injection e with e1 e2 e3 e4
  injection e3
theorem law_start {c : CI} {f : Sl → R D} {H : Hp} {a : Addr} {ns : List Int} {n : Nat} {s : Sl} (hlk : c.lk = none) (hn : n ≤ LB) (hl : ns.length ≤ n) (hS : SqL c.K H a (ns.map V.int)) (e : f [some (.scr ns)] = .ok (.bl true) s) :
    SpM c [.frz] false f [.ref a] H (fun v _ => v = .bl true) fun _ _ _ => False := by
  refine ⟨rfl, H, fun _ => [], [.scr ns], rfl, ?_, ?_⟩
  · refine ⟨fun a o h => .inl h, rfl, fun i d h => ?_, fun _ _ => rfl, fun _ _ _ h => (nomatch h), fun _ _ h => (nomatch h)⟩
    cases i with
    | zero =>
      cases h
      exact ⟨_, rfl, .scr (Nat.le_trans hl hn) hS, rfl⟩
    | succ i => cases i <;> cases h
  · show GF c [.frz] false H H _ _ _ _ (f [some (.scr ns)])
    rw [e]
    intro v F' H' O' Or _ _ hf
    have q : Rp c F' v (.bl true) := by
      have := hf
      unfold HF at this
      exact this.1
    cases q
    rfl
end MM

set_option Elab.async false
set_option linter.all false
set_option maxRecDepth 100000
set_option maxHeartbeats 2000000
/-! The value layer, part n: the rules once more, said of c.K (a comprehension's element may not name its block). -/
namespace MM
open PySem PySem.Spec PyProof.Rows L2
section
variable {K0 : PySem.W.Frag} {c : CI} {X : Cx} {μ : Ms} {W : WX} {a b : Expr} {ta tb : TE} {ma mb : ME} {pos : Pos} {f : D → D → Option D}
theorem xe_opK {op : Operator} (r : PySem.W.Frag → R2) (ho : OpR X (binaryOp op) (r X.K)) (hr : Rv2 c (r K0) f) (ha : XE X c μ W a ta ma) (hb : XE X c μ W b tb mb) (hK : X.K = K0 := by rfl) (hK2 : K0 = c.K := by rfl) : XE X c μ W (.BinOp a op b pos) (tOp (r K0) ta tb) (mOp f ma mb) := by
  subst hK
  exact xe_op ho hr ha hb
theorem xe_cmpK {op : CmpOp} (r : PySem.W.Frag → R2) (ho : OpR X (compareOp op) (r X.K)) (hr : Rv2 c (r K0) f) (ha : XE X c μ W a ta ma) (hb : XE X c μ W b tb mb) (hm : behindInMarks op b = false) (hK : X.K = K0 := by rfl) (hK2 : K0 = c.K := by rfl) : XE X c μ W (.Compare a [op] [b] pos) (tOp (r K0) ta tb) (mOp f ma mb) := by
  subst hK
  exact xe_cmp ho hr ha hb hm
theorem xt_cmpK {op : CmpOp} (r : PySem.W.Frag → R2) (ho : OpR X (compareOp op) (r X.K)) (hr : Rv2 c (r K0) f) (ha : XE X c μ W a ta ma) (hb : XE X c μ W b tb mb) (hm : behindInMarks op b = false) (hK : X.K = K0 := by rfl) (hK2 : K0 = c.K := by rfl) : XT X c μ W (.Compare a [op] [b] pos) (tTest (tOp (r K0) ta tb)) (mTest (mOp f ma mb)) := by
  subst hK
  exact xt_cmp ho hr ha hb hm
theorem xe_ixK (hu : X.A.units + 1 < cLine) (ha : XE X c μ W a ta ma) (hb : XE X c μ W b tb mb) (hs : PlainIx b := by exact fun _ _ => rfl) (hK : X.K = K0 := by rfl) (hK2 : K0 = c.K := by rfl) : XE X c μ W (.Subscript a b pos) (tOp (rIxU K0) ta tb) (mOp fIx ma mb) := by
  subst hK
  exact xe_ix hu ha hb hs hK2
theorem xe_slK {e : Expr} {lo hi : Option Expr} {te : TE} {m : ME} {tl th : TO} {ml mh : Sl → R (Option Int)} {p2 pos : Pos} (h : XE X c μ W e te m) (hl : XO X c μ W lo tl ml) (hh : XO X c μ W hi th mh) (hK : X.K = K0 := by rfl) (hK2 : K0 = c.K := by rfl) :
    XE X c μ W (.Subscript e (.Slice lo hi none p2) pos) (tSl (rSlU K0) te tl th) (mSl m ml mh) := by
  subst hK
  exact xe_sl h hl hh
theorem xe_callBK {id : String} {x : Str} {p pos : Pos} {e : Expr} {es : List Expr} (r : PySem.W.Frag → List V → Hp → VK → Prop) {f : List D → Option D} {t : TA} {n : MA} (hc : CallR X (.builtin id) (r X.K)) (hr : RvA c (r K0) f) (hm : X.mg x = none) (ha : XA X c μ W (e :: es) t n) (hK : X.K = K0 := by rfl) (hK2 : K0 = c.K := by rfl)
    (hg : Gl X x := by rfl) (hv : bootBuiltins x = some (.builtin id) := by decide +kernel) (hn : x ≠ "__name__" := by decide) (hdb : (x == ("__debug__" : Str)) = false := by decide)
    (he : starEach (e :: es) X.env = (false, eval e X.env) :: starEach es X.env := by rfl) (hpl : (backTo pos (starEach es X.env)).any (·.1) = false := by rfl) : XE X c μ W (.Call (.Name x p) (e :: es) [] pos) (tCB (r K0) t) (mCall f n) := by
  subst hK
  exact xe_callB hc hr hm ha hg hv hn hdb he hpl
theorem xe_callTyK {id : String} {x : Str} {p pos : Pos} {e : Expr} {es : List Expr} (r : PySem.W.Frag → List V → Hp → VK → Prop) {f : List D → Option D} {t : TA} {n : MA} (hc : CallR X (.type id) (r X.K)) (hr : RvA c (r K0) f) (hm : X.mg x = none) (ha : XA X c μ W (e :: es) t n) (hK : X.K = K0 := by rfl) (hK2 : K0 = c.K := by rfl)
    (hg : Gl X x := by rfl) (hv : bootBuiltins x = some (.type id) := by decide +kernel) (hn : x ≠ "__name__" := by decide) (hdb : (x == ("__debug__" : Str)) = false := by decide)
    (he : starEach (e :: es) X.env = (false, eval e X.env) :: starEach es X.env := by rfl) (hpl : (backTo pos (starEach es X.env)).any (·.1) = false := by rfl) : XE X c μ W (.Call (.Name x p) (e :: es) [] pos) (tCB (r K0) t) (mCall f n) := by
  subst hK
  exact xe_callTy hc hr hm ha hg hv hn hdb he hpl
theorem xn_listcK {p pos : Pos} {e : Expr} {es : List Expr} {t : TA} {n : MA} (hm : X.mg "list" = none) (ha : XA X c μ W (e :: es) t n) (hK : X.K = K0 := by rfl) (hK2 : K0 = c.K := by rfl)
    (hg : Gl X "list" := by rfl) (he : starEach (e :: es) X.env = (false, eval e X.env) :: starEach es X.env := by rfl) (hpl : (backTo pos (starEach es X.env)).any (·.1) = false := by rfl) : XN X c μ W (.Call (.Name "list" p) (e :: es) [] pos) (tCB (rListC K0) t) (mCall fList n) := by
  subst hK
  exact xn_listc hm ha hg he hpl
theorem xe_isiK (t : Ty) {x : Str} {e : Expr} {p p2 pos : Pos} {te : TE} {m : ME} (hm : X.mg "isinstance" = none) (hT : X.mg x = none) (h : XE X c μ W e te m) (hK : X.K = K0 := by rfl) (hK2 : K0 = c.K := by rfl)
    (hv : bootBuiltins x = some (.type t.nm) := by decide +kernel) (hg : Gl X "isinstance" := by rfl) (hg2 : Gl X x := by rfl) (hn : x ≠ "__name__" := by decide) (hdb : (x == ("__debug__" : Str)) = false := by decide)
    (he : starEach [e, .Name x p2] X.env = (false, eval e X.env) :: starEach [.Name x p2] X.env := by rfl) (he2 : starEach [.Name x p2] X.env = (false, eval (.Name x p2) X.env) :: starEach [] X.env := by rfl) (hpl : (backTo pos (starEach [.Name x p2] X.env)).any (·.1) = false := by rfl) :
    XE X c μ W (.Call (.Name "isinstance" p) [e, .Name x p2] [] pos) (tCB (rIsi K0) (tCons te (tCons (tC (.ty t.nm)) tNil))) (mIsi t m) := by
  subst hK
  exact xe_isi t hm hT h hv hg hg2 hn hdb he he2 hpl
theorem xe_bmK {T id : String} {name : Str} (r : PySem.W.Frag → V → List V → Hp → VK → Prop) {f : D → List D → Option D} {ok : D → Bool} {o e : Expr} {es : List Expr} {apos cpos : Pos} {to : TE} {m : ME} {t : TA} {n : MA} (pa : PlainAttrs T) (slot : Slot T name id)
    (hty : typeOf (.builtin id) = pure (.type "method_descriptor")) (hm : MtR X id (r X.K)) (hr : RvM c K0 T (r K0) f ok) (ho : XE X c μ W o to m) (ha : XA X c μ W (e :: es) t n) (hK : X.K = K0 := by rfl) (hK2 : K0 = c.K := by rfl)
    (hbase : attributeBase o name X.env (eval o X.env) = eval o X.env := by rfl)
    (hfew : ((backTo cpos (starEach (e :: es) X.env)).all (fun x => !x.1) && (backToKw cpos (keywordEach [] X.env)).all (fun x => x.1.isSome)
      && decide ((e :: es).length + ([] : List Keyword).length + (if ([] : List Keyword).isEmpty then 0 else 1) < 30)) = true := by rfl)
    (hline : (apos.endLine == cpos.line) = true := by rfl) (hs : starEach (e :: es) X.env = (false, eval e X.env) :: starEach es X.env := by rfl) (hplain : (backTo cpos (starEach es X.env)).any (·.1) = false := by rfl) :
    XE X c μ W (.Call (.Attribute o name apos) (e :: es) [] cpos) (tBM K0 T (r K0) to t) (mMeth ok f m n) := by
  subst hK
  exact xe_bm pa slot hty hm hr ho ha hbase hfew hline hs hplain
theorem xe_fldK {k j : Nat} {f : Str} {o : Expr} {te : TE} {m : ME} {pos : Pos} (cl : Cls X.K (c.C k)) (na : NoAttr X.K (c.C k) f) (nd : (c.nm k).Nodup) (hf : (c.nm k)[j]? = some f) (h : XE X c μ W o te m) (hK : X.K = K0 := by rfl) (hK2 : K0 = c.K := by rfl) (hb : attributeBase o f X.env (eval o X.env) = eval o X.env := by rfl) :
    XE X c μ W (.Attribute o f pos) (tFld K0 te f) (mFld k j m) := by
  subst hK
  exact xe_fld cl na nd hf h hb
theorem xe_fldOK (i : Nat) {k j : Nat} {x f : Str} {p pos : Pos} (cl : Cls X.K (c.C k)) (na : NoAttr X.K (c.C k) f) (nd : (c.nm k).Nodup) (hf : (c.nm k)[j]? = some f) (hj : (c.md k)[j]? = some false) (hm : mdOf μ i = .own ∨ mdOf μ i = .pin := by decide) (hK : X.K = K0 := by rfl) (hK2 : K0 = c.K := by rfl)
    (hN : X.N[i]? = some x := by rfl) (hv : Vis X.env.scope x := by first | exact Or.inl rfl | exact Or.inr (Or.inl rfl) | exact Or.inr (Or.inr rfl)) (hd : (x == ("__debug__" : Str)) = false := by decide) (hcd : (x == ("__classdict__" : Str)) = false := by decide)
    (hb : attributeBase (.Name x p) f X.env (eval (.Name x p) X.env) = eval (.Name x p) X.env := by rfl) : XE X c μ W (.Attribute (.Name x p) f pos) (tFld K0 (tVar i) f) (mFldO i k j) := by
  subst hK
  exact xe_fldO i cl na nd hf hj hm hN hv hd hcd hb
theorem xi_seqK {tg l : Expr} {tl : TE} {m : ME} (h : XE X c μ W l tl m) (hK : X.K = K0 := by rfl) (hK2 : K0 = c.K := by rfl) : XI X c μ W tg l (iSeq K0 tl) (mItems m) := by
  subst hK
  exact xi_seq h hK2
theorem xi_revK {tg e : Expr} {t : TA} {n : MA} {p pos : Pos} (hm : X.mg "reversed" = none) (ha : XA X c μ W [e] t n) (hK : X.K = K0 := by rfl) (hK2 : K0 = c.K := by rfl) (hg : Gl X "reversed" := by rfl) (hs : starEach [e] X.env = [(false, eval e X.env)] := by rfl) : XI X c μ W tg (.Call (.Name "reversed" p) [e] [] pos) (iRev K0 t) (mRev n) := by
  subst hK
  exact xi_rev hm ha hg hs
theorem xg_tupK {S : List Nat} {es : List Expr} {k : Nat} {t : TGs} {n : Nat} {m : MGs} {pos : Pos} (hc : X.calm = true) (h : XGs X c μ S es t m) (hK : X.K = K0 := by rfl) (hK2 : K0 = c.K := by rfl)
    (hn : (assignEach es X.env).length = n := by rfl) (hst : (assignEach es X.env).findIdx? (·.1) = none := by rfl) : XG X c μ S (.Tuple es k pos) (gTup K0 n t) (gmTup n m) := by
  subst hK
  exact xg_tup hc h hn hst
end
end MM

set_option Elab.async false
set_option linter.all false
set_option maxRecDepth 100000
set_option maxHeartbeats 2000000
/-! The value layer, part o: the evaluators applied. -/
namespace MM
open PySem PySem.Spec PyProof.Rows L2
theorem ap_mVar (i : Nat) (sl : Sl) : mVar i sl = (match sl[i]? with
  | some (some d) => .ok d sl
  | _ => .err) := rfl
theorem ap_mC (d : D) (sl : Sl) : mC d sl = (.ok d sl) := rfl
theorem ap_mOp (f : D → D → Option D) (ma mb : ME) (sl : Sl) : mOp f ma mb sl = ((ma sl).bind fun x s => (mb s).bind fun y s2 => R.ofO (f x y) s2) := rfl
theorem ap_mTest (m : ME) (sl : Sl) : mTest m sl = ((m sl).bind fun d s => match d with
  | .bl b => .ok b s
  | _ => .err) := rfl
theorem ap_mAnd (m n : MT) (sl : Sl) : mAnd m n sl = ((m sl).bind fun b s => if b = true then n s else .ok false s) := rfl
theorem ap_mOr (m n : MT) (sl : Sl) : mOr m n sl = ((m sl).bind fun b s => if b = true then .ok true s else n s) := rfl
theorem ap_mNot (m : MT) (sl : Sl) : mNot m sl = ((m sl).bind fun b s => .ok (!b) s) := rfl
theorem ap_mAndV (m n : ME) (sl : Sl) : mAndV m n sl = ((m sl).bind fun d s => match d with
  | .bl true => n s
  | .bl false => .ok (.bl false) s
  | _ => .err) := rfl
theorem ap_mOrV (m n : ME) (sl : Sl) : mOrV m n sl = ((m sl).bind fun d s => match d with
  | .bl true => .ok (.bl true) s
  | .bl false => n s
  | _ => .err) := rfl
theorem ap_mNotV (m : ME) (sl : Sl) : mNotV m sl = ((m sl).bind fun d s => match d with
  | .bl b => .ok (.bl (!b)) s
  | _ => .err) := rfl
theorem ap_mIfE (m : MT) (n o : ME) (sl : Sl) : mIfE m n o sl = ((m sl).bind fun b s => if b = true then n s else o s) := rfl
theorem ap_mNil  (sl : Sl) : mNil  sl = (.ok [] sl) := rfl
theorem ap_mCons (m : ME) (n : MA) (sl : Sl) : mCons m n sl = ((m sl).bind fun d s => (n s).bind fun ds s2 => .ok (d :: ds) s2) := rfl
theorem ap_mTup (n : MA) (sl : Sl) : mTup n sl = ((n sl).bind fun ds s => if ds.length ≤ LB then .ok (.tup ds) s else .err) := rfl
theorem ap_mLst (n : MA) (sl : Sl) : mLst n sl = ((n sl).bind fun ds s => if ds.length ≤ LB then .ok (.lst ds) s else .err) := rfl
theorem ap_mCall (f : List D → Option D) (n : MA) (sl : Sl) : mCall f n sl = ((n sl).bind fun ds s => R.ofO (f ds) s) := rfl
theorem ap_mMeth (ok : D → Bool) (f : D → List D → Option D) (m : ME) (n : MA) (sl : Sl) : mMeth ok f m n sl = ((m sl).bind fun x s => if ok x = true then (n s).bind fun ds s2 => R.ofO (f x ds) s2 else .err) := rfl
theorem ap_mNoPart  (sl : Sl) : mNoPart  sl = (.ok none sl) := rfl
theorem ap_mPart (m : ME) (sl : Sl) : mPart m sl = ((m sl).bind fun d s => match d with
  | .int i => .ok (some i) s
  | _ => .err) := rfl
theorem ap_mSl (m : ME) (lo hi : Sl → R (Option Int)) (sl : Sl) : mSl m lo hi sl = ((m sl).bind fun x s => (lo s).bind fun l s2 => (hi s2).bind fun u s3 => R.ofO (fSl x l u) s3) := rfl
theorem ap_mFz (m : ME) (sl : Sl) : mFz m sl = ((m sl).bind fun d s => if isLD d = true then .ok d s else .err) := rfl
theorem ap_mFzI (k : Nat) (m : ME) (sl : Sl) : mFzI k m sl = ((m sl).bind fun d s => if isIns k d = true then .ok d s else .err) := rfl
theorem ap_mDnew  (sl : Sl) : mDnew  sl = (.ok (.dic []) sl) := rfl
theorem ap_gmName (i : Nat) (d : D) (sl : Sl) : gmName i d sl = (some (sl.set i (some d))) := rfl
theorem ap_gmNil  (ds : List D) (sl : Sl) : gmNil  ds sl = (match ds with
  | [] => some sl
  | _ => none) := rfl
theorem ap_gmCons (m : MG) (n : MGs) (ds : List D) (sl : Sl) : gmCons m n ds sl = (match ds with
  | d :: r => (m d sl).bind fun s => n r s
  | [] => none) := rfl
theorem ap_gmTup (n : Nat) (m : MGs) (d : D) (sl : Sl) : gmTup n m d sl = (match d with
  | .tup ds => if ds.length = n then m ds sl else none
  | _ => none) := rfl
theorem ap_mSkip  (sl : Sl) : mSkip  sl = (.ok .nx sl) := rfl
theorem ap_mSeq (m n : MS) (sl : Sl) : mSeq m n sl = (match m sl with
  | .ok .nx s => n s
  | r => r) := rfl
theorem ap_mErr (sl : Sl) : mErr sl = .err := rfl
theorem ap_mDrop (m : ME) (sl : Sl) : mDrop m sl = ((m sl).bind fun _ s => .ok .nx s) := rfl
theorem ap_mIf (mt : MT) (m n : MS) (sl : Sl) : mIf mt m n sl = ((mt sl).bind fun b s => if b = true then m s else n s) := rfl
theorem ap_mRet (m : ME) (sl : Sl) : mRet m sl = ((m sl).bind fun d s => .ok (.rt d) s) := rfl
theorem ap_mAsg (m : ME) (g : MG) (sl : Sl) : mAsg m g sl = ((m sl).bind fun d s => match g d s with
  | some s2 => .ok .nx s2
  | none => .err) := rfl
theorem ap_mSetO (m : ME) (i : Nat) (sl : Sl) : mSetO m i sl = ((m sl).bind fun d s => if i < s.length then .ok .nx (s.set i (some d)) else .err) := rfl
theorem ap_mItems (m : ME) (sl : Sl) : mItems m sl = ((m sl).bind fun d s => R.ofO (itemsOf d) s) := rfl
theorem ap_mRng1 (n : MA) (sl : Sl) : mRng1 n sl = ((n sl).bind fun ds s => match ds with
  | [.int j] => if -(2 ^ 62) ≤ j ∧ j ≤ 1000000 then .ok (rangeD 0 j.toNat) s else .err
  | _ => .err) := rfl
theorem ap_mRng2 (n : MA) (sl : Sl) : mRng2 n sl = ((n sl).bind fun ds s => match ds with
  | [.int i, .int j] => if 0 ≤ i ∧ i ≤ 1000000 ∧ -(2 ^ 62) ≤ j ∧ j ≤ 1000000 then .ok (rangeD i (j - i).toNat) s else .err
  | _ => .err) := rfl
theorem ap_mRev (n : MA) (sl : Sl) : mRev n sl = ((n sl).bind fun ds s => match ds with
  | [.lst xs] => .ok xs.reverse s
  | _ => .err) := rfl
theorem ap_mFor (mi : MA) (mg : MG) (mb : MS) (sl : Sl) : mFor mi mg mb sl = ((mi sl).bind fun ds s => forGo mg mb ds s) := rfl
theorem ap_mLc (mi : MA) (vs : List Nat) (mg : MG) (mt : MT) (me : ME) (sl : Sl) : mLc mi vs mg mt me sl = ((mi sl).bind fun ds s => (lcGo vs mg mt me ds s []).bind fun ys s2 => .ok (.lst ys) s2) := rfl
theorem ap_mYes  (sl : Sl) : mYes  sl = (.ok true sl) := rfl
theorem ap_mFld (k j : Nat) (m : ME) (sl : Sl) : mFld k j m sl = ((m sl).bind fun d s => R.ofO (dFld k j d) s) := rfl
theorem ap_mFldO (i k j : Nat) (sl : Sl) : mFldO i k j sl = (match sl[i]? with
  | some (some d) => R.ofO (dFld k j d) sl
  | _ => .err) := rfl
theorem ap_mBor (μ : Ms) (i : Nat) (m : ME) (sl : Sl) : mBor μ i m sl = (match sl[i]? with
  | some (some _) => (match m (mskFrom μ i 0 sl) with
    | .ok d _ => if flatT d = true then .ok d sl else .err
    | _ => .err)
  | _ => .err) := rfl
theorem ap_mBorT (μ : Ms) (i : Nat) (m : MT) (sl : Sl) : mBorT μ i m sl = (match sl[i]? with
  | some (some _) => (match m (mskFrom μ i 0 sl) with
    | .ok b _ => .ok b sl
    | _ => .err)
  | _ => .err) := rfl
theorem ap_mMove (i : Nat) (sl : Sl) : mMove i sl = (match sl[i]? with
  | some (some d) => if isLD d = true then .ok d (sl.set i none) else .err
  | _ => .err) := rfl
theorem ap_mRetMove (i : Nat) (sl : Sl) : mRetMove i sl = (match sl[i]? with
  | some (some d) => .ok (.rt d) (sl.set i none)
  | _ => .err) := rfl
theorem ap_getV (i : Nat) (s : Sl) : getV i s = (match s[i]? with
  | some (some d) => if isLD d = true then some d else none
  | _ => none) := rfl
theorem ap_setV (i : Nat) (s : Sl) (d : D) : setV i s d = (s.set i (some d)) := rfl
theorem ap_getF (i k j : Nat) (s : Sl) : getF i k j s = (match s[i]? with
  | some (some (.ins k' ds)) => if k' = k then (match ds[j]? with
    | some d => if isLD d = true then some d else none
    | none => none) else none
  | _ => none) := rfl
theorem ap_setF (i j : Nat) (s : Sl) (d : D) : setF i j s d = (match s[i]? with
  | some (some (.ins k' ds)) => s.set i (some (.ins k' (ds.set j d)))
  | _ => s) := rfl
theorem ap_mApp (get : Sl → Option D) (set : Sl → D → Sl) (m : ME) (sl : Sl) : mApp get set m sl = (match get sl with
  | some (.lst _) => (m sl).bind fun d s => (match get s with
    | some (.lst ds) => if ds.length < LB then .ok .nx (set s (.lst (ds ++ [d]))) else .err
    | _ => .err)
  | _ => .err) := rfl
theorem ap_mClear (get : Sl → Option D) (set : Sl → D → Sl) (sl : Sl) : mClear get set sl = (match get sl with
  | some (.lst _) => .ok .nx (set sl (.lst []))
  | _ => .err) := rfl
theorem ap_mPut (get : Sl → Option D) (set : Sl → D → Sl) (mv mk : ME) (sl : Sl) : mPut get set mv mk sl = ((mv sl).bind fun d s => match get s with
  | some (.dic _) => (mk s).bind fun k s2 => (match get s2, kd k with
    | some (.dic kv), some k => if kv.length < LB then .ok .nx (set s2 (.dic (putD kv k d))) else .err
    | _, _ => .err)
  | _ => .err) := rfl
theorem ap_mSetL (get : Sl → Option D) (set : Sl → D → Sl) (mv mk : ME) (sl : Sl) : mSetL get set mv mk sl = ((mv sl).bind fun d s => match get s with
  | some (.lst _) => (mk s).bind fun k s2 => (match get s2, k with
    | some (.lst ds), .int i => (match ixN ds.length i with
      | some j => .ok .nx (set s2 (.lst (ds.set j d)))
      | none => .err)
    | _, _ => .err)
  | _ => .err) := rfl
theorem ap_mPopD (get : Sl → Option D) (set : Sl → D → Sl) (mk : ME) (sl : Sl) : mPopD get set mk sl = (match get sl with
  | some (.dic _) => (mk sl).bind fun k s => (match get s, kd k with
    | some (.dic kv), some k => if (lookD kv k).isSome = true then .ok .nx (set s (.dic (dropD kv k))) else .err
    | _, _ => .err)
  | _ => .err) := rfl
theorem ap_mSetFld (i k j : Nat) (m : ME) (sl : Sl) : mSetFld i k j m sl = ((m sl).bind fun d s => match s[i]? with
  | some (some (.ins k' ds)) => if k' = k ∧ ds.length = j then .ok .nx (s.set i (some (.ins k' (ds ++ [d])))) else .err
  | _ => .err) := rfl
theorem ap_mSetFldO (i k j : Nat) (m : ME) (sl : Sl) : mSetFldO i k j m sl = ((m sl).bind fun d s => match s[i]? with
  | some (some (.ins k' ds)) => if k' = k ∧ ds.length = j ∧ isLD d = true then .ok .nx (s.set i (some (.ins k' (ds ++ [d])))) else .err
  | _ => .err) := rfl
theorem ap_fnB (pm : Ms) (ρ : Bool) (n : Nat) (m : MS) (ps : Sl) : fnB pm ρ n m ps = (match m (ps ++ List.replicate n none) with
  | .ok (.rt d) s => (match mskP pm s with
    | some r => .ok d r
    | none => .err)
  | .ok .nx s => if ρ = true then .err else (match mskP pm s with
    | some r => .ok .non r
    | none => .err)
  | _ => .err) := rfl
theorem ap_mCallF (np : Nat) (f : Sl → R D) (n : MA) (sl : Sl) : mCallF np f n sl = ((n sl).bind fun ds s => if ds.length = np then (match f (ds.map some) with
  | .ok d _ => .ok d s
  | _ => .err) else .err) := rfl
theorem ap_mMethF (k np : Nat) (f : Sl → R D) (m : ME) (n : MA) (sl : Sl) : mMethF k np f m n sl = ((m sl).bind fun o s => if isIns k o = true then ((n s).bind fun ds s2 => if ds.length + 1 = np then (match f ((o :: ds).map some) with
  | .ok d _ => .ok d s2
  | _ => .err) else .err) else .err) := rfl
theorem ap_mCallI (i np : Nat) (f : Sl → R D) (n : MA) (sl : Sl) : mCallI i np f n sl = (match sl[i]? with
  | some (some _) => (n sl).bind fun ds s => (match s[i]? with
    | some (some d0) => if ds.length + 1 = np then (match f ((d0 :: ds).map some) with
      | .ok d s2 => (match s2[0]? with
        | some (some d1) => .ok d (s.set i (some d1))
        | _ => .err)
      | _ => .err) else .err
    | _ => .err)
  | _ => .err) := rfl
theorem ap_mMethI (i kc np : Nat) (f : Sl → R D) (n : MA) (sl : Sl) : mMethI i kc np f n sl = (match sl[i]? with
  | some (some o) => if isIns kc o = true then mCallI i np f n sl else .err
  | _ => .err) := rfl
theorem ap_mMethT (kc np : Nat) (f : Sl → R D) (m : ME) (n : MA) (sl : Sl) : mMethT kc np f m n sl = ((m sl).bind fun o s => if isIns kc o = true then ((n s).bind fun ds s2 => if ds.length + 1 = np then (match f ((o :: ds).map some) with
  | .ok d _ => .ok d s2
  | _ => .err) else .err) else .err) := rfl
theorem ap_mMake (kc np : Nat) (f : Sl → R D) (n : MA) (sl : Sl) : mMake kc np f n sl = ((n sl).bind fun ds s => if ds.length + 1 = np then (match f ((.ins kc [] :: ds).map some) with
  | .ok .non s2 => (match s2[0]? with
    | some (some d1) => .ok d1 s
    | _ => .err)
  | _ => .err) else .err) := rfl
theorem ap_mIsi (t : Ty) (m : ME) (sl : Sl) : mIsi t m sl = ((m sl).bind fun x s => R.ofO (fIsi t x) s) := rfl
theorem ap_mRevS (m : ME) (sl : Sl) : mRevS m sl = ((m sl).bind fun x s => match x with
  | .str l => .ok (.str l.reverse) s
  | _ => .err) := rfl
theorem bind_ok {α β : Type} (a : α) (s : Sl) (f : α → Sl → R β) : (R.ok a s).bind f = f a s := rfl
theorem bind_err {α β : Type} (f : α → Sl → R β) : (R.err : R α).bind f = .err := rfl
theorem bind_exc {α β : Type} (k : Nat) (fs : List D) (s : Sl) (f : α → Sl → R β) : (R.exc k fs s : R α).bind f = .exc k fs s := rfl
theorem ofO_some {α : Type} (a : α) (s : Sl) : R.ofO (some a) s = .ok a s := rfl
theorem ofO_none {α : Type} (s : Sl) : R.ofO (none : Option α) s = .err := rfl
theorem atI_nat {α : Type} (xs : List α) (i : Nat) : atI xs (i : Int) = xs[i]? := by
  unfold atI ixN
  rw [if_pos (by omega)]
  by_cases h : i < xs.length
  · rw [if_pos (by omega)]
    simp
  · rw [if_neg (by omega)]
    simp at h ⊢
    exact h
theorem atI_pos {α : Type} (xs : List α) (i : Int) (h : 0 ≤ i) : atI xs i = xs[i.toNat]? := by
  obtain ⟨n, rfl⟩ := Int.eq_ofNat_of_zero_le h
  exact atI_nat xs n
theorem isLD_lst (ds : List D) : isLD (.lst ds) = true := rfl
theorem isLD_dic (kv : List (KD × D)) : isLD (.dic kv) = true := rfl
theorem isIns_mk (k j : Nat) (ds : List D) : isIns k (.ins j ds) = (j == k) := rfl
theorem items_lst (ds : List D) : itemsOf (.lst ds) = some ds := rfl
theorem items_tup (ds : List D) : itemsOf (.tup ds) = some ds := rfl
theorem items_str (l : T) : itemsOf (.str l) = some (l.map fun k => .str [k]) := rfl
theorem items_scr (ns : List Int) : itemsOf (.scr ns) = some (ns.map D.int) := rfl
end MM

set_option Elab.async false
set_option linter.all false
set_option maxRecDepth 100000
set_option maxHeartbeats 2000000
/-! The value layer, part p: walking a dict (it is locked meanwhile), copies, == of dicts, len(set(..)). -/
namespace MM
open PySem PySem.Spec PyProof.Rows L2

abbrev lkC (c : CI) (a : Addr) : CI := { c with lk := some a }
mutual
theorem Rp.toL {c : CI} {F : Hp} (l : Option Addr) : ∀ {v : V} {d : D}, Rp c F v d → Rp { c with lk := l } F v d
  | _, _, .non => .non
  | _, _, .bl b => .bl b
  | _, _, .int i => .int i
  | _, _, .str l h => .str l h
  | _, _, .tup h z r => .tup h z (Rps.toL l r)
  | _, _, .lst h z r => .lst h z (Rps.toL l r)
  | _, _, .dic h z h1 h2 h3 r => .dic h z h1 h2 h3 (Rps.toL l r)
  | _, _, .ins h h1 h2 r => .ins h h1 h2 (Rps.toL l r)
  | _, _, .scr z h => .scr z h
  | _, _, .exn0 h => .exn0 h
  | _, _, .exn h h1 h2 h3 r => .exn h h1 h2 h3 (Rps.toL l r)
theorem Rps.toL {c : CI} {F : Hp} (l : Option Addr) : ∀ {vs : List V} {ds : List D}, Rps c F vs ds → Rps { c with lk := l } F vs ds
  | _, _, .nil => .nil
  | _, _, .cons r t => .cons (Rp.toL l r) (Rps.toL l t)
end
theorem Ow1.toL {c : CI} {F H : Hp} {v : V} {d : D} {a : Addr} (l : Option Addr) (h : Ow1 c F H v d a) : Ow1 { c with lk := l } F H v d a := by
  cases h with
  | lst h z r => exact .lst h z (r.toL l)
  | dic h z h1 r => exact .dic h z h1 (r.toL l)
theorem OwF.toL {c : CI} {F H : Hp} (l : Option Addr) : ∀ {m : List Bool} {vs : List V} {ds : List D} {O : List Addr}, OwF c F H m vs ds O → OwF { c with lk := l } F H m vs ds O
  | _, _, _, _, .nil m => .nil m
  | _, _, _, _, .frz r t => .frz (r.toL l) (t.toL l)
  | _, _, _, _, .own r t => .own (r.toL l) (t.toL l)
theorem Ow.toL {c : CI} {md : Nat → List Bool} {F H : Hp} {v : V} {d : D} {O : List Addr} (l : Option Addr) (h : Ow c md F H v d O) : Ow { c with lk := l } md F H v d O := by
  cases h with
  | one h => exact .one (h.toL l)
  | ins h h1 h2 r nd => exact .ins h h1 h2 (r.toL l) nd
theorem Hold.toL {c : CI} {m : Md} {F H : Hp} {v : V} {d : D} {O : List Addr} (l : Option Addr) (h : Hold c m F H v d O) : Hold { c with lk := l } m F H v d O := by
  cases m with
  | frz => exact ⟨h.1.toL l, h.2⟩
  | own => exact Ow.toL l h
  | pin => exact Ow.toL l h
  | bor j => exact Ow.toL l h
section
variable {c : CI} {μ : Ms} {F H : Hp} {σ : St} {sl : Sl} {O : Os} {a : Addr}
theorem Re.lock {kvs : List (Key × V)} (hlk : c.lk = none) (re : Re c μ F H σ sl O) (hF : F a = some (.dK kvs)) (od : Obj) : Re (lkC c a) μ F (upd H a (.frz od (.dK kvs))) σ sl O := by
  refine ⟨fun b o h => ?_, re.len, fun i d h => ?_, re.emp, re.dis, re.fre⟩
  · by_cases e : b = a
    · subst e
      rw [hF] at h
      cases h
      exact .inr ⟨rfl, kvs, od, rfl, upd_same⟩
    · refine .inl ?_
      rw [upd_ne e]
      have g := re.ag
      rw [hlk] at g
      exact g.exact h
  · obtain ⟨v, h1, h2⟩ := re.at_ i d h
    refine ⟨v, h1, Hold.toL (some a) (h2.mono (Le.refl _) fun b hb o ho => ?_)⟩
    have e : b ≠ a := fun z => by
      have := re.fre i b hb
      rw [z, hF] at this
      cases this
    rw [upd_ne e]
    exact ho
theorem Re.unlock {kvs : List (Key × V)} (hlk : c.lk = none) (re : Re (lkC c a) μ F H σ sl O) (hF : F a = some (.dK kvs)) : Re c μ F (upd H a (.dK kvs)) σ sl O := by
  refine ⟨fun b o h => ?_, re.len, fun i d h => ?_, re.emp, re.dis, re.fre⟩
  · by_cases e : b = a
    · subst e
      rw [hF] at h
      cases h
      exact .inl upd_same
    · refine .inl ?_
      rw [upd_ne e]
      rcases re.ag b o h with q | ⟨q, _⟩
      · exact q
      · exact absurd (Option.some.inj q).symm e
  · obtain ⟨v, h1, h2⟩ := re.at_ i d h
    have h3 : Hold c (mdOf μ i) F H v d (O i) := Hold.toL (c := lkC c a) c.lk h2
    refine ⟨v, h1, h3.mono (Le.refl _) fun b hb o ho => ?_⟩
    have e : b ≠ a := fun z => by
      have := re.fre i b hb
      rw [z, hF] at this
      cases this
    rw [upd_ne e]
    exact ho
theorem Stp.unlock {F' H' : Hp} {O' : Os} {u : HO} {od : Obj} (hu : H a = some u) (hF : F a ≠ none) (hO : ∀ i, a ∉ O i) (s : Stp F (upd H a (.frz od u)) O F' H' O') : Stp F H O F' (upd H' a u) O' := by
  have nn : ∀ b, upd H a (.frz od u) b = none → H b = none := fun b h => upd_al b h
  refine ⟨s.ff, fun b o h n => ?_, fun b o h => ?_, fun i b h => ?_, fun b h => ?_, fun i => ?_⟩
  · by_cases e : b = a
    · subst e
      rw [upd_same, ← hu, h]
    · rw [upd_ne e]
      exact s.kp b o (by rw [upd_ne e]; exact h) n
  · rcases s.fo b o h with z | z | z
    · exact .inl z
    · exact .inr (.inl (nn b z))
    · exact .inr (.inr z)
  · rcases s.ow i b h with z | z
    · exact .inl (nn b z)
    · exact .inr z
  · exact nn b (s.al b (upd_al b h))
  · rcases s.pk i with ⟨N, e, n⟩ | e | e
    · exact .inl ⟨N, e, fun b hb => nn b (n b hb)⟩
    · exact .inr (.inl e)
    · exact .inr (.inr fun b hb => nn b (e b hb))
end
def keyD : KD → D
  | .inl i => .int i
  | .inr l => .str l
def keyOk : KD → Bool
  | .inl _ => true
  | .inr l => decide (l.length ≤ LB)
theorem keyD_rep {c : CI} {F : Hp} {k : KD} (h : keyOk k = true) : Rp c F (kV (kK k)) (keyD k) := by
  cases k with
  | inl i => exact .int i
  | inr l => exact .str l (of_decide_eq_true h)
theorem wk_keys {c : CI} {F : Hp} {a : Addr} {od : Obj} {kvs : List (Key × V)} {kv : List (KD × D)} (hl : kv.length ≤ LB) (hk : kvs.map (·.1) = kv.map (fun p => kK p.1)) (ok : (kv.all fun p => keyOk p.1) = true) : Wk c (some (a, .frz od (.dK kvs))) F (Itk a od kvs) (kv.map fun p => keyD p.1) := by
  have hlen : kvs.length = kv.length := by
    have := congrArg List.length hk
    simpa using this
  refine ⟨by rw [List.length_map]; exact hl, fun F2 H _ _ ph i => ⟨fun h => ⟨ph, by rw [hlen]; simpa using h⟩, fun d hd => ?_⟩⟩
  rw [List.getElem?_map] at hd
  cases e : kv[i]? with
  | none => rw [e] at hd; cases hd
  | some p =>
    rw [e] at hd
    have ed : keyD p.1 = d := Option.some.inj hd
    subst ed
    have hi : i < kv.length := (List.getElem?_eq_some_iff.mp e).1
    refine ⟨⟨ph, by omega⟩, fun x H' y => ?_⟩
    obtain ⟨e1, k, v, e2, e3⟩ := y
    refine ⟨e1, ?_⟩
    have h1 : (kvs.map (·.1))[i]? = some k := by rw [List.getElem?_map, e2]; rfl
    rw [hk, List.getElem?_map, e] at h1
    have ek : kK p.1 = k := Option.some.inj h1
    rw [e3, ← ek]
    exact keyD_rep (List.all_eq_true.mp ok p (List.mem_of_getElem? e))
def mLcK (i : Nat) (vs : List Nat) (mg : MG) (mt : MT) (me : ME) : ME := fun sl => match sl[i]? with
  | some (some (.dic kv)) => if (kv.all fun p => keyOk p.1) = true then (match lcGo vs mg mt me (kv.map fun p => keyD p.1) sl [] with
    | .ok ys s2 => .ok (.lst ys) s2
    | _ => .err) else .err
  | _ => .err
section
variable {c : CI} {X : Cx} {μ : Ms} {W : WX}
theorem evo_lcK {S : List Nat} {i : Nat} {g : TG} {mg : MG} {tt : TT} {mt : MT} {te : TE} {me : ME} {vs : List Nat} (hlk : c.lk = none) (hm : mdOf μ i = .frz) (hv : ∀ i, i ∈ vs → mdOf μ i = .frz) (hS : ∀ i, i ∈ S → i ∈ vs)
    (hg : ∀ a, EvG (lkC c a) μ S g mg) (ht : ∀ a, EvT (lkC c a) μ W0 tt mt) (he : ∀ a, EvE (lkC c a) μ W0 te me) : EvO c μ W (tLockE (tLc (iKeys (tVar i)) g tt te vs)) (mLcK i vs mg mt me) := by
  intro σ H F O sl Q re gs
  unfold mLcK at gs
  split at gs
  · rename_i kv e
    split at gs
    · rename_i ok
      obtain ⟨v, h1, h2⟩ := re.at_ i _ e
      rw [hm] at h2
      obtain ⟨h2, hO⟩ := h2
      cases h2 with
      | @dic a kvs _ vs1 ds1 hF hl hk hvs hds r =>
        have ag := re.ag
        rw [hlk] at ag
        have hH := ag.exact hF
        have hnO : ∀ j, a ∉ O j := fun j hj => by
          have := re.fre j a hj
          rw [hF] at this
          cases this
        refine ⟨a, .dK kvs, hH, True.intro, fun od => ?_⟩
        have re1 := re.lock hlk hF od
        refine ⟨.ref a, h1, a, od, rfl, .inl ⟨kvs, upd_same, ?_⟩⟩
        refine evo_lc (c := lkC c a) (W := W0) (S := S) (Q := fun v H' => H' a = some (.frz od (.dK kvs)) ∧ Q v (upd H' a (.dK kvs))) (mg := mg) (mt := mt) (me := me) hv hS (hg a) (ht a) (he a) re1 (wk_keys hl hk ok) upd_same (fun b o e => by cases e; rw [hF]; exact fun z => nomatch z) (Stp.refl _ _ _) ?_
        revert gs
        cases lcGo vs mg mt me (kv.map fun p => keyD p.1) sl [] with
        | err => exact fun g => g.elim
        | exc k fs s => exact fun g => g.elim
        | ok ys s2 =>
          intro g v F' H' O' Or st re' ow q
          have hF' := st.ff a _ hF
          have hfz : H' a = some (.frz od (.dK kvs)) := st.kp a _ upd_same hnO
          have haO : a ∉ Or := fun z => by
            have := (q a z).1
            rw [hF'] at this
            cases this
          refine ⟨hfz, g v F' _ O' Or (Stp.unlock hH (by rw [hF]; exact fun z => nomatch z) hnO st) (re'.unlock hlk hF') ?_ fun b hb => ⟨(q b hb).1, (q b hb).2.1, upd_al b (q b hb).2.2⟩⟩
          have ow2 : Ow c c.md F' H' v (.lst ys) Or := Ow.toL (c := lkC c a) c.lk ow
          exact ow2.mono (Le.refl _) fun b hb o ho => by
            have hne : b ≠ a := fun z => haO (by rw [← z]; exact hb)
            rw [upd_ne hne]
            exact ho
      | _ => exact gs.elim
    · exact gs.elim
  · exact gs.elim
theorem xn_lcK {S : List Nat} (i : Nat) {x : Str} {px : Pos} {elt tg : Expr} {ifs : List Expr} {scope : Scope} (own : List (Str × Nat)) {vs : List Nat} {pos : Pos} {g : TG} {mg : MG} {tt : TT} {mt : MT} {te : TE} {me : ME} (hc : X.calm = true) (hN : X.N.Nodup) (ok : BlkOk X.N X.env.scope scope own)
    (hg : ∀ (a : Addr) (s : Shared) (H : Hp) (C : Addr) (cl : List (Str × Addr)) (fp : List Addr), XG (X.blk s H scope (compEnvC scope cl C X.env) fp) (lkC c a) μ S tg g mg)
    (ht : ∀ (a : Addr) (s : Shared) (H : Hp) (C : Addr) (cl : List (Str × Addr)) (fp : List Addr), XTs (X.blk s H scope (compEnvC scope cl C X.env) fp) (lkC c a) μ W0 ifs tt mt)
    (he : ∀ (a : Addr) (s : Shared) (H : Hp) (C : Addr) (cl : List (Str × Addr)) (fp : List Addr), XE (X.blk s H scope (compEnvC scope cl C X.env) fp) (lkC c a) μ W0 elt te me)
    (hlk : c.lk = none := by rfl) (hm : mdOf μ i = .frz := by rfl) (hX : X.N[i]? = some x := by rfl) (hvis : Vis X.env.scope x := by first | exact Or.inl rfl | exact Or.inr (Or.inl rfl) | exact Or.inr (Or.inr rfl)) (hd : (x == ("__debug__" : Str)) = false := by decide) (hcd : (x == ("__classdict__" : Str)) = false := by decide)
    (hv : ∀ i, i ∈ vs → mdOf μ i = .frz := by decide) (hS : ∀ i, i ∈ S → i ∈ vs := by decide) (hs : ∀ z, foldedSetIterable (.Name x px) X.env z = pure z := by intro _; rfl) (hvs : own.map (·.2) = vs := by rfl) :
    XN X c μ W (.ListComp elt [⟨tg, .Name x px, ifs, 0⟩] scope pos) (tLockE (tLc (iKeys (tVar i)) g tt te vs)) (mLcK i vs mg mt me) := by
  subst hvs
  exact ⟨pe_lock (pe_lc hc hN (pi_keys (pe_var hX hvis hd hcd)) ok (fun s H C cl fp => (hg 0 s H C cl fp).pg) (fun s H C cl fp => (ht 0 s H C cl fp).pts) (fun s H C cl fp => (he 0 s H C cl fp).pe) hs),
    evo_lcK hlk hm hv hS (fun a => (hg a X.s_0 X.H_0 0 [] []).ev) (fun a => (ht a X.s_0 X.H_0 0 [] []).ev) (fun a => (he a X.s_0 X.H_0 0 [] []).ev)⟩
/-! ### dict(d) -/
def rDictD : List V → Hp → VK → Prop := fun xs H Q => ∃ (a : Addr) (kvs : List (Key × V)), xs = [.ref a] ∧ Rd H a (.dK kvs) ∧ ∀ p, H p = none → Q (.ref p) (upd H p (.dK kvs))
def fDictC : List D → Option D
  | [.dic kv] => some (.dic kv)
  | _ => none
theorem evo_dictc {t : TA} {n : MA} (h : EvA c μ W t n) : EvO c μ W (tCB rDictD t) (mCall fDictC n) := by
  refine Evm.bindO (κ := fun vs σ H1 (Q : VK) => rDictD vs H1 Q) h fun σ H F O sl vs ds Q re rs g => ?_
  unfold fDictC at g
  split at g
  · cases rs with
    | cons r t =>
      cases t
      cases r with
      | @dic a kvs _ vs1 ds1 hF hl hk hvs hds r =>
        refine ⟨a, kvs, rfl, re.ag.dic hF, ?_⟩
        exact GO.new re g fun p hp => .dic upd_same hl hk (by rw [← hvs, ← hds]; exact r)
  · exact g.elim
theorem xn_dictc {p pos : Pos} {e : Expr} {es : List Expr} {t : TA} {n : MA} (hm : X.mg "dict" = none) (ha : XA X c μ W (e :: es) t n)
    (hg : Gl X "dict" := by rfl) (he : starEach (e :: es) X.env = (false, eval e X.env) :: starEach es X.env := by rfl) (hpl : (backTo pos (starEach es X.env)).any (·.1) = false := by rfl) : XN X c μ W (.Call (.Name "dict" p) (e :: es) [] pos) (tCB rDictD t) (mCall fDictC n) :=
  ⟨pe_callTy call_dictD hg hm (by decide +kernel) ha.pa (by decide) (by decide) he hpl, evo_dictc ha.ev⟩
/-! ### len(set(xs)), ints -/
def dedI (ns : List Int) : List Int := PyProof.Rows.firstMet (fun i => ns.getD i 0) ns.length
def tLenSetM (K : PySem.W.Frag) (ta : TE) : TE := fun σ H Q => ta σ H fun x H1 => ∃ (l : Addr) (ns : List Int), x = .ref l ∧ SqL K H1 l (ns.map V.int) ∧ ns.length ≤ 1000 ∧ Q (.int ((dedI ns).length : Nat)) H1
theorem pe_lenSetM {a : Expr} {ta : TE} {p p2 q pos : Pos} (hg : Gl X "len") (hm : X.mg "len" = none) (hg2 : Gl X "set") (hm2 : X.mg "set" = none) (ha : PE X a ta) (hc : X.calm = true)
    (na : starEach [a] X.env = (false, eval a X.env) :: starEach [] X.env := by rfl) (nb : starEach [.Call (.Name "set" p2) [a] [] q] X.env = (false, eval (.Call (.Name "set" p2) [a] [] q) X.env) :: starEach [] X.env := by rfl) : PE X (.Call (.Name "len" p) [.Call (.Name "set" p2) [a] [] q] [] pos) (tLenSetM X.K ta) := by
  refine ⟨fun pins s σ H Q I h => ?_⟩
  refine Call_ (ld_blt I hg hm boot_len ?_)
  refine PyProof.Rows.callWith_builtin1 (PyProof.Rows.args_cons ?_ nb) nb rfl
  refine Call_ (ld_blt I hg2 hm2 boot_set ?_)
  refine PyProof.Rows.callWith_type1 (PyProof.Rows.args_cons (thn (ha.run pins s σ H _ I h) fun v s1 ⟨x, H1, I1, r1, q1⟩ => PyProof.Rows.args_nil ?_) na) na rfl
  obtain ⟨l, ns, rfl, hq, hl, q1⟩ := q1
  cases r1
  obtain ⟨its, r, pl, hz⟩ := I1.list hq
  have hlen : its.toArray.size = ns.length := by rw [List.size_toArray, ← r.length, List.length_map]
  refine call_set_list (I1.ok.hd hc) pl.isList (by simpa using RZ.intsAre_vals r) (by rw [hlen]; unfold scanBound; omega) fun h' tk hS hk => ?_
  refine PyProof.Rows.args_nil ?_
  rw [hlen] at hS
  have hb : (dedI ns).length ≤ ns.length := by
    have go : ∀ n, (PyProof.Rows.firstMet (fun i => ns.getD i 0) n).length ≤ n := by
      intro n
      induction n with
      | zero => exact Nat.le_refl _
      | succ n ih =>
        rw [PyProof.Rows.firstMet_succ]
        unfold step_dedup
        split
        · omega
        · rw [List.length_append]; simp; exact ih
    exact go _
  obtain ⟨o, es, ep, t, ho, hex, hd, _, _, _, hf, hn⟩ := hS
  have I2 : Inv X pins σ H1 { s1 with heap := h', toks := tk } := I1.kept fun b o e => hk b o (Heap.lt_size e) e
  exact call_len_set ho hex hd hf (by rw [hn]; unfold dedI at hb; omega) ⟨.int ((dedI ns).length : Nat), H1, I2.tok _, ⟨_, by rw [hn]; rfl⟩, q1⟩
theorem st_asgK {ρ : Bool} {t : TE} {m : ME} {j : Nat} (hm : mdOf μ j = .frz) (h : EvE c μ W (tLockE t) m) : StM c μ ρ W (tLock (tAsg t (gName j))) (mAsg m (gmName j)) := fun σ H F O sl E re gs => st_asg (ρ := ρ) h (ev_name hm) σ H F O sl E re gs
theorem xs_setLcK {ρ : Bool} {S : List Nat} (j : Nat) {y : Str} {py : Pos} (i : Nat) {x : Str} {px : Pos} {elt tg : Expr} {ifs : List Expr} {scope : Scope} (own : List (Str × Nat)) {vs : List Nat} {pos spos : Pos} {g : TG} {mg : MG} {tt : TT} {mt : MT} {te : TE} {me : ME} (hc : X.calm = true) (hN : X.N.Nodup)
    (hsw : swapsWith (.ListComp elt [⟨tg, .Name x px, ifs, 0⟩] scope pos) (some (.Name y py)) spos.line X.env = pure true) (ok : BlkOk X.N X.env.scope scope own)
    (hg : ∀ (a : Addr) (s : Shared) (H : Hp) (C : Addr) (cl : List (Str × Addr)) (fp : List Addr), XG (X.blk s H scope (compEnvC scope cl C X.env) fp) (lkC c a) μ S tg g mg)
    (ht : ∀ (a : Addr) (s : Shared) (H : Hp) (C : Addr) (cl : List (Str × Addr)) (fp : List Addr), XTs (X.blk s H scope (compEnvC scope cl C X.env) fp) (lkC c a) μ W0 ifs tt mt)
    (he : ∀ (a : Addr) (s : Shared) (H : Hp) (C : Addr) (cl : List (Str × Addr)) (fp : List Addr), XE (X.blk s H scope (compEnvC scope cl C X.env) fp) (lkC c a) μ W0 elt te me)
    (hlk : c.lk = none := by rfl) (hm : mdOf μ i = .frz := by rfl) (hmj : mdOf μ j = .frz := by rfl) (hy : X.N[j]? = some y := by rfl) (hyl : X.env.scope.names.lookup y = some .local := by rfl)
    (hX : X.N[i]? = some x := by rfl) (hvis : Vis X.env.scope x := by first | exact Or.inl rfl | exact Or.inr (Or.inl rfl) | exact Or.inr (Or.inr rfl)) (hd : (x == ("__debug__" : Str)) = false := by decide) (hcd : (x == ("__classdict__" : Str)) = false := by decide)
    (hv : ∀ i, i ∈ vs → mdOf μ i = .frz := by decide) (hS : ∀ i, i ∈ S → i ∈ vs := by decide) (hs : ∀ z, foldedSetIterable (.Name x px) X.env z = pure z := by intro _; rfl) (hvs : own.map (·.2) = vs := by rfl) :
    XS X c μ ρ W (.Assign [.Name y py] (.ListComp elt [⟨tg, .Name x px, ifs, 0⟩] scope pos) spos) (tLock (tAsg (tLc (iKeys (tVar i)) g tt te vs) (gName j))) (mAsg (mFz (mLcK i vs mg mt me)) (gmName j)) := by
  subst hvs
  exact ⟨ps_lock (ps_setLc hc hN hy hyl hsw (pi_keys (pe_var hX hvis hd hcd)) ok (fun s H C cl fp => (hg 0 s H C cl fp).pg) (fun s H C cl fp => (ht 0 s H C cl fp).pts) (fun s H C cl fp => (he 0 s H C cl fp).pe) hs),
    st_asgK hmj (ev_fz (evo_lcK hlk hm hv hS (fun a => (hg a X.s_0 X.H_0 0 [] []).ev) (fun a => (ht a X.s_0 X.H_0 0 [] []).ev) (fun a => (he a X.s_0 X.H_0 0 [] []).ev)))⟩
end
end MM

set_option Elab.async false
set_option linter.all false
set_option maxRecDepth 100000
set_option maxHeartbeats 2000000
/-! The value layer, part q: chained compare, -x, len(set(..)), == of dicts, d.get(k, x). -/
namespace MM
open PySem PySem.Spec PyProof.Rows L2
section
variable {K0 : PySem.W.Frag} {c : CI} {X : Cx} {μ : Ms} {W : WX} {a b d : Expr} {ta tb td : TE} {ma mb md : ME} {pos : Pos} {f f' : D → D → Option D}
/-! ### a < b < d -/
def mChain (f f' : D → D → Option D) (ma mb md : ME) : ME := fun sl => (ma sl).bind fun x s => (mb s).bind fun y s2 => match f x y with
  | some (.bl true) => (md s2).bind fun z s3 => R.ofO (f' y z) s3
  | some (.bl false) => .ok (.bl false) s2
  | _ => .err
theorem ev_chain {r r' : R2} (hr : Rv2 c r f) (hr' : Rv2 c r' f') (ha : EvE c μ W ta ma) (hb : EvE c μ W tb mb) (hd : EvE c μ W td md) : EvE c μ W (tChain r r' ta tb td) (mChain f f' ma mb md) := by
  refine Evm.bind (κ := fun x σ H1 (Q : VK) => tb σ H1 fun y H2 => r x y H2 fun z H3 => ∃ k, z = .bl k ∧ (if k = true then td σ H3 fun w' H4 => r' y w' H4 Q else Q (.bl false) H3)) ha fun σ H F O sl x dx Q re rx g => ?_
  refine hb σ H F O sl _ re ?_
  revert g
  cases e : mb sl with
  | exc k fs sl' => exact fun g => g
  | err => exact fun g => g
  | ok dy s2 =>
    intro g y F' H' O' s re' ry
    have g2 : GX (rD c) c μ W F H O σ Q (match f dx dy with
      | some (.bl true) => (md s2).bind fun z s3 => R.ofO (f' dy z) s3
      | some (.bl false) => .ok (.bl false) s2
      | _ => .err) := g
    revert g2
    cases ef : f dx dy with
    | none => exact fun g => g.elim
    | some d0 =>
      intro g2
      refine hr μ σ H' F' O' s2 x y dx dy d0 _ re' (rx.mono s.ff) ry ef fun v F2 H2 st2 re2 rv => ?_
      cases rv with
      | bl k =>
        refine ⟨k, rfl, ?_⟩
        cases k with
        | false =>
          rw [if_neg (by decide)]
          exact g2 _ F2 H2 O' (s.trans st2) re2 (.bl false)
        | true =>
          rw [if_pos rfl]
          refine hd σ H2 F2 O' s2 _ re2 ?_
          have g3 : GX (rD c) c μ W F2 H2 O' σ Q ((md s2).bind fun z s3 => R.ofO (f' dy z) s3) := GX.from (s.trans st2) g2
          revert g3
          cases e3 : md s2 with
          | exc k fs sl' => exact fun g => g
          | err => exact fun g => g
          | ok dz s3 =>
            intro g3 z F3 H3 O3 st3 re3 rz
            have g4 : GX (rD c) c μ W F2 H2 O' σ Q (R.ofO (f' dy dz) s3) := g3
            cases ef2 : f' dy dz with
            | none => rw [ef2] at g4; exact g4.elim
            | some d4 =>
              rw [ef2] at g4
              exact hr' μ σ H3 F3 O3 s3 y z dy dz d4 Q re3 ((ry.mono st2.ff).mono st3.ff) rz ef2 fun v F'' H'' s' re'' rv => g4 v F'' H'' O3 (st3.trans s') re'' rv
      | _ => exact g2.elim
theorem xt_chain {op op' : CmpOp} {r r' : R2} (ho : OpR X (compareOp op) r) (ho' : OpR X (compareOp op') r') (hr : Rv2 c r f) (hr' : Rv2 c r' f') (ha : XE X c μ W a ta ma) (hb : XE X c μ W b tb mb) (hd : XE X c μ W d td md)
    (hm : lastMarks [op, op'] [b, d] = false := by with_unfolding_all rfl) : XT X c μ W (.Compare a [op, op'] [b, d] pos) (tTest (tChain r r' ta tb td)) (mTest (mChain f f' ma mb md)) := ⟨pt_chain ho ho' ha.pe hb.pe hd.pe hm, ev_test (ev_chain hr hr' ha.ev hb.ev hd.ev)⟩
/-! ### -x -/
def mNeg (m : ME) : ME := fun sl => (m sl).bind fun x s => match x with
  | .int i => .ok (.int (-i)) s
  | _ => .err
theorem xe_neg (ha : XE X c μ W a ta ma) : XE X c μ W (.UnaryOp .USub a pos) (tUn (rU fun i => .int (-i)) ta) (mNeg ma) := ⟨pe_un un_neg ha.pe, by
  refine Evm.bind (κ := fun x σ H1 (Q : VK) => rU (fun i => .int (-i)) x H1 Q) ha.ev fun σ H F O sl x dx Q re rx g => ?_
  cases rx with
  | int i => exact ⟨i, rfl, g _ F H O (Stp.refl _ _ _) re (.int _)⟩
  | _ => exact g.elim⟩
/-! ### len(set(xs)) -/
def mLenSet (m : ME) : ME := fun sl => (m sl).bind fun x s => match x with
  | .lst ds => (match asInts ds with
    | some ns => if ns.length ≤ 1000 then .ok (.int ((dedI ns).length : Nat)) s else .err
    | none => .err)
  | _ => .err
theorem xe_lenSet {p p2 q : Pos} (hm : X.mg "len" = none) (hm2 : X.mg "set" = none) (ha : XE X c μ W a ta ma) (hc : X.calm = true) (hK : X.K = K0 := by rfl) (hg : Gl X "len" := by rfl) (hg2 : Gl X "set" := by rfl)
    (na : starEach [a] X.env = (false, eval a X.env) :: starEach [] X.env := by rfl) (nb : starEach [.Call (.Name "set" p2) [a] [] q] X.env = (false, eval (.Call (.Name "set" p2) [a] [] q) X.env) :: starEach [] X.env := by rfl) :
    XE X c μ W (.Call (.Name "len" p) [.Call (.Name "set" p2) [a] [] q] [] pos) (tLenSetM K0 ta) (mLenSet ma) := by
  subst hK
  refine ⟨pe_lenSetM hg hm hg2 hm2 ha.pe hc na nb, ?_⟩
  refine Evm.bind (κ := fun x σ H1 (Q : VK) => ∃ (l : Addr) (ns : List Int), x = .ref l ∧ SqL X.K H1 l (ns.map V.int) ∧ ns.length ≤ 1000 ∧ Q (.int ((dedI ns).length : Nat)) H1) ha.ev fun σ H F O sl x dx Q re rx g => ?_
  cases rx with
  | @lst a vs ds h z r =>
    have g : GX (rD c) c μ W F H O σ Q (match asInts ds with
      | some ns => if ns.length ≤ 1000 then .ok (.int ((dedI ns).length : Nat)) sl else .err
      | none => .err) := g
    cases e : asInts ds with
    | none => rw [e] at g; exact g.elim
    | some ns =>
      rw [e] at g
      dsimp only at g
      by_cases hl : ns.length ≤ 1000
      · rw [if_pos hl] at g
        have e2 := asInts_eq e
        rw [e2] at r
        exact ⟨a, ns, rfl, by rw [← r.ints]; exact SqL.of (re.ag.lst h), hl, g _ F H O (Stp.refl _ _ _) re (.int _)⟩
      · rw [if_neg hl] at g
        exact g.elim
  | _ => exact g.elim
/-! ### d == e, dicts of flat things -/
def eqFlat : D → D → Bool
  | .non, .non => true
  | .bl a, .bl b => a == b
  | .int a, .int b => a == b
  | .str a, .str b => a == b
  | _, _ => false
theorem eqFlat_eq : ∀ {x y : D}, eqFlat x y = true → x = y
  | .non, .non, _ => rfl
  | .bl a, .bl b, h => by rw [eq_of_beq (show (a == b) = true from h)]
  | .int a, .int b, h => by rw [eq_of_beq (show (a == b) = true from h)]
  | .str a, .str b, h => by rw [eq_of_beq (show (a == b) = true from h)]
def eqKv : List (KD × D) → List (KD × D) → Bool
  | [], [] => true
  | p :: r, q :: t => decide (p.1 = q.1) && (eqFlat p.2 q.2 && eqKv r t)
  | _, _ => false
theorem eqKv_eq : ∀ {x y : List (KD × D)}, eqKv x y = true → x = y
  | [], [], _ => rfl
  | (a, b) :: r, (a2, b2) :: t, h => by
    unfold eqKv at h
    simp only [Bool.and_eq_true, decide_eq_true_eq] at h
    obtain ⟨h1, h2, h3⟩ := h
    rw [h1, eqFlat_eq h2, eqKv_eq h3]
theorem eqKv_flat : ∀ {x y : List (KD × D)}, eqKv x y = true → ∀ p, p ∈ x → eqFlat p.2 p.2 = true
  | (a, b) :: r, (a2, b2) :: t, h, p, hp => by
    unfold eqKv at h
    simp only [Bool.and_eq_true, decide_eq_true_eq] at h
    obtain ⟨h1, h2, h3⟩ := h
    rcases List.mem_cons.mp hp with e | hp
    · rw [e]
      have := eqFlat_eq h2
      rw [← this] at h2
      exact h2
    · exact eqKv_flat h3 p hp
def fEqDic (x y : D) : Option D := match x, y with
  | .dic a, .dic b => if eqKv a b = true ∧ (a.map (·.1)).Nodup then some (.bl true) else none
  | _, _ => none
def rEqDic : R2 := fun x y H Q => ∃ a b kvs, x = .ref a ∧ y = .ref b ∧ H a = some (.dK kvs) ∧ H b = some (.dK kvs) ∧ (kvs.map (·.1)).Nodup ∧ (∀ p ∈ kvs, flatB p.2 = true) ∧ Q (.bl true) H
theorem eqFlat_rep {F : Hp} {v w : V} {d : D} (h : eqFlat d d = true) (r : Rp c F v d) (q : Rp c F w d) : v = w ∧ flatB v = true := by
  cases r with
  | non => cases q; exact ⟨rfl, rfl⟩
  | bl b => cases q; exact ⟨rfl, rfl⟩
  | int i => cases q; exact ⟨rfl, rfl⟩
  | str l h => cases q; exact ⟨rfl, rfl⟩
  | _ => cases h
theorem rps_same {F : Hp} : ∀ {kv : List (KD × D)} {kvs kvs2 : List (Key × V)}, (∀ p, p ∈ kv → eqFlat p.2 p.2 = true) → RpK c F kvs kv → RpK c F kvs2 kv → kvs = kvs2 ∧ ∀ p ∈ kvs, flatB p.2 = true
  | [], kvs, kvs2, _, h, h2 => by
    have e : kvs = [] := List.eq_nil_of_length_eq_zero (by rw [h.len]; rfl)
    have e2 : kvs2 = [] := List.eq_nil_of_length_eq_zero (by rw [h2.len]; rfl)
    rw [e, e2]
    exact ⟨rfl, fun p hp => by cases hp⟩
  | q :: r, kvs, kvs2, hf, h, h2 => by
    cases kvs with
    | nil => have := h.len; simp at this
    | cons p kvs =>
      cases kvs2 with
      | nil => have := h2.len; simp at this
      | cons p2 kvs2 =>
        obtain ⟨q1, r1, e1, k1, v1, t1⟩ := h.cases
        obtain ⟨q2, r2, e2, k2, v2, t2⟩ := h2.cases
        cases e1
        cases e2
        obtain ⟨e3, f3⟩ := eqFlat_rep (hf q List.mem_cons_self) v1 v2
        obtain ⟨e4, f4⟩ := rps_same (fun p hp => hf p (List.mem_cons_of_mem _ hp)) t1 t2
        refine ⟨?_, fun p' hp' => ?_⟩
        · rw [e4]
          have : p = p2 := Prod.ext (k1.trans k2.symm) e3
          rw [this]
        · rcases List.mem_cons.mp hp' with e | e
          · rw [e]; exact f3
          · exact f4 p' e
theorem op_eqDic (hu : X.A.units < cLine) : OpR X (compareOp .Eq) rEqDic := op_eq_dict hu
theorem rv_eqDic (hlk : c.lk = none) : Rv2 c rEqDic fEqDic := by
  intro μ σ H F O sl x y dx dy d Q re rx ry e g
  unfold fEqDic at e
  split at e
  · rename_i k1 k2
    split at e
    · rename_i h
      cases e
      have ek := eqKv_eq h.1
      subst ek
      have ag := re.ag
      rw [hlk] at ag
      cases rx with
      | @dic a kvs _ vs1 ds1 hF hl hk hvs hds r =>
        cases ry with
        | @dic b kvs2 _ vs2 ds2 hF2 hl2 hk2 hvs2 hds2 r2 =>
          obtain ⟨e1, f1⟩ := rps_same (c := c) (F := F) (eqKv_flat h.1) (⟨hk, by rw [← hvs, ← hds]; exact r⟩ : RpK c F kvs k1) (⟨hk2, by rw [← hvs2, ← hds2]; exact r2⟩ : RpK c F kvs2 k1)
          subst e1
          refine ⟨a, b, kvs, rfl, rfl, ag.exact hF, ag.exact hF2, ?_, f1, stay re g (.bl true)⟩
          rw [hk]
          have e2 : (k1.map fun p => kK p.1) = (k1.map (·.1)).map kK := by rw [List.map_map]; rfl
          rw [e2]
          exact List.Pairwise.map kK (fun a b n e => n (kK_inj e)) h.2
    · cases e
  · cases e
/-! ### d.get(k, x) -/
def mGet2 (m mk mx : ME) : ME := fun sl => (m sl).bind fun x s => match x with
  | .dic kv => (mk s).bind fun k s2 => (mx s2).bind fun z s3 => (match kd k with
    | some kk => .ok ((lookD kv kk).getD z) s3
    | none => .err)
  | _ => .err
theorem xe_get2 {o : Expr} {to : TE} {mo : ME} {apos cpos : Pos} (hu : X.A.units + 1 < cLine) (ho : XE X c μ W o to mo) (ha : XE X c μ W a ta ma) (hb : XE X c μ W b tb mb) (m : M2 X o "get" apos a b cpos) :
    XE X c μ W (.Call (.Attribute o "get" apos) [a, b] [] cpos) (tDGet2 to ta tb) (mGet2 mo ma mb) := by
  refine ⟨pe_dget2 hu ho.pe ha.pe hb.pe m, ?_⟩
  refine Evm.bind (κ := fun x σ H1 (Q : VK) => ∃ a, x = .ref a ∧ IsD H1 a ∧ ta σ H1 fun y H2 => tb σ H2 fun z H3 => ∃ o, DGet H3 a y o ∧ Q (o.getD z) H3) ho.ev fun σ H F O sl x dx Q re rx g => ?_
  cases rx with
  | @dic a0 kvs kv vs1 ds1 hF hl hk hvs hds r =>
    have rk : RpK c F kvs kv := ⟨hk, by rw [← hvs, ← hds]; exact r⟩
    refine ⟨a0, rfl, .inl ⟨kvs, re.ag.dic hF⟩, ha.ev σ H F O sl _ re ?_⟩
    have g : GX (rD c) c μ W F H O σ Q ((ma sl).bind fun k s2 => (mb s2).bind fun z s3 => (match kd k with
      | some kk => .ok ((lookD kv kk).getD z) s3
      | none => .err)) := g
    revert g
    cases e : ma sl with
    | exc k fs s => exact fun g => g
    | err => exact fun g => g
    | ok dk s2 =>
      intro g y F1 H1 O1 st1 re1 ry
      refine hb.ev σ H1 F1 O1 s2 _ re1 ?_
      have g : GX (rD c) c μ W F1 H1 O1 σ Q ((mb s2).bind fun z s3 => (match kd dk with
        | some kk => .ok ((lookD kv kk).getD z) s3
        | none => .err)) := GX.from st1 g
      revert g
      cases e2 : mb s2 with
      | exc k fs s => exact fun g => g
      | err => exact fun g => g
      | ok dz s3 =>
        intro g z F2 H2 O2 st2 re2 rz
        have g : GX (rD c) c μ W F1 H1 O1 σ Q (match kd dk with
          | some kk => .ok ((lookD kv kk).getD dz) s3
          | none => .err) := g
        have ry2 := ry.mono st2.ff
        have hF2 := st2.ff _ _ (st1.ff _ _ hF)
        have rk2 := (rk.mono st1.ff).mono st2.ff
        cases ek : kd dk with
        | none => rw [ek] at g; exact g.elim
        | some kk =>
          rw [ek] at g
          have ey : y = kV (kK kk) := by
            cases ry2 with
            | int i => cases ek; rfl
            | str l h => cases ek; rfl
            | _ => cases ek
          refine ⟨valV kvs (kK kk), .inl ⟨kvs, kK kk, re2.ag.dic hF2, ey, rfl⟩, ?_⟩
          have g2 := g ((valV kvs (kK kk)).getD z) F2 H2 O2 st2 re2
          rcases rk2.look kk with ⟨h1, h2⟩ | ⟨d, v, h1, h2, h3⟩
          · refine g2 ?_
            show Rp c F2 _ _
            rw [h1, h2]
            exact rz
          · refine g2 ?_
            show Rp c F2 _ _
            rw [h1, h2]
            exact h3
  | _ => exact g.elim
end
end MM

set_option Elab.async false
set_option linter.all false
set_option maxRecDepth 100000
set_option maxHeartbeats 2000000
/-! The value layer, part r: part p's and q's evaluators applied. -/
namespace MM
open PySem PySem.Spec PyProof.Rows L2
theorem ap_mLcK (i : Nat) (vs : List Nat) (mg : MG) (mt : MT) (me : ME) (sl : Sl) : mLcK i vs mg mt me sl = (match sl[i]? with
  | some (some (.dic kv)) => if (kv.all fun p => keyOk p.1) = true then (match lcGo vs mg mt me (kv.map fun p => keyD p.1) sl [] with
    | .ok ys s2 => .ok (.lst ys) s2
    | _ => .err) else .err
  | _ => .err) := rfl
theorem ap_mNeg (m : ME) (sl : Sl) : mNeg m sl = ((m sl).bind fun x s => match x with
  | .int i => .ok (.int (-i)) s
  | _ => .err) := rfl
theorem ap_mLenSet (m : ME) (sl : Sl) : mLenSet m sl = ((m sl).bind fun x s => match x with
  | .lst ds => (match asInts ds with
    | some ns => if ns.length ≤ 1000 then .ok (.int ((dedI ns).length : Nat)) s else .err
    | none => .err)
  | _ => .err) := rfl
theorem ap_mChain (f f' : D → D → Option D) (ma mb md : ME) (sl : Sl) : mChain f f' ma mb md sl = ((ma sl).bind fun x s => (mb s).bind fun y s2 => match f x y with
  | some (.bl true) => (md s2).bind fun z s3 => R.ofO (f' y z) s3
  | some (.bl false) => .ok (.bl false) s2
  | _ => .err) := rfl
theorem ap_mGet2 (m mk mx : ME) (sl : Sl) : mGet2 m mk mx sl = ((m sl).bind fun x s => match x with
  | .dic kv => (mk s).bind fun k s2 => (mx s2).bind fun z s3 => (match kd k with
    | some kk => .ok ((lookD kv kk).getD z) s3
    | none => .err)
  | _ => .err) := rfl
end MM

set_option Elab.async false
set_option linter.all false
set_option maxRecDepth 100000
set_option maxHeartbeats 2000000
/-! The value layer, part s: the owned field of a local instance taken out of it (the instance is done with). -/
namespace MM
open PySem PySem.Spec PyProof.Rows L2
section
variable {c : CI} {X : Cx} {μ : Ms} {W : WX}
def mRetFld (i k j : Nat) : MS := fun sl => match getF i k j sl with
  | some d => .ok (.rt d) (sl.set i none)
  | none => .err
def mMoveFld (i k j : Nat) : ME := fun sl => match getF i k j sl with
  | some d => .ok d (sl.set i none)
  | none => .err
theorem fld_own {K : PySem.W.Frag} {i k j : Nat} {f : Str} {σ : St} {H F : Hp} {O : Os} {sl : Sl} {d : D} (hm : mdOf μ i = .own) (hj : (c.md k)[j]? = some true) (cl : Cls K (c.C k)) (na : NoAttr K (c.C k) f) (nd : (c.nm k).Nodup) (hf : (c.nm k)[j]? = some f)
    (re : Re c μ F H σ sl O) (hg : getF i k j sl = some d) : ∃ b, b ∈ O i ∧ Ow1 c F H (.ref b) d b ∧ ∀ Q : VK, Q (.ref b) H → tFld K (tVar i) f σ H Q := by
  obtain ⟨ds, hs, hds, hd⟩ := getF_some hg
  obtain ⟨v, h1, ow⟩ := re.own (.inl hm) hs
  generalize eL : O i = L at ow
  cases ow with
  | one h => cases h
  | @ins a dx _ fs _ O1 h2 h3 h4 r nd' =>
    obtain ⟨b, g1, g2, g3⟩ := r.getO hj hds
    have hfl : fs.lookup f = some (.ref b) := by
      rw [fld_at h4 nd hf (List.getElem?_eq_some_iff.mp hds).1]
      exact g1
    exact ⟨b, List.mem_cons_of_mem _ (List.mem_cons_of_mem _ (List.mem_of_getElem? g3)), g2, fun Q q => ⟨_, h1, a, _, dx, fs, _, rfl, h2, cl, na, hfl, q⟩⟩
theorem out_of {F H : Hp} {σ : St} {sl : Sl} {O : Os} {i : Nat} {b : Addr} (re : Re c μ F H σ sl O) (hb : b ∈ O i) : ∀ j, b ∉ (if j = i then [] else O j) := fun j hj => by
  by_cases q : j = i
  · rw [if_pos q] at hj; exact nomatch hj
  · rw [if_neg q] at hj
    exact q (re.dis j i b hj hb)
theorem st_retFld {K : PySem.W.Frag} {i k j : Nat} {f : Str} (hm : mdOf μ i = .own) (hj : (c.md k)[j]? = some true) (cl : Cls K (c.C k)) (na : NoAttr K (c.C k) f) (nd : (c.nm k).Nodup) (hf : (c.nm k)[j]? = some f) : StM c μ true W (tRet (tFld K (tVar i) f)) (mRetFld i k j) := by
  intro σ H F O sl E re g
  unfold mRetFld at g
  split at g
  · rename_i d e
    obtain ⟨b, hb, ow, go⟩ := fld_own hm hj cl na nd hf re e
    refine go _ (g (.ref b) σ F H _ [b] (Stp.emptied (i := i)) re.emptied (Pin.refl _ _) ⟨.one ow, fun a ha => ?_⟩)
    rw [List.mem_singleton.mp ha]
    exact ⟨re.fre i b hb, out_of re hb, .inr ⟨i, hb⟩⟩
  · exact g.elim
theorem ev_moveFld {K : PySem.W.Frag} {i k j : Nat} {f : Str} (hm : mdOf μ i = .own) (hj : (c.md k)[j]? = some true) (cl : Cls K (c.C k)) (na : NoAttr K (c.C k) f) (nd : (c.nm k).Nodup) (hf : (c.nm k)[j]? = some f) : EvE c μ W (tFld K (tVar i) f) (mMoveFld i k j) := by
  intro σ H F O sl Q re g
  unfold mMoveFld at g
  split at g
  · rename_i d e
    obtain ⟨b, hb, ow, go⟩ := fld_own hm hj cl na nd hf re e
    obtain ⟨o, e1, q⟩ := ow.freeze
    have hf2 := re.fre i b hb
    exact go _ (g (.ref b) _ H _ ((Stp.emptied (i := i)).put hf2 (.inr ⟨i, hb⟩)) (re.emptied.put e1 hf2 (out_of re hb)) (q _ (Le.new o hf2) upd_same))
  · exact g.elim
theorem xs_retFld (i : Nat) {k j : Nat} {x f : Str} {p p2 pos : Pos} (cl : Cls X.K (c.C k)) (na : NoAttr X.K (c.C k) f) (nd : (c.nm k).Nodup) (hf : (c.nm k)[j]? = some f) (hj : (c.md k)[j]? = some true) (hm : mdOf μ i = .own := by rfl)
    (hN : X.N[i]? = some x := by rfl) (hv : Vis X.env.scope x := by first | exact Or.inl rfl | exact Or.inr (Or.inl rfl) | exact Or.inr (Or.inr rfl)) (hd : (x == ("__debug__" : Str)) = false := by decide) (hcd : (x == ("__classdict__" : Str)) = false := by decide)
    (hb : attributeBase (.Name x p) f X.env (eval (.Name x p) X.env) = eval (.Name x p) X.env := by rfl) : XS X c μ true W (.Return (some (.Attribute (.Name x p) f p2)) pos) (tRet (tFld X.K (tVar i) f)) (mRetFld i k j) := ⟨ps_ret (pe_fld (pe_var hN hv hd hcd) hb), st_retFld hm hj cl na nd hf⟩
theorem xe_moveFld (i : Nat) {k j : Nat} {x f : Str} {p p2 : Pos} (cl : Cls X.K (c.C k)) (na : NoAttr X.K (c.C k) f) (nd : (c.nm k).Nodup) (hf : (c.nm k)[j]? = some f) (hj : (c.md k)[j]? = some true) (hm : mdOf μ i = .own := by rfl)
    (hN : X.N[i]? = some x := by rfl) (hv : Vis X.env.scope x := by first | exact Or.inl rfl | exact Or.inr (Or.inl rfl) | exact Or.inr (Or.inr rfl)) (hd : (x == ("__debug__" : Str)) = false := by decide) (hcd : (x == ("__classdict__" : Str)) = false := by decide)
    (hb : attributeBase (.Name x p) f X.env (eval (.Name x p) X.env) = eval (.Name x p) X.env := by rfl) : XE X c μ W (.Attribute (.Name x p) f p2) (tFld X.K (tVar i) f) (mMoveFld i k j) := ⟨pe_fld (pe_var hN hv hd hcd) hb, ev_moveFld hm hj cl na nd hf⟩
theorem ap_mRetFld (i k j : Nat) (sl : Sl) : mRetFld i k j sl = (match getF i k j sl with
  | some d => .ok (.rt d) (sl.set i none)
  | none => .err) := rfl
theorem ap_mMoveFld (i k j : Nat) (sl : Sl) : mMoveFld i k j sl = (match getF i k j sl with
  | some d => .ok d (sl.set i none)
  | none => .err) := rfl
end
end MM

set_option Elab.async false
set_option linter.all false
set_option maxRecDepth 100000
set_option maxHeartbeats 2000000
/-! The value layer, part t: the evaluators run, one lemma a construct (applied one after another, the result found by unifying). -/
namespace MM
open PySem PySem.Spec PyProof.Rows L2
/-! ### slots -/
def Gt (l : Sl) (n : Nat) (d : D) : Prop := l[n]? = some (some d)
theorem gt_z {d : D} {r : Sl} : Gt (some d :: r) 0 d := rfl
theorem gt_s {x : Option D} {r : Sl} {n : Nat} {d : D} (h : Gt r n d) : Gt (x :: r) (n + 1) d := h
def St2 (l : Sl) (n : Nat) (x : Option D) (l' : Sl) : Prop := l.set n x = l'
theorem st_z {y x : Option D} {r : Sl} : St2 (y :: r) 0 x (x :: r) := rfl
theorem st_s {y x : Option D} {r r' : Sl} {n : Nat} (h : St2 r n x r') : St2 (y :: r) (n + 1) x (y :: r') := congrArg (y :: ·) h
def Mk (μ : Ms) (i n : Nat) (l l' : Sl) : Prop := mskFrom μ i n l = l'
theorem mk_nil {μ : Ms} {i n : Nat} : Mk μ i n [] [] := rfl
def kp (μ : Ms) (i n : Nat) : Bool := decide (mdOf μ n = .frz) || decide (n = i)
theorem mk_y {μ : Ms} {i n : Nat} {x : Option D} {r r' : Sl} (h : kp μ i n = true) (t : Mk μ i (n + 1) r r') : Mk μ i n (x :: r) (x :: r') := by
  unfold Mk at t ⊢
  unfold mskFrom
  rw [t, if_pos]
  unfold kp at h
  simpa using h
theorem mk_n {μ : Ms} {i n : Nat} {x : Option D} {r r' : Sl} (h : kp μ i n = false) (t : Mk μ i (n + 1) r r') : Mk μ i n (x :: r) (none :: r') := by
  unfold Mk at t ⊢
  unfold mskFrom
  rw [t, if_neg]
  unfold kp at h
  simpa using h
def Ms2 (ds : List D) (l : Sl) : Prop := ds.map some = l
theorem ms_nil : Ms2 [] [] := rfl
theorem ms_cons {d : D} {ds : List D} {l : Sl} (h : Ms2 ds l) : Ms2 (d :: ds) (some d :: l) := congrArg (some d :: ·) h
def Ap (ps : Sl) (n : Nat) (l : Sl) : Prop := ps ++ List.replicate n none = l
theorem ap_z : Ap [] 0 [] := rfl
theorem ap_n {n : Nat} {l : Sl} (h : Ap [] n l) : Ap [] (n + 1) (none :: l) := congrArg (none :: ·) h
theorem ap_c {p : Option D} {ps l : Sl} {n : Nat} (h : Ap ps n l) : Ap (p :: ps) n (p :: l) := congrArg (p :: ·) h
/-! ### expressions -/
section
variable {α β : Type} {sl s s1 s2 s3 r : Sl} {d e x y z : D} {ds es : List D} {m m1 m2 : ME} {n : MA} {t t1 t2 : MT} {b b1 b2 : Bool}
/-- a choice that is not looked into yet -/
def cIf (b : Bool) (x y : α) : α := if b = true then x else y
theorem r_yes {x y u : α} {b : Bool} (h : b = true) (k : x = u) : cIf b x y = u := by subst h; exact k
theorem r_no {x y u : α} {b : Bool} (h : b = false) (k : y = u) : cIf b x y = u := by subst h; exact k
theorem r_t {x y u : α} (k : x = u) : cIf true x y = u := k
theorem r_f {x y u : α} (k : y = u) : cIf false x y = u := k
theorem r_var {i : Nat} (h : Gt sl i d) : mVar i sl = .ok d sl := by
  unfold Gt at h
  rw [ap_mVar, h]
theorem r_c : mC d sl = .ok d sl := rfl
theorem r_op {f : D → D → Option D} (h1 : m1 sl = .ok x s1) (h2 : m2 s1 = .ok y s2) (h3 : f x y = some z) : mOp f m1 m2 sl = .ok z s2 := by
  rw [ap_mOp, h1, bind_ok, h2, bind_ok, h3, ofO_some]
theorem r_test (h : m sl = .ok (.bl b) s) : mTest m sl = .ok b s := by rw [ap_mTest, h, bind_ok]
theorem r_and {u : R Bool} (h : t1 sl = .ok b s) (k : cIf b (t2 s) (.ok false s) = u) : mAnd t1 t2 sl = u := by rw [ap_mAnd, h, bind_ok]; exact k
theorem r_or {u : R Bool} (h : t1 sl = .ok b s) (k : cIf b (.ok true s) (t2 s) = u) : mOr t1 t2 sl = u := by rw [ap_mOr, h, bind_ok]; exact k
theorem r_not (h : t sl = .ok b s) : mNot t sl = .ok (!b) s := by rw [ap_mNot, h, bind_ok]
theorem r_andV {u : R D} (h : m1 sl = .ok (.bl b) s) (k : cIf b (m2 s) (.ok (.bl false) s) = u) : mAndV m1 m2 sl = u := by
  rw [ap_mAndV, h, bind_ok]
  cases b <;> exact k
theorem r_orV {u : R D} (h : m1 sl = .ok (.bl b) s) (k : cIf b (.ok (.bl true) s) (m2 s) = u) : mOrV m1 m2 sl = u := by
  rw [ap_mOrV, h, bind_ok]
  cases b <;> exact k
theorem r_notV (h : m sl = .ok (.bl b) s) : mNotV m sl = .ok (.bl (!b)) s := by rw [ap_mNotV, h, bind_ok]
theorem r_ifE {u : R D} (h : t sl = .ok b s) (k : cIf b (m1 s) (m2 s) = u) : mIfE t m1 m2 sl = u := by rw [ap_mIfE, h, bind_ok]; exact k
theorem r_nil : mNil sl = .ok [] sl := rfl
theorem r_cons (h1 : m sl = .ok d s1) (h2 : n s1 = .ok ds s2) : mCons m n sl = .ok (d :: ds) s2 := by rw [ap_mCons, h1, bind_ok, h2, bind_ok]
theorem r_tup (h : n sl = .ok ds s) (hl : ds.length ≤ LB) : mTup n sl = .ok (.tup ds) s := by rw [ap_mTup, h, bind_ok, if_pos hl]
theorem r_lst (h : n sl = .ok ds s) (hl : ds.length ≤ LB) : mLst n sl = .ok (.lst ds) s := by rw [ap_mLst, h, bind_ok, if_pos hl]
theorem r_call {f : List D → Option D} (h : n sl = .ok ds s) (hf : f ds = some z) : mCall f n sl = .ok z s := by rw [ap_mCall, h, bind_ok, hf, ofO_some]
theorem r_meth {ok : D → Bool} {f : D → List D → Option D} (h : m sl = .ok x s1) (ho : ok x = true) (h2 : n s1 = .ok ds s2) (hf : f x ds = some z) : mMeth ok f m n sl = .ok z s2 := by
  rw [ap_mMeth, h, bind_ok, if_pos ho, h2, bind_ok, hf, ofO_some]
theorem r_noPart : mNoPart sl = .ok none sl := rfl
theorem r_part {i : Int} (h : m sl = .ok (.int i) s) : mPart m sl = .ok (some i) s := by rw [ap_mPart, h, bind_ok]
theorem r_sl {lo hi : Sl → R (Option Int)} {a c : Option Int} (h : m sl = .ok x s1) (h1 : lo s1 = .ok a s2) (h2 : hi s2 = .ok c s3) (hf : fSl x a c = some z) : mSl m lo hi sl = .ok z s3 := by
  rw [ap_mSl, h, bind_ok, h1, bind_ok, h2, bind_ok, hf, ofO_some]
theorem r_fz (h : m sl = .ok d s) (hd : isLD d = true) : mFz m sl = .ok d s := by rw [ap_mFz, h, bind_ok, if_pos hd]
theorem r_fzI {k : Nat} (h : m sl = .ok d s) (hd : isIns k d = true) : mFzI k m sl = .ok d s := by rw [ap_mFzI, h, bind_ok, if_pos hd]
theorem r_dnew : mDnew sl = .ok (.dic []) sl := rfl
theorem r_fld {k j : Nat} (h : m sl = .ok d s) (hf : dFld k j d = some z) : mFld k j m sl = .ok z s := by rw [ap_mFld, h, bind_ok, hf, ofO_some]
theorem r_fldO {i k j : Nat} (h : Gt sl i d) (hf : dFld k j d = some z) : mFldO i k j sl = .ok z sl := by
  unfold Gt at h
  rw [ap_mFldO, h]
  dsimp only
  rw [hf, ofO_some]
theorem r_bor {μ : Ms} {i : Nat} (h : Gt sl i x) (hm : Mk μ i 0 sl s1) (h2 : m s1 = .ok d s2) (hf : flatT d = true) : mBor μ i m sl = .ok d sl := by
  unfold Gt at h
  unfold Mk at hm
  rw [ap_mBor, h]
  dsimp only
  rw [hm, h2]
  dsimp only
  rw [if_pos hf]
theorem r_borT {μ : Ms} {i : Nat} (h : Gt sl i x) (hm : Mk μ i 0 sl s1) (h2 : t s1 = .ok b s2) : mBorT μ i t sl = .ok b sl := by
  unfold Gt at h
  unfold Mk at hm
  rw [ap_mBorT, h]
  dsimp only
  rw [hm, h2]
theorem r_move {i : Nat} (h : Gt sl i d) (hd : isLD d = true) (h2 : St2 sl i none s) : mMove i sl = .ok d s := by
  unfold Gt at h
  unfold St2 at h2
  rw [ap_mMove, h]
  dsimp only
  rw [if_pos hd, h2]
theorem r_callF {np : Nat} {f : Sl → R D} {l : Sl} (h : n sl = .ok ds s) (hl : ds.length = np) (hm : Ms2 ds l) (hf : f l = .ok d r) : mCallF np f n sl = .ok d s := by
  unfold Ms2 at hm
  rw [ap_mCallF, h, bind_ok, if_pos hl, hm, hf]
theorem r_methF {k np : Nat} {f : Sl → R D} {l : Sl} (h1 : m sl = .ok x s1) (hi : isIns k x = true) (h2 : n s1 = .ok ds s2) (hl : ds.length + 1 = np) (hm : Ms2 (x :: ds) l) (hf : f l = .ok d r) : mMethF k np f m n sl = .ok d s2 := by
  unfold Ms2 at hm
  rw [ap_mMethF, h1, bind_ok, if_pos hi, h2, bind_ok, if_pos hl, hm, hf]
theorem r_methT {k np : Nat} {f : Sl → R D} {l : Sl} (h1 : m sl = .ok x s1) (hi : isIns k x = true) (h2 : n s1 = .ok ds s2) (hl : ds.length + 1 = np) (hm : Ms2 (x :: ds) l) (hf : f l = .ok d r) : mMethT k np f m n sl = .ok d s2 := by
  unfold Ms2 at hm
  rw [ap_mMethT, h1, bind_ok, if_pos hi, h2, bind_ok, if_pos hl, hm, hf]
theorem r_callI {i np : Nat} {f : Sl → R D} {l : Sl} {x0 d0 d1 : D} (h0 : Gt sl i x0) (h1 : n sl = .ok ds s) (h2 : Gt s i d0) (hl : ds.length + 1 = np) (hm : Ms2 (d0 :: ds) l) (hf : f l = .ok d (some d1 :: r)) (hs : St2 s i (some d1) s2) : mCallI i np f n sl = .ok d s2 := by
  unfold Gt at h0 h2
  unfold Ms2 at hm
  unfold St2 at hs
  rw [ap_mCallI, h0]
  dsimp only
  rw [h1, bind_ok, h2]
  dsimp only
  rw [if_pos hl, hm, hf]
  dsimp only [List.getElem?_cons_zero]
  rw [hs]
theorem r_methI {i kc np : Nat} {f : Sl → R D} {l : Sl} {x0 d0 d1 : D} (h0 : Gt sl i x0) (hi : isIns kc x0 = true) (h1 : n sl = .ok ds s) (h2 : Gt s i d0) (hl : ds.length + 1 = np) (hm : Ms2 (d0 :: ds) l) (hf : f l = .ok d (some d1 :: r)) (hs : St2 s i (some d1) s2) : mMethI i kc np f n sl = .ok d s2 := by
  have h := r_callI h0 h1 h2 hl hm hf hs
  unfold Gt at h0
  rw [ap_mMethI, h0]
  dsimp only
  rw [if_pos hi, h]
theorem r_make {kc np : Nat} {f : Sl → R D} {l : Sl} {d1 : D} (h1 : n sl = .ok ds s) (hl : ds.length + 1 = np) (hm : Ms2 (.ins kc [] :: ds) l) (hf : f l = .ok .non (some d1 :: r)) : mMake kc np f n sl = .ok d1 s := by
  unfold Ms2 at hm
  rw [ap_mMake, h1, bind_ok, if_pos hl, hm, hf]
  rfl
theorem r_isi {ty : Ty} (h : m sl = .ok x s) (hf : fIsi ty x = some z) : mIsi ty m sl = .ok z s := by rw [ap_mIsi, h, bind_ok, hf, ofO_some]
theorem r_revS {l : T} (h : m sl = .ok (.str l) s) : mRevS m sl = .ok (.str l.reverse) s := by rw [ap_mRevS, h, bind_ok]
theorem r_neg {i : Int} (h : m sl = .ok (.int i) s) : mNeg m sl = .ok (.int (-i)) s := by rw [ap_mNeg, h, bind_ok]
theorem r_get2 {mk mx : ME} {kv : List (KD × D)} {kk : KD} {k : D} (h : m sl = .ok (.dic kv) s1) (h1 : mk s1 = .ok k s2) (h2 : mx s2 = .ok z s3) (hk : kd k = some kk) : mGet2 m mk mx sl = .ok ((lookD kv kk).getD z) s3 := by
  rw [ap_mGet2, h, bind_ok]
  dsimp only
  rw [h1, bind_ok, h2, bind_ok, hk]
theorem r_chain {f f' : D → D → Option D} {ma mb md : ME} {u : R D} {b : Bool} (h1 : ma sl = .ok x s1) (h2 : mb s1 = .ok y s2) (h3 : f x y = some (.bl b)) (k : cIf b (mOp f' (mC y) md s2) (.ok (.bl false) s2) = u) : mChain f f' ma mb md sl = u := by
  rw [ap_mChain, h1, bind_ok, h2, bind_ok, h3]
  cases b
  · exact k
  · rw [← k]
    rfl
theorem r_items (h : m sl = .ok d s) (hi : itemsOf d = some ds) : mItems m sl = .ok ds s := by rw [ap_mItems, h, bind_ok, hi, ofO_some]
theorem r_rng1 {j : Int} (h : n sl = .ok [.int j] s) (hj : -(2 ^ 62) ≤ j ∧ j ≤ 1000000) : mRng1 n sl = .ok (rangeD 0 j.toNat) s := by
  rw [ap_mRng1, h, bind_ok]
  exact if_pos hj
theorem r_rng2 {i j : Int} (h : n sl = .ok [.int i, .int j] s) (hj : 0 ≤ i ∧ i ≤ 1000000 ∧ -(2 ^ 62) ≤ j ∧ j ≤ 1000000) : mRng2 n sl = .ok (rangeD i (j - i).toNat) s := by
  rw [ap_mRng2, h, bind_ok]
  exact if_pos hj
theorem r_rev {xs : List D} (h : n sl = .ok [.lst xs] s) : mRev n sl = .ok xs.reverse s := by rw [ap_mRev, h, bind_ok]
theorem r_lc {mi : MA} {vs : List Nat} {mg : MG} {mt : MT} {me : ME} {ys : List D} (h : mi sl = .ok ds s) (h2 : lcGo vs mg mt me ds s [] = .ok ys s2) : mLc mi vs mg mt me sl = .ok (.lst ys) s2 := by
  rw [ap_mLc, h, bind_ok, h2, bind_ok]
theorem r_lcK {i : Nat} {vs : List Nat} {mg : MG} {mt : MT} {me : ME} {kv : List (KD × D)} {ys : List D} (h : Gt sl i (.dic kv)) (hk : (kv.all fun p => keyOk p.1) = true) (h2 : lcGo vs mg mt me (kv.map fun p => keyD p.1) sl [] = .ok ys s2) : mLcK i vs mg mt me sl = .ok (.lst ys) s2 := by
  unfold Gt at h
  rw [ap_mLcK, h]
  dsimp only
  rw [if_pos hk, h2]
end
/-! ### targets, statements -/
section
variable {sl s s1 s2 s3 r : Sl} {d x y z : D} {ds : List D} {m m1 : ME} {n : MA} {t : MT} {b : Bool} {u v : R Fl} {ms ms2 : MS}
theorem g_name {i : Nat} (h : St2 sl i (some d) s) : gmName i d sl = some s := by unfold St2 at h; rw [ap_gmName, h]
theorem g_nil : gmNil [] sl = some sl := rfl
theorem g_cons {g : MG} {gs : MGs} (h : g d sl = some s) (h2 : gs ds s = some s2) : gmCons g gs (d :: ds) sl = some s2 := by
  rw [ap_gmCons]
  dsimp only
  rw [h]
  exact h2
theorem g_tup {k : Nat} {gs : MGs} (hl : ds.length = k) (h : gs ds sl = some s) : gmTup k gs (.tup ds) sl = some s := by
  rw [ap_gmTup]
  dsimp only
  rw [if_pos hl, h]
/-- what stands behind a statement -/
def cSeq (x : R Fl) (m : MS) : R Fl := match x with
  | .ok .nx s => m s
  | r => r
theorem r_seq (h : ms sl = u) (k : cSeq u ms2 = v) : mSeq ms ms2 sl = v := by
  rw [ap_mSeq, h]
  exact k
theorem q_nx (h : ms s = v) : cSeq (.ok .nx s) ms = v := h
theorem q_rt : cSeq (.ok (.rt d) s) ms = .ok (.rt d) s := rfl
theorem q_exc {k : Nat} {fs : List D} : cSeq (.exc k fs s) ms = .exc k fs s := rfl
theorem r_skip : mSkip sl = .ok .nx sl := rfl
theorem r_drop (h : m sl = .ok d s) : mDrop m sl = .ok .nx s := by rw [ap_mDrop, h, bind_ok]
theorem r_if (h : t sl = .ok b s) (k : cIf b (ms s) (ms2 s) = v) : mIf t ms ms2 sl = v := by rw [ap_mIf, h, bind_ok]; exact k
theorem r_ret (h : m sl = .ok d s) : mRet m sl = .ok (.rt d) s := by rw [ap_mRet, h, bind_ok]
theorem r_asg {g : MG} (h : m sl = .ok d s) (hg : g d s = some s2) : mAsg m g sl = .ok .nx s2 := by rw [ap_mAsg, h, bind_ok, hg]
theorem r_setO {i : Nat} (h : m sl = .ok d s) (hi : i < s.length) (hs : St2 s i (some d) s2) : mSetO m i sl = .ok .nx s2 := by
  unfold St2 at hs
  rw [ap_mSetO, h, bind_ok, if_pos hi, hs]
theorem r_for {mi : MA} {mg : MG} (h : mi sl = .ok ds s) (h2 : forGo mg ms ds s = v) : mFor mi mg ms sl = v := by rw [ap_mFor, h, bind_ok, h2]
theorem r_retMove {i : Nat} (h : Gt sl i d) (hs : St2 sl i none s) : mRetMove i sl = .ok (.rt d) s := by
  unfold Gt at h
  unfold St2 at hs
  rw [ap_mRetMove, h]
  dsimp only
  rw [hs]
/-- an owned place read, stored -/
def Rd2 (get : Sl → Option D) (sl : Sl) (d : D) : Prop := get sl = some d
def Wr (set : Sl → D → Sl) (sl : Sl) (d : D) (s : Sl) : Prop := set sl d = s
theorem rd_v {i : Nat} (h : Gt sl i d) (hd : isLD d = true) : Rd2 (getV i) sl d := by
  unfold Gt at h
  unfold Rd2
  rw [ap_getV, h]
  exact if_pos hd
theorem wr_v {i : Nat} (h : St2 sl i (some d) s) : Wr (setV i) sl d s := h
theorem rd_f {i k j : Nat} (h : Gt sl i (.ins k ds)) (hj : ds[j]? = some d) (hd : isLD d = true) : Rd2 (getF i k j) sl d := by
  unfold Gt at h
  unfold Rd2
  rw [ap_getF, h]
  dsimp only
  rw [if_pos rfl, hj]
  exact if_pos hd
def Sd (l : List D) (n : Nat) (x : D) (l' : List D) : Prop := l.set n x = l'
theorem sd_z {y x : D} {r : List D} : Sd (y :: r) 0 x (x :: r) := rfl
theorem sd_s {y x : D} {r r' : List D} {n : Nat} (h : Sd r n x r') : Sd (y :: r) (n + 1) x (y :: r') := congrArg (y :: ·) h
theorem wr_f {i k j : Nat} {es : List D} (h : Gt sl i (.ins k ds)) (hd : Sd ds j d es) (hs : St2 sl i (some (.ins k es)) s) : Wr (setF i j) sl d s := by
  unfold Gt at h
  unfold Wr
  unfold Sd at hd
  rw [ap_setF, h]
  dsimp only
  rw [hd]
  exact hs
theorem r_app {get : Sl → Option D} {set : Sl → D → Sl} {ds0 : List D} (h0 : Rd2 get sl (.lst ds0)) (h1 : m sl = .ok d s) (h2 : Rd2 get s (.lst ds)) (hl : ds.length < LB) (hw : Wr set s (.lst (ds ++ [d])) s2) : mApp get set m sl = .ok .nx s2 := by
  unfold Rd2 at h0 h2
  unfold Wr at hw
  rw [ap_mApp, h0]
  dsimp only
  rw [h1, bind_ok, h2]
  dsimp only
  rw [if_pos hl, hw]
theorem r_clear {get : Sl → Option D} {set : Sl → D → Sl} (h0 : Rd2 get sl (.lst ds)) (hw : Wr set sl (.lst []) s) : mClear get set sl = .ok .nx s := by
  unfold Rd2 at h0
  unfold Wr at hw
  rw [ap_mClear, h0]
  dsimp only
  rw [hw]
theorem r_put {get : Sl → Option D} {set : Sl → D → Sl} {mv mk : ME} {k : D} {kk : KD} {kv0 kv kv2 : List (KD × D)} (h1 : mv sl = .ok d s) (h2 : Rd2 get s (.dic kv0)) (h3 : mk s = .ok k s1) (h4 : Rd2 get s1 (.dic kv)) (h5 : kd k = some kk) (h6 : kv.length < LB) (h7 : putD kv kk d = kv2) (hw : Wr set s1 (.dic kv2) s2) : mPut get set mv mk sl = .ok .nx s2 := by
  unfold Rd2 at h2 h4
  unfold Wr at hw
  rw [ap_mPut, h1, bind_ok, h2]
  dsimp only
  rw [h3, bind_ok, h4, h5]
  dsimp only
  rw [if_pos h6, h7, hw]
theorem r_popD {get : Sl → Option D} {set : Sl → D → Sl} {mk : ME} {k : D} {kk : KD} {kv0 kv kv2 : List (KD × D)} (h2 : Rd2 get sl (.dic kv0)) (h3 : mk sl = .ok k s) (h4 : Rd2 get s (.dic kv)) (h5 : kd k = some kk) (h6 : (lookD kv kk).isSome = true) (h7 : dropD kv kk = kv2) (hw : Wr set s (.dic kv2) s2) : mPopD get set mk sl = .ok .nx s2 := by
  unfold Rd2 at h2 h4
  unfold Wr at hw
  rw [ap_mPopD, h2]
  dsimp only
  rw [h3, bind_ok, h4, h5]
  dsimp only
  rw [if_pos h6, h7, hw]
theorem r_setL {get : Sl → Option D} {set : Sl → D → Sl} {mv mk : ME} {i : Int} {j : Nat} {ds0 : List D} (h1 : mv sl = .ok d s) (h2 : Rd2 get s (.lst ds0)) (h3 : mk s = .ok (.int i) s1) (h4 : Rd2 get s1 (.lst ds)) (h5 : ixN ds.length i = some j) (hw : Wr set s1 (.lst (ds.set j d)) s2) : mSetL get set mv mk sl = .ok .nx s2 := by
  unfold Rd2 at h2 h4
  unfold Wr at hw
  rw [ap_mSetL, h1, bind_ok, h2]
  dsimp only
  rw [h3, bind_ok, h4]
  dsimp only
  rw [h5]
  dsimp only
  rw [hw]
theorem r_setFld {i k j : Nat} (h : m sl = .ok d s) (hg : Gt s i (.ins k ds)) (hl : ds.length = j) (hs : St2 s i (some (.ins k (ds ++ [d]))) s2) : mSetFld i k j m sl = .ok .nx s2 := by
  unfold Gt at hg
  unfold St2 at hs
  rw [ap_mSetFld, h, bind_ok, hg]
  dsimp only
  rw [if_pos ⟨rfl, hl⟩, hs]
theorem r_setFldO {i k j : Nat} (h : m sl = .ok d s) (hg : Gt s i (.ins k ds)) (hl : ds.length = j) (hd : isLD d = true) (hs : St2 s i (some (.ins k (ds ++ [d]))) s2) : mSetFldO i k j m sl = .ok .nx s2 := by
  unfold Gt at hg
  unfold St2 at hs
  rw [ap_mSetFldO, h, bind_ok, hg]
  dsimp only
  rw [if_pos ⟨rfl, hl, hd⟩, hs]
theorem r_retFld {i k j : Nat} (hg : Rd2 (getF i k j) sl d) (hs : St2 sl i none s) : mRetFld i k j sl = .ok (.rt d) s := by
  unfold Rd2 at hg
  unfold St2 at hs
  unfold mRetFld
  rw [hg]
  dsimp only
  rw [hs]
theorem r_moveFld {i k j : Nat} (hg : Rd2 (getF i k j) sl d) (hs : St2 sl i none s) : mMoveFld i k j sl = .ok d s := by
  unfold Rd2 at hg
  unfold St2 at hs
  unfold mMoveFld
  rw [hg]
  dsimp only
  rw [hs]
/-! ### a def's body -/
theorem r_fn {pm : Ms} {ρ : Bool} {k : Nat} {ps : Sl} (h0 : Ap ps k sl) (h1 : ms sl = .ok (.rt d) s) (h2 : mskP pm s = some r) : fnB pm ρ k ms ps = .ok d r := by
  unfold Ap at h0
  rw [ap_fnB, h0, h1]
  dsimp only
  rw [h2]
theorem mp_nil {s : Sl} : mskP [] s = some [] := by unfold mskP; rfl
theorem mp_f {ms : Ms} {x : Option D} {s r : Sl} (h : mskP ms s = some r) : mskP (.frz :: ms) (x :: s) = some (none :: r) := by
  unfold mskP
  rw [h]
  rfl
theorem mp_p {ms : Ms} {x : D} {s r : Sl} (h : mskP ms s = some r) : mskP (.pin :: ms) (some x :: s) = some (some x :: r) := by
  unfold mskP
  rw [h]
  rfl
theorem r_fnE {pm : Ms} {ρ : Bool} {k : Nat} {ps r0 : Sl} {d0 : D} (h0 : Ap ps k sl) (h1 : ms sl = .ok (.rt d0) s) (h2 : mskP pm s = some r0) (h3 : d0 = d) (h4 : r0 = r) : fnB pm ρ k ms ps = .ok d r := by
  subst h3 h4
  exact r_fn h0 h1 h2
theorem r_fnEN {pm : Ms} {k : Nat} {ps r0 : Sl} (h0 : Ap ps k sl) (h1 : ms sl = .ok .nx s) (h2 : mskP pm s = some r0) (h4 : r0 = r) : fnB pm false k ms ps = .ok .non r := by
  subst h4
  unfold Ap at h0
  rw [ap_fnB, h0, h1]
  dsimp only
  rw [h2]
  rfl
theorem r_fnN {pm : Ms} {k : Nat} {ps : Sl} (h0 : Ap ps k sl) (h1 : ms sl = .ok .nx s) (h2 : mskP pm s = some r) : fnB pm false k ms ps = .ok .non r := by
  unfold Ap at h0
  rw [ap_fnB, h0, h1]
  dsimp only
  rw [h2]
  rfl
end
/-! ### operations -/
theorem o_addI {i j : Int} : fAdd (.int i) (.int j) = some (.int (i + j)) := rfl
theorem o_addS {a b : T} (h : a.length + b.length ≤ LB) : fAdd (.str a) (.str b) = some (.str (a ++ b)) := if_pos h
theorem o_addL {a b : List D} (h : a.length + b.length ≤ LB) : fAdd (.lst a) (.lst b) = some (.lst (a ++ b)) := if_pos h
theorem o_addT {a b : List D} (h : a.length + b.length ≤ LB) : fAdd (.tup a) (.tup b) = some (.tup (a ++ b)) := if_pos h
theorem o_sub {i j : Int} : fSub (.int i) (.int j) = some (.int (i - j)) := rfl
theorem o_mul {i j : Int} (h : CMul i j) : fMul (.int i) (.int j) = some (.int (i * j)) := if_pos h
theorem o_div {i j : Int} (h : CDiv i j) : fDiv (.int i) (.int j) = some (.int (i / j)) := if_pos h
theorem o_mod {i j : Int} (h : 0 < j) : fMod (.int i) (.int j) = some (.int (i % j)) := if_pos h
theorem o_lt {i j : Int} : fLt (.int i) (.int j) = some (.bl (decide (i < j))) := rfl
theorem o_le {i j : Int} : fLe (.int i) (.int j) = some (.bl (decide (i ≤ j))) := rfl
theorem o_gt {i j : Int} : fGt (.int i) (.int j) = some (.bl (decide (j < i))) := rfl
theorem o_ge {i j : Int} : fGe (.int i) (.int j) = some (.bl (decide (j ≤ i))) := rfl
theorem o_eqI {i j : Int} : fEq (.int i) (.int j) = some (.bl (decide (i = j))) := by simp [fEq, eqD]
theorem o_eqS {i j : T} : fEq (.str i) (.str j) = some (.bl (decide (i = j))) := by simp [fEq, eqD]
theorem o_eqB {i j : Bool} : fEq (.bl i) (.bl j) = some (.bl (decide (i = j))) := by simp [fEq, eqD]
theorem o_neI {i j : Int} : fNe (.int i) (.int j) = some (.bl (!decide (i = j))) := by simp [fNe, eqD]
theorem o_neS {i j : T} : fNe (.str i) (.str j) = some (.bl (!decide (i = j))) := by simp [fNe, eqD]
theorem o_neB {i j : Bool} : fNe (.bl i) (.bl j) = some (.bl (!decide (i = j))) := by simp [fNe, eqD]
theorem o_inS {k : Nat} {l : T} : fIn (.str [k]) (.str l) = some (.bl (decide (k ∈ l))) := by simp [fIn, isIn]
theorem o_ninS {k : Nat} {l : T} : fNotIn (.str [k]) (.str l) = some (.bl (!decide (k ∈ l))) := by simp [fNotIn, isIn]
theorem o_lenS {l : T} : fLen [.str l] = some (.int (l.length : Nat)) := rfl
theorem o_lenL {l : List D} : fLen [.lst l] = some (.int (l.length : Nat)) := rfl
theorem o_lenT {l : List D} : fLen [.tup l] = some (.int (l.length : Nat)) := rfl
theorem o_isNon {d : D} : fIs d .non = some (.bl (isN d)) := rfl
theorem o_isNot {d : D} : fIsNot d .non = some (.bl (!isN d)) := rfl
theorem o_listL {l : List D} : fList [.lst l] = some (.lst l) := rfl
theorem o_listT {l : List D} : fList [.tup l] = some (.lst l) := rfl
theorem o_tupL {l : List D} : fTuple [.lst l] = some (.tup l) := rfl
theorem o_tupT {l : List D} : fTuple [.tup l] = some (.tup l) := rfl
theorem o_ixT0 {d : D} {r : List D} : fIx (.tup (d :: r)) (.int 0) = some d := by
  show atI _ _ = _
  exact atI_nat _ 0
theorem o_ixT1 {d e : D} {r : List D} : fIx (.tup (e :: d :: r)) (.int 1) = some d := by
  show atI _ _ = _
  exact atI_nat _ 1
theorem o_ixT2 {d e f : D} {r : List D} : fIx (.tup (e :: f :: d :: r)) (.int 2) = some d := by
  show atI _ _ = _
  exact atI_nat _ 2
theorem o_ixT3 {d e f g : D} {r : List D} : fIx (.tup (e :: f :: g :: d :: r)) (.int 3) = some d := by
  show atI _ _ = _
  exact atI_nat _ 3
theorem o_ixL0 {d : D} {r : List D} : fIx (.lst (d :: r)) (.int 0) = some d := by
  show atI _ _ = _
  exact atI_nat _ 0
theorem o_ixL1 {d e : D} {r : List D} : fIx (.lst (e :: d :: r)) (.int 1) = some d := by
  show atI _ _ = _
  exact atI_nat _ 1
theorem o_slL {ds : List D} {lo hi : Option Int} : fSl (.lst ds) lo hi = some (.lst (cutD ds lo hi)) := rfl
theorem o_slT {ds : List D} {lo hi : Option Int} : fSl (.tup ds) lo hi = some (.tup (cutD ds lo hi)) := rfl
theorem o_slS {ds : T} {lo hi : Option Int} : fSl (.str ds) lo hi = some (.str (cutD ds lo hi)) := rfl
theorem o_fld {k : Nat} {ds : List D} {j : Nat} {d : D} (h : ds[j]? = some d) : dFld k j (.ins k ds) = some d := (if_pos rfl).trans h
theorem o_len0 : ([] : List D).length = 0 := rfl
/-! ### loops by a function of the state -/
section
variable {X β : Type} {mg : MG} {mb : MS}
theorem forGo_S (e : X → D) (S : β → Sl) (step : β → X → β) (P : β → Prop) : ∀ (xs : List X) (b : β), P b → (∀ b x, x ∈ xs → P b → P (step b x) ∧ ∃ s1, mg (e x) (S b) = some s1 ∧ mb s1 = .ok .nx (S (step b x))) →
    forGo mg mb (xs.map e) (S b) = .ok .nx (S (xs.foldl step b)) ∧ P (xs.foldl step b)
  | [], b, hp, _ => ⟨rfl, hp⟩
  | x :: r, b, hp, h => by
    obtain ⟨hp2, s1, e1, e2⟩ := h b x List.mem_cons_self hp
    rw [List.map_cons, List.foldl_cons]
    unfold forGo
    rw [e1]
    dsimp only
    rw [e2]
    exact forGo_S e S step P r (step b x) hp2 fun b y hy => h b y (List.mem_cons_of_mem _ hy)
/-- a loop that returns at the first that p finds; o: what the loop's name stands for -/
theorem forGo_find (e : X → D) (p : X → Bool) (S : Option D → Sl) (V : X → D) (S2 : X → Sl) : ∀ (xs : List X) (o : Option D), (∀ o x, x ∈ xs → ∃ s1, mg (e x) (S o) = some s1 ∧ mb s1 = if p x = true then .ok (.rt (V x)) (S2 x) else .ok .nx (S (some (e x)))) →
    ∃ o', forGo mg mb (xs.map e) (S o) = match xs.find? p with
      | some x => .ok (.rt (V x)) (S2 x)
      | none => .ok .nx (S o')
  | [], o, _ => ⟨o, rfl⟩
  | x :: r, o, h => by
    obtain ⟨s1, e1, e2⟩ := h o x List.mem_cons_self
    rw [List.map_cons]
    cases hp : p x with
    | true =>
      rw [hp, if_pos rfl] at e2
      refine ⟨o, ?_⟩
      unfold forGo
      rw [e1]
      dsimp only
      rw [e2, List.find?_cons_of_pos hp]
    | false =>
      rw [hp, if_neg (by decide)] at e2
      obtain ⟨o', e3⟩ := forGo_find e p S V S2 r (some (e x)) fun o y hy => h o y (List.mem_cons_of_mem _ hy)
      refine ⟨o', ?_⟩
      rw [List.find?_cons_of_neg (by rw [hp]; decide), ← e3]
      conv => lhs; unfold forGo
      rw [e1]
      dsimp only
      rw [e2]
end
/-! ### comprehensions -/
section
variable {X : Type} {vs : List Nat} {mg : MG} {mt : MT} {me : ME} {s s0 : Sl} {ds : List D}
def Wp (s : Sl) (vs : List Nat) (s0 : Sl) : Prop := wipeS s vs = s0
theorem wp_one {i : Nat} {l : Sl} (h : St2 l i none s0) : Wp l [i] s0 := h
theorem wp_two {i j : Nat} {l l2 : Sl} (h : St2 l j none l2) (h2 : St2 l2 i none s0) : Wp l [i, j] s0 := by
  unfold St2 at h h2
  unfold Wp wipeS wipeS wipeS
  rw [h, h2]
def Rs (vs : List Nat) (s s2 : Sl) : Prop := rest vs s s2 = s
theorem rs_of (h : rest vs s s0 = s) : Rs vs s s0 := h
/-- the element of a comprehension -/
def LcM (me : ME) (vs : List Nat) (s s2 : Sl) (y : D) : Prop := ∃ s3, me s2 = .ok y s3 ∧ Rs vs s s3
theorem lc_m {s2 s3 : Sl} {y y' : D} (h : me s2 = .ok y' s3) (hy : y' = y) (hr : Rs vs s s3) : LcM me vs s s2 y := by
  subst hy
  exact ⟨s3, h, hr⟩
def LcO (mg : MG) (me : ME) (vs : List Nat) (s s0 : Sl) (d y : D) : Prop := ∃ s1, mg d s0 = some s1 ∧ LcM me vs s s1 y
theorem lc_o {s1 : Sl} {d y : D} (h : mg d s0 = some s1) (h2 : LcM me vs s s1 y) : LcO mg me vs s s0 d y := ⟨s1, h, h2⟩
def LcE (mg : MG) (mt : MT) (me : ME) (vs : List Nat) (s s0 : Sl) (d y : D) (b : Bool) : Prop := ∃ s1 s2, mg d s0 = some s1 ∧ mt s1 = .ok b s2 ∧ Rs vs s s2 ∧ (b = true → LcM me vs s s2 y)
theorem lc_e {s1 s2 : Sl} {d y : D} {b b' : Bool} (h : mg d s0 = some s1) (h2 : mt s1 = .ok b' s2) (hb : b' = b) (hr : Rs vs s s2) (h3 : b = true → LcM me vs s s2 y) : LcE mg mt me vs s s0 d y b := by
  subst hb
  exact ⟨s1, s2, h, h2, hr, h3⟩
theorem lcGo_M (e f : X → D) (hw : Wp s vs s0) : ∀ (xs : List X) (acc : List D), (∀ x, x ∈ xs → LcO mg me vs s s0 (e x) (f x)) → lcGo vs mg mYes me (xs.map e) s acc = .ok (acc ++ xs.map f) s
  | [], acc, _ => by simp [lcGo]
  | x :: r, acc, h => by
    obtain ⟨s1, e1, s3, e2, e3⟩ := h x List.mem_cons_self
    unfold Rs at e3
    unfold Wp at hw
    rw [List.map_cons]
    unfold lcGo
    rw [hw, e1]
    dsimp only [mYes]
    rw [e2]
    dsimp only
    rw [e3, lcGo_M e f hw r _ fun y hy => h y (List.mem_cons_of_mem _ hy), List.map_cons, List.append_assoc]
    rfl
theorem r_lcM (e f : X → D) (xs : List X) (hds : ds = xs.map e) (hw : Wp s vs s0) (h : ∀ x, x ∈ xs → LcO mg me vs s s0 (e x) (f x)) : lcGo vs mg mYes me ds s [] = .ok (xs.map f) s := by
  rw [hds, lcGo_M e f hw xs [] h, List.nil_append]
theorem lcGo_F (e f : X → D) (p : X → Bool) (hw : Wp s vs s0) : ∀ (xs : List X) (acc : List D), (∀ x, x ∈ xs → LcE mg mt me vs s s0 (e x) (f x) (p x)) → lcGo vs mg mt me (xs.map e) s acc = .ok (acc ++ (xs.filter p).map f) s
  | [], acc, _ => by simp [lcGo]
  | x :: r, acc, h => by
    obtain ⟨s1, s2, e1, e2, e3, e4⟩ := h x List.mem_cons_self
    unfold Rs at e3
    have ih := fun acc => lcGo_F e f p hw r acc fun y hy => h y (List.mem_cons_of_mem _ hy)
    unfold Wp at hw
    rw [List.map_cons]
    unfold lcGo
    rw [hw, e1]
    dsimp only
    rw [e2]
    cases hp : p x with
    | true =>
      obtain ⟨s3, e5, e6⟩ := e4 hp
      unfold Rs at e6
      dsimp only
      rw [e5]
      dsimp only
      rw [e6, ih, List.filter_cons_of_pos hp]
      simp
    | false =>
      dsimp only
      rw [e3, ih, List.filter_cons_of_neg (by rw [hp]; decide)]
theorem r_lcF (e f : X → D) (p : X → Bool) (xs : List X) (hds : ds = xs.map e) (hw : Wp s vs s0) (h : ∀ x, x ∈ xs → LcE mg mt me vs s s0 (e x) (f x) (p x)) : lcGo vs mg mt me ds s [] = .ok ((xs.filter p).map f) s := by
  rw [hds, lcGo_F e f p hw xs [] h, List.nil_append]
/-- a turn of a loop -/
def FoE (mg : MG) (mb : MS) (d : D) (sl sl' : Sl) : Prop := ∃ s1, mg d sl = some s1 ∧ mb s1 = .ok .nx sl'
theorem fo_e {mb : MS} {d : D} {sl sl' s1 s2 : Sl} (h : mg d sl = some s1) (h2 : mb s1 = .ok .nx s2) (h3 : s2 = sl') : FoE mg mb d sl sl' := by
  subst h3
  exact ⟨s1, h, h2⟩
theorem r_forS {β : Type} {mb : MS} {sl : Sl} (e : X → D) (S : β → Sl) (step : β → X → β) (P : β → Prop) (xs : List X) (b : β) (hds : ds = xs.map e) (hs : sl = S b) (hp : P b) (h : ∀ b x, x ∈ xs → P b → P (step b x) ∧ FoE mg mb (e x) (S b) (S (step b x))) :
    forGo mg mb ds sl = .ok .nx (S (xs.foldl step b)) := by
  rw [hds, hs]
  exact (forGo_S e S step P xs b hp h).1
/-- a turn that may return -/
def FoR (mg : MG) (mb : MS) (d : D) (sl : Sl) (b : Bool) (v : D) (s2 s3 : Sl) : Prop := ∃ s1, mg d sl = some s1 ∧ mb s1 = if b = true then .ok (.rt v) s2 else .ok .nx s3
theorem fo_t {mb : MS} {d v v' : D} {sl s1 s2 s2' s3 : Sl} {b : Bool} (hb : b = true) (h : mg d sl = some s1) (h2 : mb s1 = .ok (.rt v') s2') (hv : v' = v) (hs : s2' = s2) : FoR mg mb d sl b v s2 s3 := by
  subst hb hv hs
  exact ⟨s1, h, h2⟩
theorem fo_f {mb : MS} {d v : D} {sl s1 s2 s3 s3' : Sl} {b : Bool} (hb : b = false) (h : mg d sl = some s1) (h2 : mb s1 = .ok .nx s3') (hs : s3' = s3) : FoR mg mb d sl b v s2 s3 := by
  subst hb hs
  exact ⟨s1, h, h2⟩
theorem r_forR {mb : MS} {sl : Sl} (e : X → D) (p : X → Bool) (S : Option D → Sl) (V : X → D) (S2 : X → Sl) (xs : List X) (o : Option D) (hds : ds = xs.map e) (hs : sl = S o) (h : ∀ o x, x ∈ xs → FoR mg mb (e x) (S o) (p x) (V x) (S2 x) (S (some (e x)))) :
    ∃ o', forGo mg mb ds sl = match xs.find? p with
      | some x => .ok (.rt (V x)) (S2 x)
      | none => .ok .nx (S o') := by
  rw [hds, hs]
  exact forGo_find e p S V S2 xs o h
/-- a loop whose state is told by what is done of its list, and by some slots of no account -/
theorem forGo_X {U : Type} {mb : MS} (e : X → D) (S : List X → U → Sl) : ∀ (todo done : List X) (u : U), (∀ d x t u, done ++ todo = d ++ x :: t → ∃ u', FoE mg mb (e x) (S d u) (S (d ++ [x]) u')) → ∃ u', forGo mg mb (todo.map e) (S done u) = .ok .nx (S (done ++ todo) u')
  | [], done, u, _ => ⟨u, by rw [List.append_nil]; rfl⟩
  | x :: r, done, u, h => by
    obtain ⟨u1, s1, e1, e2⟩ := h done x r u rfl
    obtain ⟨u2, e3⟩ := forGo_X e S r (done ++ [x]) u1 fun d y t v ht => h d y t v (by rw [← ht, List.append_assoc]; rfl)
    refine ⟨u2, ?_⟩
    rw [List.append_assoc] at e3
    rw [List.map_cons]
    unfold forGo
    rw [e1]
    dsimp only
    rw [e2]
    exact e3
theorem r_forX {U : Type} {mb : MS} {sl : Sl} (e : X → D) (S : List X → U → Sl) (xs : List X) (u : U) (hds : ds = xs.map e) (hs : sl = S [] u) (h : ∀ d x t u, xs = d ++ x :: t → ∃ u', FoE mg mb (e x) (S d u) (S (d ++ [x]) u')) :
    ∃ u', forGo mg mb ds sl = .ok .nx (S xs u') := by
  rw [hds, hs]
  exact forGo_X e S xs [] u h
/-- .. that returns where p finds -/
theorem forGo_XR {U : Type} {mb : MS} (e : X → D) (p : X → Bool) (V : X → D) (S2 : List X → X → U → Sl) (S : List X → U → Sl) : ∀ (todo done : List X) (u : U), (∀ d x t u, done ++ todo = d ++ x :: t → ∃ u', FoR mg mb (e x) (S d u) (p x) (V x) (S2 d x u') (S (d ++ [x]) u')) →
    (∃ d x t u', done ++ todo = d ++ x :: t ∧ p x = true ∧ todo.find? p = some x ∧ forGo mg mb (todo.map e) (S done u) = .ok (.rt (V x)) (S2 d x u')) ∨ (todo.find? p = none ∧ ∃ u', forGo mg mb (todo.map e) (S done u) = .ok .nx (S (done ++ todo) u'))
  | [], done, u, _ => .inr ⟨rfl, u, by rw [List.append_nil]; rfl⟩
  | x :: r, done, u, h => by
    obtain ⟨u1, s1, e1, e2⟩ := h done x r u rfl
    rw [List.map_cons]
    cases hp : p x with
    | true =>
      rw [hp, if_pos rfl] at e2
      refine .inl ⟨done, x, r, u1, rfl, hp, List.find?_cons_of_pos hp, ?_⟩
      unfold forGo
      rw [e1]
      dsimp only
      rw [e2]
    | false =>
      rw [hp, if_neg (by decide)] at e2
      have ef : forGo mg mb (e x :: r.map e) (S done u) = forGo mg mb (r.map e) (S (done ++ [x]) u1) := by
        conv => lhs; unfold forGo
        rw [e1]
        dsimp only
        rw [e2]
      rw [ef, List.find?_cons_of_neg (by rw [hp]; decide)]
      rcases forGo_XR e p V S2 S r (done ++ [x]) u1 fun d y t v ht => h d y t v (by rw [← ht, List.append_assoc]; rfl) with ⟨d, y, t, v, h1, h2, h3, h4⟩ | ⟨h1, v, h2⟩
      · exact .inl ⟨d, y, t, v, by rw [← h1, List.append_assoc]; rfl, h2, h3, h4⟩
      · exact .inr ⟨h1, v, by rw [h2, List.append_assoc]; rfl⟩
theorem r_forXR {U : Type} {mb : MS} {sl : Sl} (e : X → D) (p : X → Bool) (V : X → D) (S2 : List X → X → U → Sl) (S : List X → U → Sl) (xs : List X) (u : U) (hds : ds = xs.map e) (hs : sl = S [] u) (h : ∀ d x t u, xs = d ++ x :: t → ∃ u', FoR mg mb (e x) (S d u) (p x) (V x) (S2 d x u') (S (d ++ [x]) u')) :
    (∃ d x t u', xs = d ++ x :: t ∧ p x = true ∧ xs.find? p = some x ∧ forGo mg mb ds sl = .ok (.rt (V x)) (S2 d x u')) ∨ (xs.find? p = none ∧ ∃ u', forGo mg mb ds sl = .ok .nx (S xs u')) := by
  rw [hds, hs]
  exact forGo_XR e p V S2 S xs [] u h
theorem foldl_inv {α β : Type} (P : β → Prop) (step : β → α → β) : ∀ (xs : List α) (b : β), P b → (∀ b x, x ∈ xs → P b → P (step b x)) → P (xs.foldl step b)
  | [], _, h, _ => h
  | x :: r, b, h, st => foldl_inv P step r (step b x) (st b x List.mem_cons_self h) fun b y hy => st b y (List.mem_cons_of_mem _ hy)
end
theorem rangeD0 (n : Nat) : rangeD 0 n = (List.range n).map fun (k : Nat) => D.int (k : Int) := by
  unfold rangeD
  refine List.map_congr_left fun k _ => ?_
  rw [Int.zero_add]
end MM

set_option Elab.async false
set_option linter.all false
set_option maxRecDepth 100000
set_option maxHeartbeats 3200000
/-! The value layer, part u: len(set(a text)). -/
namespace MM
open PySem PySem.Spec PyProof.Rows L2
def stepT (a : List Str) (v : Str) : List Str := if (a.any (· == v)) = true then a else a ++ [v]
def metT (val : Nat → Str) : Nat → List Str
  | 0 => []
  | i + 1 => stepT (metT val i) (val i)
theorem metT_le (val : Nat → Str) : ∀ i, (metT val i).length ≤ i
  | 0 => Nat.le_refl _
  | i + 1 => by
    have h := metT_le val i
    unfold metT stepT
    split
    · omega
    · rw [List.length_append, List.length_singleton]; omega
theorem stepT_any (a : List Str) (v k : Str) : (stepT a v).any (· == k) = (a.any (· == k) || decide (k = v)) := by
  unfold stepT
  by_cases e : k = v
  · subst e
    by_cases h : a.any (· == k) = true
    · rw [if_pos h, h]; simp
    · rw [if_neg h, List.any_append]; simp
  · have hb : (v == k) = false := by
      rw [beq_eq_false_iff_ne]
      exact fun z => e z.symm
    split
    · simp [e]
    · rw [List.any_append]; simp [hb, e]
theorem stepT_len (a : List Str) (v : Str) : (stepT a v).length = if a.any (· == v) then a.length else a.length + 1 := by
  unfold stepT
  by_cases h : a.any (· == v) = true <;> simp [h]
theorem loopT {prog : Program} {w : World} {A : Around} {R : Result → Shared → Prop} {I : Addr} {fp wr : List Addr} {G : Array GenState → Array GenState → Prop} {n : Nat} {P : Nat → Value → Prop} {St : Nat → Shared → Prop}
    (W : WalksS prog w A.in1 I fp wr G n P St) (D : Addr) (hD : D ∉ fp) (val : Nat → Str) (hv : ∀ i v, P i v → ∃ t, v = .str (val i) t) (hn : n + 1 < scanBound) : ∀ (k i : Nat) (s : Shared), n - i = k → i ≤ n → St i s →
      s.heap.SetOf (PySem.strKind prog w) D (fun q => (metT val i).any (· == q)) (metT val i).length →
      (∀ u, Moved (D :: wr) G s u → u.heap.SetOf (PySem.strKind prog w) D (fun q => (metT val n).any (· == q)) (metT val n).length → R (.ok (.ret .none)) u) →
      codeAny (model prog w) A (.builtin "set.update.loop" ⟨[.ref D, .ref I], []⟩) R s := by
  have hDw : D ∉ wr := fun z => hD (W.sub _ z)
  have hcons : ∀ b, b ∈ wr → b ∈ D :: wr := fun b => List.mem_cons_of_mem _
  have keepD : ∀ {s u : Shared} {q : Str → Bool} {m : Nat}, Moved wr G s u → s.heap.SetOf (PySem.strKind prog w) D q m → u.heap.SetOf (PySem.strKind prog w) D q m := fun mv hS => by
    obtain ⟨o, es, ep, t, ho, more⟩ := hS
    exact ⟨o, es, ep, t, mv.heap D _ hDw ho, more⟩
  intro k
  induction k with
  | zero =>
    intro i s hk hi st hS hR
    obtain rfl : i = n := by omega
    refine codeAny_builtin PyProof.Rows.F.entry_set_update_loop ?_; rw [Around.under_plainId PyProof.Rows.F.plain_set_update_loop _]
    show wpAny _ A.in1 (pyNext (.ref I) >>= _) _ _ _; refine wpAny_bind (W.done s _ _ st fun u mv => ?_)
    show wpAny _ A.in1 (ret Value.none) _ _ u
    exact wpAny_pure (hR u (mv.mono hcons) (keepD mv hS))
  | succ k ih =>
    intro i s hk hi st hS hR
    have hin : i < n := by omega
    refine codeAny_builtin PyProof.Rows.F.entry_set_update_loop ?_; rw [Around.under_plainId PyProof.Rows.F.plain_set_update_loop _]
    show wpAny _ A.in1 (pyNext (.ref I) >>= _) _ _ _; refine wpAny_bind (W.item i s _ _ hin st fun v u pv st2 mv => ?_)
    obtain ⟨t, rfl⟩ := hv i v pv
    show wpAny _ A.in1 (holding [Value.str (val i) t] (setAdd D (.str (val i) t)) >>= _) _ _ u
    refine wpAny_bind (wpAny_holding ?_); unfold setAdd; refine wpAny_holding ?_
    refine wpAny_bind ((PySem.strKind prog w).pyHash (k := val i) (strKind_is _ _ _ _) ?_)
    have hS1 := keepD mv hS
    have room : (metT val i).length + 1 < scanBound := by have := metT_le val i; omega
    refine wpAny_setAddHashed_of (knd := PySem.strKind prog w) (s := { u with toks := u.toks + 1 }) (strKind_is _ _ _ _) rfl hS1 room fun h2 only S2 => ?_
    have S3 : h2.SetOf (PySem.strKind prog w) D (fun q => (metT val (i + 1)).any (· == q)) (metT val (i + 1)).length :=
      SetOf_congr S2 (fun q => (stepT_any (metT val i) (val i) q).symm) (stepT_len (metT val i) (val i)).symm
    refine wpAny_pure ⟨plainId_quiet PyProof.Rows.F.plain_set_update_loop _, ih (i + 1) _ (by omega) hin (W.frame _ u _ _ st2 (Nat.le_succ _) fun b hb o e => ?_) S3 fun u2 mv2 S4 => ?_⟩
    · rw [only.2 b fun z : b = D => hD (by rw [← z]; exact hb)]
      exact e
    · refine hR u2 (Moved.trans W.gtrans ((mv.mono hcons).then_heap (Nat.le_succ _) fun b o hb e => ?_) mv2) S4
      rw [only.2 b fun z : b = D => hb (by rw [z]; exact List.mem_cons_self)]
      exact e
/-- what set(x) leaves -/
def SetT (prog : Program) (w : World) (s : Shared) (x : Str) (h' : Heap) : Prop :=
  h'.SetOf (PySem.strKind prog w) s.heap.objs.size (fun q => (metT (fun i => ⟨#[x.cps.getD i 0]⟩) x.cps.size).any (· == q)) (metT (fun i => ⟨#[x.cps.getD i 0]⟩) x.cps.size).length ∧ ∀ b o, s.heap.get? b = some o → h'.get? b = some o
theorem typeCall_setT (x : Str) (t : Tok) : checkTypeCall "set" ⟨[.str x t], []⟩ = pure () := by kernel_rfl
theorem call_setT {prog : Program} {w : World} {A : Around} {E : Value → Shared → Prop} {s : Shared} {x : Str} {t : Tok} {Q : Value → Shared → Prop} (hh : A.handled = none) (hx : x.cps.size + 1 < scanBound)
    (h : ∀ (h' : Heap) (tk : Nat), SetT prog w s x h' → Q (.ref s.heap.objs.size) { s with heap := h', toks := tk }) :
    wpAny (model prog w) A (call (.type "set") [.str x t]) Q E s := by
  obtain ⟨c, tl, hmro⟩ := F.called_set.mro
  have hmade := F.called_set.made; have hsub := F.called_set.sub
  refine wpAny_call (codeAny_of_tree ?_); show wpAny _ _ (callAny (.type "set") _) _ _ _
  refine wpAny_pure ⟨Code.quiet_builtin _ (by decide +kernel), codeAny_builtin F.entry_type_call ?_⟩; rw [Around.under_plain (weight_type_call_type "set" [.str x t] []) rfl]
  have h1 := F.called_set.notType; have h2 := F.called_set.canCreate; have hct := typeCall_setT x t
  repeat (any_goals (first | assumption | wp_step))
  refine codeAny_mono (code_set_new_1 (.str x t) (E := E) (Q₁ := fun v u => ∃ led : Bool, v = .ref s.heap.objs.size ∧ u = { s with heap := s.heap.push { cls := .type "set", dict := none, data := .set #[] 0 (.fresh 0 0 led) } }) fun led => ⟨led, rfl, rfl⟩) fun r u hr => ?_
  match r, hr with
  | .error e, hr => exact hr
  | .ok (.ret v), hr =>
    obtain ⟨led, rfl, rfl⟩ := hr
    have gS : (s.heap.push { cls := .type "set", dict := none, data := .set #[] 0 (.fresh 0 0 led) }).get? s.heap.objs.size = some { cls := .type "set", dict := none, data := .set #[] 0 (.fresh 0 0 led) } := Heap.get?_push_size _ rfl
    have tS : Shared.TypeIs { s with heap := s.heap.push { cls := .type "set", dict := none, data := .set #[] 0 (.fresh 0 0 led) } } (.ref s.heap.objs.size) "set" := ⟨_, gS, rfl⟩
    have hli := F.called_set.init.lookup; have hbi := F.called_set.init.bind (.ref s.heap.objs.size)
    repeat (any_goals (first | assumption | wp_step))
    refine codeAny_mono (codeAny_call_builtin (R := wants (fun r u => r = .none ∧ ∃ h' tk, u = { s with heap := h', toks := tk } ∧ SetT prog w s x h') E) F.called_set.init.plain F.entry_set_init (check_set_init_1 tS ?_)) fun r2 u2 hr2 => ?_
    · have hs1 := PySem.F.sub_str_set; have hs2 := PySem.F.sub_str_frozenset
      have hty := typeIs_str
      unfold Builtin.«set.__init__» noKeywords Builtin.Frozenset.updateFrom
      generalize hPI : pyIter = PI
      wp_walk
      subst hPI
      refine wpAny_pyIter_str fun o St hW hst => ?_
      refine wpAny_bind (wpAny_runValue ?_)
      have hDI : s.heap.objs.size ∉ [(s.heap.push { cls := Value.type "set", data := Data.set #[] 0 (SetTable.fresh 0 0 led) }).objs.size] := by
        rw [Heap.size_push, List.mem_singleton]
        exact Nat.ne_of_lt (Nat.lt_succ_self _)
      have hval : ∀ (i : Nat) (v : Value), SignAt x i v → ∃ u, v = .str ((fun i => (⟨#[x.cps.getD i 0]⟩ : Str)) i) u := fun i v ⟨c, u, e1, e2⟩ => ⟨u, by
        rw [e2]
        have : x.cps.getD i 0 = c := by rw [Array.getD_eq_getD_getElem?, e1]; rfl
        simp only [this]⟩
      refine loopT (hW _ (by simp [hh])).toS s.heap.objs.size hDI _ hval hx (x.cps.size - 0) 0 _ (by omega) (Nat.zero_le _) hst ?_ ?_
      · exact SetOf_congr ((PyProof.Rows.setObjOf_fresh (knd := PySem.strKind prog w) led).setOf (Heap.get?_push_of_some _ gS) (by unfold scanBound; omega)) (fun _ => rfl) rfl
      · intro u mv hS
        obtain ⟨h', g', d', tk', os'⟩ := u
        obtain rfl : g' = s.gens := mv.gens
        obtain rfl : d' = s.drawn := mv.drawn
        obtain rfl : os' = s.os := mv.os
        refine wpAny_pure (show wpAny _ _ (ret Value.none) _ _ _ from wpAny_pure ⟨rfl, h', tk', rfl, hS, fun b o e => ?_⟩)
        have hb := Heap.lt_size e
        refine mv.heap b o ?_ (Heap.get?_push_of_some _ (Heap.get?_push_of_some _ e))
        rw [Heap.size_push, List.mem_cons, List.mem_singleton]
        exact fun z => z.elim (Nat.ne_of_lt hb) (Nat.ne_of_lt (Nat.lt_succ_of_lt hb))
    · match r2, hr2 with
      | .error e, hr2 => exact hr2
      | .ok (.ret v), hr2 =>
        obtain ⟨rfl, h', tk, rfl, hS⟩ := hr2
        repeat (any_goals (first | assumption | wp_step))
        exact h _ _ hS
def dedT (l : List Nat) : List Nat := l.foldl (fun a v => if a.any (· == v) then a else a ++ [v]) []
theorem metT_ded (l : List Nat) : ∀ n, n ≤ l.length → (metT (fun i => (⟨#[(l.toArray).getD i 0]⟩ : Str)) n) = (dedT (l.take n)).map fun c => (⟨#[c]⟩ : Str)
  | 0, _ => rfl
  | n + 1, h => by
    have ih := metT_ded l n (by omega)
    have hn : n < l.length := by omega
    have e1 : l.take (n + 1) = l.take n ++ [l[n]] := by rw [List.take_succ, List.getElem?_eq_getElem hn]; rfl
    have e2 : l.toArray.getD n 0 = l[n] := by rw [Array.getD_eq_getD_getElem?]; simp [hn]
    unfold metT
    rw [ih, e1, e2]
    unfold dedT
    rw [List.foldl_append]
    unfold stepT
    have e3 : ∀ a : List Nat, (a.map fun c => (⟨#[c]⟩ : Str)).any (· == (⟨#[l[n]]⟩ : Str)) = a.any (· == l[n]) := fun a => by
      rw [List.any_map]
      congr 1
      funext c
      show ((⟨#[c]⟩ : Str) == (⟨#[l[n]]⟩ : Str)) = (c == l[n])
      rw [Bool.eq_iff_iff, beq_iff_eq, beq_iff_eq]
      simp
    rw [e3]
    show (if _ then _ else _) = List.map _ (if _ then _ else _)
    split <;> simp
def tLenSetT (ta : TE) : TE := fun σ H Q => ta σ H fun x H1 => ∃ l : T, x = .str (tS l) ∧ l.length ≤ 1000 ∧ Q (.int ((dedT l).length : Nat)) H1
section
variable {X : Cx} {c : CI} {μ : Ms} {W : WX} {a : Expr} {ta : TE} {ma : ME}
theorem dedT_le (l : List Nat) : (dedT l).length ≤ l.length := by
  have key : ∀ (l a : List Nat), (l.foldl (fun a v => if a.any (· == v) then a else a ++ [v]) a).length ≤ a.length + l.length := by
    intro l
    induction l with
    | nil => intro a; simp
    | cons v r ih =>
      intro a
      rw [List.foldl_cons, List.length_cons]
      refine Nat.le_trans (ih _) ?_
      split
      · omega
      · rw [List.length_append, List.length_singleton]; omega
  have := key l []
  simpa [dedT] using this
theorem pe_lenSetT {p p2 q pos : Pos} (hg : Gl X "len") (hm : X.mg "len" = none) (hg2 : Gl X "set") (hm2 : X.mg "set" = none) (ha : PE X a ta) (hc : X.calm = true)
    (na : starEach [a] X.env = (false, eval a X.env) :: starEach [] X.env := by rfl) (nb : starEach [.Call (.Name "set" p2) [a] [] q] X.env = (false, eval (.Call (.Name "set" p2) [a] [] q) X.env) :: starEach [] X.env := by rfl) : PE X (.Call (.Name "len" p) [.Call (.Name "set" p2) [a] [] q] [] pos) (tLenSetT ta) := by
  refine ⟨fun pins s σ H Q I h => ?_⟩
  refine Call_ (ld_blt I hg hm boot_len ?_)
  refine PyProof.Rows.callWith_builtin1 (PyProof.Rows.args_cons ?_ nb) nb rfl
  refine Call_ (ld_blt I hg2 hm2 boot_set ?_)
  refine PyProof.Rows.callWith_type1 (PyProof.Rows.args_cons (thn (ha.run pins s σ H _ I h) fun v s1 ⟨x, H1, I1, r1, q1⟩ => PyProof.Rows.args_nil ?_) na) na rfl
  obtain ⟨l, rfl, hl, q1⟩ := q1
  obtain ⟨t, rfl⟩ := r1
  have hsz : (tS l).cps.size = l.length := tS_len l
  refine call_setT (I1.ok.hd hc) (by rw [hsz]; unfold scanBound; omega) fun h' tk hS => ?_
  refine PyProof.Rows.args_nil ?_
  obtain ⟨hS, hk⟩ := hS
  have e := metT_ded l l.length (Nat.le_refl _)
  rw [List.take_length] at e
  have e2 : (metT (fun i => (⟨#[(tS l).cps.getD i 0]⟩ : Str)) (tS l).cps.size).length = (dedT l).length := by
    rw [hsz]
    show (metT (fun i => (⟨#[(l.toArray).getD i 0]⟩ : Str)) l.length).length = _
    rw [e, List.length_map]
  rw [e2] at hS
  obtain ⟨o, es, ep, t, ho, hex, hd, _, _, _, hf, hn⟩ := hS
  have I2 : Inv X pins σ H1 { s1 with heap := h', toks := tk } := I1.kept hk
  have := dedT_le l
  exact call_len_set ho hex hd hf (by rw [hn]; omega) ⟨.int ((dedT l).length : Nat), H1, I2.tok _, ⟨_, by rw [hn]⟩, q1⟩
def mLenSetT (m : ME) : ME := fun sl => (m sl).bind fun x s => match x with
  | .str l => if l.length ≤ 1000 then .ok (.int ((dedT l).length : Nat)) s else .err
  | _ => .err
theorem xe_lenSetT {p p2 q pos : Pos} (hm : X.mg "len" = none) (hm2 : X.mg "set" = none) (ha : XE X c μ W a ta ma) (hc : X.calm = true) (hg : Gl X "len" := by rfl) (hg2 : Gl X "set" := by rfl)
    (na : starEach [a] X.env = (false, eval a X.env) :: starEach [] X.env := by rfl) (nb : starEach [.Call (.Name "set" p2) [a] [] q] X.env = (false, eval (.Call (.Name "set" p2) [a] [] q) X.env) :: starEach [] X.env := by rfl) :
    XE X c μ W (.Call (.Name "len" p) [.Call (.Name "set" p2) [a] [] q] [] pos) (tLenSetT ta) (mLenSetT ma) := by
  refine ⟨pe_lenSetT hg hm hg2 hm2 ha.pe hc na nb, ?_⟩
  refine Evm.bind (κ := fun x σ H1 (Q : VK) => ∃ l : T, x = .str (tS l) ∧ l.length ≤ 1000 ∧ Q (.int ((dedT l).length : Nat)) H1) ha.ev fun σ H F O sl x dx Q re rx g => ?_
  cases rx with
  | str l h =>
    have g : GX (rD c) c μ W F H O σ Q (if l.length ≤ 1000 then .ok (.int ((dedT l).length : Nat)) sl else .err) := g
    by_cases hl : l.length ≤ 1000
    · rw [if_pos hl] at g
      exact ⟨l, rfl, hl, g _ F H O (Stp.refl _ _ _) re (.int _)⟩
    · rw [if_neg hl] at g
      exact g.elim
  | _ => exact g.elim
end
theorem r_lenSetT {m : ME} {sl s : Sl} {l : T} (h : m sl = .ok (.str l) s) (hl : l.length ≤ 1000) : mLenSetT m sl = .ok (.int ((dedT l).length : Nat)) s := by
  unfold mLenSetT
  rw [h, bind_ok]
  exact if_pos hl
theorem ap_mLenSetT (m : ME) (sl : Sl) : mLenSetT m sl = ((m sl).bind fun x s => match x with
  | .str l => if l.length ≤ 1000 then .ok (.int ((dedT l).length : Nat)) s else .err
  | _ => .err) := rfl
end MM

set_option Elab.async false
set_option linter.all false
set_option maxRecDepth 100000
set_option maxHeartbeats 3200000
/-! The value layer, part v: == of plain data. -/
namespace MM
open PySem PySem.Spec PyProof.Rows L2
def flatE (d : D) : Prop := d = .non ∨ (∃ i, d = .int i) ∨ ∃ l, d = .str l ∧ ∀ c, c ∈ l → c < 128
/-- whole numbers, texts of plain signs, None, in lists and tuples -/
def plainE : Nat → D → Prop
  | 0, d => flatE d
  | n + 1, d => flatE d ∨ ∃ ds, (d = .lst ds ∨ d = .tup ds) ∧ ∀ x, x ∈ ds → plainE n x
theorem plainE_mono : ∀ (n m : Nat) (d : D), n ≤ m → plainE n d → plainE m d
  | 0, 0, d, _, h => h
  | 0, m + 1, d, _, h => .inl h
  | n + 1, m + 1, d, hm, h => by
    rcases h with h | ⟨ds, h1, h2⟩
    · exact .inl h
    · exact .inr ⟨ds, h1, fun x hx => plainE_mono n m x (by omega) (h2 x hx)⟩
theorem strOk_small {l : T} (h : ∀ c, c ∈ l → c < 128) : PyData.strOk (tS l) = true := by
  unfold PyData.strOk
  rw [← Array.all_toList]
  refine List.all_eq_true.mpr fun c hc => decide_eq_true ?_
  have := h c (by simpa [tS] using hc)
  omega
theorem toP_flat {d : D} (h : flatE d) : ∃ p, toP d = some p ∧ p.canLay0 = true ∧ p.depth = 0 := by
  rcases h with rfl | ⟨i, rfl⟩ | ⟨l, rfl, hl⟩
  · exact ⟨_, rfl, by simp [PyData.canLay0], by simp [PyData.depth]⟩
  · exact ⟨_, rfl, by simp [PyData.canLay0], by simp [PyData.depth]⟩
  · exact ⟨_, rfl, by simp [PyData.canLay0, strOk_small hl], by simp [PyData.depth]⟩
theorem toP_plain : ∀ (n : Nat) (d : D), plainE n d → ∃ p, toP d = some p ∧ p.canLay0 = true ∧ p.depth ≤ n
  | 0, d, h => by
    obtain ⟨p, h1, h2, h3⟩ := toP_flat h
    exact ⟨p, h1, h2, by omega⟩
  | n + 1, d, h => by
    rcases h with h | ⟨ds, h1, h2⟩
    · obtain ⟨p, h1, h2, h3⟩ := toP_flat h
      exact ⟨p, h1, h2, by omega⟩
    · have key : ∃ ps, toPs ds = some ps ∧ PyData.canLayAll0 ps = true ∧ PyData.depthAll ps ≤ n := by
        clear h1
        induction ds with
        | nil => exact ⟨[], rfl, by simp [PyData.canLayAll0], by simp [PyData.depthAll]⟩
        | cons x r ih =>
          obtain ⟨p, e1, e2, e3⟩ := toP_plain n x (h2 x List.mem_cons_self)
          obtain ⟨ps, f1, f2, f3⟩ := ih fun y hy => h2 y (List.mem_cons_of_mem _ hy)
          refine ⟨p :: ps, by simp [toPs, e1, f1], by simp [PyData.canLayAll0, e2, f2], ?_⟩
          simp only [PyData.depthAll]
          omega
      obtain ⟨ps, f1, f2, f3⟩ := key
      rcases h1 with rfl | rfl
      · exact ⟨.list ps, by simp [toP, f1], by simp [PyData.canLay0, f2], by simp only [PyData.depth]; omega⟩
      · exact ⟨.tuple ps, by simp [toP, f1], by simp [PyData.canLay0, f2], by simp only [PyData.depth]; omega⟩
theorem eqv_plain : ∀ (n : Nat) (d e : D) (p q : PyData), plainE n d → plainE n e → toP d = some p → toP e = some q → (PyData.eqv p q = true ↔ d = e) := by
  have flat : ∀ (d e : D) (p q : PyData), flatE d → flatE e → toP d = some p → toP e = some q → (PyData.eqv p q = true ↔ d = e) := by
    intro d e p q h1 h2 e1 e2
    rcases h1 with rfl | ⟨i, rfl⟩ | ⟨l, rfl, hl⟩ <;> rcases h2 with rfl | ⟨j, rfl⟩ | ⟨m, rfl, hm⟩ <;> cases e1 <;> cases e2 <;> simp [PyData.eqv]
    exact ⟨fun h => tS_inj h, fun h => by rw [h]⟩
  have mix : ∀ (d : D) (ds : List D) (p q : PyData), flatE d → toP d = some p → ((toPs ds).map PyData.list = some q ∨ (toPs ds).map PyData.tuple = some q) → PyData.eqv p q = false ∧ PyData.eqv q p = false := by
    intro d ds p q h1 e1 e2
    cases hp : toPs ds with
    | none => rw [hp] at e2; simp at e2
    | some ps =>
      rw [hp] at e2
      rcases e2 with e2 | e2 <;> cases e2 <;> rcases h1 with rfl | ⟨i, rfl⟩ | ⟨l, rfl, hl⟩ <;> cases e1 <;> simp [PyData.eqv]
  intro n
  induction n with
  | zero => exact flat
  | succ n ih =>
    intro d e p q h1 h2 e1 e2
    have lists : ∀ (ds es : List D) (ps qs : List PyData), (∀ x, x ∈ ds → plainE n x) → (∀ x, x ∈ es → plainE n x) → toPs ds = some ps → toPs es = some qs → (PyData.eqvAll ps qs = true ↔ ds = es) := by
      intro ds
      induction ds with
      | nil =>
        intro es ps qs _ _ f1 f2
        cases f1
        cases es with
        | nil => cases f2; simp [PyData.eqvAll]
        | cons y t =>
          cases hy : toP y with
          | none => simp [toPs, hy] at f2
          | some q =>
            cases ht : toPs t with
            | none => simp [toPs, hy, ht] at f2
            | some qs' => simp [toPs, hy, ht] at f2; subst f2; simp [PyData.eqvAll]
      | cons x r ihr =>
        intro es ps qs k1 k2 f1 f2
        obtain ⟨px, hx, _⟩ := toP_plain n x (k1 x List.mem_cons_self)
        cases hr : toPs r with
        | none => simp [toPs, hx, hr] at f1
        | some pr =>
          simp [toPs, hx, hr] at f1
          subst f1
          cases es with
          | nil => cases f2; simp [PyData.eqvAll]
          | cons y t =>
            obtain ⟨py, hy, _⟩ := toP_plain n y (k2 y List.mem_cons_self)
            cases ht : toPs t with
            | none => simp [toPs, hy, ht] at f2
            | some pt =>
              simp [toPs, hy, ht] at f2
              subst f2
              have a := ih x y px py (k1 x List.mem_cons_self) (k2 y List.mem_cons_self) hx hy
              have b := ihr t pr pt (fun z hz => k1 z (List.mem_cons_of_mem _ hz)) (fun z hz => k2 z (List.mem_cons_of_mem _ hz)) hr ht
              simp only [PyData.eqvAll, Bool.and_eq_true, a, b, List.cons.injEq]
    have notFlat : ∀ (d : D) (ds : List D), flatE d → d ≠ .lst ds ∧ d ≠ .tup ds := fun d ds h => by
      rcases h with rfl | ⟨i, rfl⟩ | ⟨l, rfl, hl⟩ <;> simp
    rcases h1 with h1 | ⟨ds, h1, k1⟩ <;> rcases h2 with h2 | ⟨es, h2, k2⟩
    · exact flat d e p q h1 h2 e1 e2
    · have nf := notFlat d es h1
      rcases h2 with rfl | rfl
      · have := mix d es p q h1 e1 (.inl (by simpa [toP] using e2))
        rw [this.1]
        exact ⟨fun h => (by cases h), fun h => absurd h nf.1⟩
      · have := mix d es p q h1 e1 (.inr (by simpa [toP] using e2))
        rw [this.1]
        exact ⟨fun h => (by cases h), fun h => absurd h nf.2⟩
    · have nf := notFlat e ds h2
      rcases h1 with rfl | rfl
      · have := mix e ds q p h2 e2 (.inl (by simpa [toP] using e1))
        rw [this.2]
        exact ⟨fun h => (by cases h), fun h => absurd h.symm nf.1⟩
      · have := mix e ds q p h2 e2 (.inr (by simpa [toP] using e1))
        rw [this.2]
        exact ⟨fun h => (by cases h), fun h => absurd h.symm nf.2⟩
    · cases hp : toPs ds with
      | none => rcases h1 with rfl | rfl <;> simp [toP, hp] at e1
      | some ps =>
        cases hq : toPs es with
        | none => rcases h2 with rfl | rfl <;> simp [toP, hq] at e2
        | some qs =>
          have l := lists ds es ps qs k1 k2 hp hq
          rcases h1 with rfl | rfl <;> rcases h2 with rfl | rfl <;> simp [toP, hp] at e1 <;> simp [toP, hq] at e2 <;> subst e1 <;> subst e2 <;> simp [PyData.eqv, l]
/-- == of plain data -/
theorem eqD_plain {n : Nat} {d e : D} (hn : n ≤ 64) (h1 : plainE n d) (h2 : plainE n e) : ∃ b : Bool, eqD d e = some b ∧ (b = true ↔ d = e) := by
  obtain ⟨p, e1, c1, t1⟩ := toP_plain n d h1
  obtain ⟨q, e2, c2, t2⟩ := toP_plain n e h2
  have hd : deepEq d e = some (PyData.eqv p q) := by
    unfold deepEq
    rw [e1, e2]
    refine if_pos ⟨?_, ?_⟩
    · unfold SeqAt.shaped
      rw [c1, decide_eq_true (by omega : p.depth ≤ 64)]
      rfl
    · unfold SeqAt.shaped
      rw [c2, decide_eq_true (by omega : q.depth ≤ 64)]
      rfl
  have hv := eqv_plain n d e p q h1 h2 e1 e2
  by_cases hz : d = e
  · subst hz
    refine ⟨true, ?_, by simp⟩
    have := hv.mpr rfl
    unfold eqD
    split <;> first | simp | (rw [hd, this])
  · refine ⟨false, ?_, by simp [hz]⟩
    have hf : PyData.eqv p q = false := by
      cases h : PyData.eqv p q with
      | false => rfl
      | true => exact absurd (hv.mp h) hz
    unfold eqD
    split
    · rename_i i j
      simp only [Option.some.injEq, decide_eq_false_iff_not]
      exact fun z => hz (by rw [z])
    · rename_i i j
      simp only [Option.some.injEq, decide_eq_false_iff_not]
      exact fun z => hz (by rw [z])
    · rename_i i j
      simp only [Option.some.injEq, decide_eq_false_iff_not]
      exact fun z => hz (by rw [z])
    · exact absurd rfl hz
    · rw [hd, hf]
theorem fEq_plain (n : Nat) {d e : D} (hn : n ≤ 64) (h1 : plainE n d) (h2 : plainE n e) : ∃ b : Bool, fEq d e = some (.bl b) ∧ (b = true ↔ d = e) := by
  obtain ⟨b, h, hb⟩ := eqD_plain hn h1 h2
  exact ⟨b, by unfold fEq; rw [h]; rfl, hb⟩
theorem fNe_plain (n : Nat) {d e : D} (hn : n ≤ 64) (h1 : plainE n d) (h2 : plainE n e) : ∃ b : Bool, fNe d e = some (.bl (!b)) ∧ (b = true ↔ d = e) := by
  obtain ⟨b, h, hb⟩ := eqD_plain hn h1 h2
  exact ⟨b, by unfold fNe; rw [h]; rfl, hb⟩
theorem plainE_ints (l : List Int) : plainE 1 (.lst (l.map D.int)) := .inr ⟨_, .inl rfl, fun x hx => by
  obtain ⟨i, _, rfl⟩ := List.mem_map.mp hx
  exact .inr (.inl ⟨i, rfl⟩)⟩
theorem plainE_strs (l : List T) (h : ∀ t, t ∈ l → ∀ c, c ∈ t → c < 128) : plainE 1 (.lst (l.map D.str)) := .inr ⟨_, .inl rfl, fun x hx => by
  obtain ⟨t, ht, rfl⟩ := List.mem_map.mp hx
  exact .inr (.inr ⟨t, rfl, h t ht⟩)⟩
theorem r_get2E {m mk mx : ME} {sl s1 s2 s3 : Sl} {kv : List (KD × D)} {kk : KD} {k z w : D} (h : m sl = .ok (.dic kv) s1) (h1 : mk s1 = .ok k s2) (h2 : mx s2 = .ok z s3) (hk : kd k = some kk) (hw : (lookD kv kk).getD z = w) : mGet2 m mk mx sl = .ok w s3 := by
  subst hw
  exact r_get2 h h1 h2 hk
theorem lc_n {vs : List Nat} {mg : MG} {mt : MT} {me : ME} {s s0 s1 s2 : Sl} {d y : D} (h : mg d s0 = some s1) (h2 : mt s1 = .ok false s2) (hr : Rs vs s s2) : LcE mg mt me vs s s0 d y false := ⟨s1, s2, h, h2, hr, fun h => by cases h⟩
theorem g_tupE {sl s : Sl} {d : D} {ds : List D} {k : Nat} {gs : MGs} (hd : d = .tup ds) (hl : ds.length = k) (h : gs ds sl = some s) : gmTup k gs d sl = some s := by
  subst hd
  exact g_tup hl h
theorem ok_refl {α : Type} {a : α} {s : Sl} : (R.ok a s : R α) = R.ok a s := rfl
theorem gD {a b : R D} (h : a = b) : a = b := h
theorem gA {a b : R (List D)} (h : a = b) : a = b := h
theorem gB {a b : R Bool} (h : a = b) : a = b := h
theorem gF {a b : R Fl} (h : a = b) : a = b := h
theorem gO {a b : Option D} (h : a = b) : a = b := h
theorem gS {a b : Option Sl} (h : a = b) : a = b := h
theorem gI {a b : R (Option Int)} (h : a = b) : a = b := h
end MM

set_option Elab.async false
set_option linter.all false
set_option maxRecDepth 100000
set_option maxHeartbeats 3200000
/-! The value layer, part w: for over a dict. -/
namespace MM
open PySem PySem.Spec PyProof.Rows L2
def mForK (i : Nat) (mg : MG) (mb : MS) : MS := fun sl => match sl[i]? with
  | some (some (.dic kv)) => if (kv.all fun p => keyOk p.1) = true then (match forGo mg mb (kv.map fun p => keyD p.1) sl with
    | .ok .nx s2 => .ok .nx s2
    | _ => .err) else .err
  | _ => .err
section
variable {c : CI} {X : Cx} {μ : Ms} {ρ : Bool} {W : WX}
theorem st_forK {S : List Nat} {i : Nat} {g : TG} {mg : MG} {tb : TS} {mb : MS} (hlk : c.lk = none) (hm : mdOf μ i = .frz) (hg : ∀ a, EvG (lkC c a) μ S g mg) (hb : ∀ a, StM (lkC c a) μ ρ W0 tb mb) :
    StM c μ ρ W (tLock (tFor (iKeys (tVar i)) g tb)) (mForK i mg mb) := by
  intro σ H F O sl E re gs
  unfold mForK at gs
  split at gs
  · rename_i kv e
    split at gs
    · rename_i ok
      obtain ⟨v, h1, h2⟩ := re.at_ i _ e
      rw [hm] at h2
      obtain ⟨h2, hO⟩ := h2
      cases h2 with
      | @dic a kvs _ vs1 ds1 hF hl hk hvs hds r =>
        have ag := re.ag
        rw [hlk] at ag
        have hH := ag.exact hF
        have hnO : ∀ j, a ∉ O j := fun j hj => by
          have := re.fre j a hj
          rw [hF] at this
          cases this
        refine ⟨a, .dK kvs, hH, True.intro, fun od => ?_⟩
        have re1 := re.lock hlk hF od
        refine ⟨.ref a, h1, a, od, rfl, .inl ⟨kvs, upd_same, ?_⟩⟩
        refine for_core (c := lkC c a) (W := W0) (S := S) (mg := mg) (mb := mb) (hg a) (hb a) re1 (wk_keys hl hk ok) upd_same (fun b o e => by cases e; rw [hF]; exact fun z => nomatch z) ?_
        revert gs
        cases forGo mg mb (kv.map fun p => keyD p.1) sl with
        | err => exact fun g => g.elim
        | exc k fs s => exact fun g => g.elim
        | ok fl s2 =>
          cases fl with
          | bk => exact fun g => g.elim
          | ct => exact fun g => g.elim
          | rt d => exact fun g => g.elim
          | nx =>
            intro g σ' F' H' O' st re' pin
            have hF' := st.ff a _ hF
            have hfz : H' a = some (.frz od (.dK kvs)) := st.kp a _ upd_same hnO
            exact ⟨hfz, g σ' F' _ O' (Stp.unlock hH (by rw [hF]; exact fun z => nomatch z) hnO st) (re'.unlock hlk hF') pin⟩
      | _ => exact gs.elim
    · exact gs.elim
  · exact gs.elim
theorem xs_forK {S : List Nat} (i : Nat) {x : Str} {px : Pos} {tg : Expr} {body : List Stmt} {g : TG} {mg : MG} {tb : TS} {mb : MS} {pos : Pos} (hp : PassesOwn (model X.prog X.w) X.A X.env X.xe) (hc : X.calm = true)
    (hg : ∀ a : Addr, XG X (lkC c a) μ S tg g mg) (hb : ∀ a : Addr, XSs X (lkC c a) μ ρ W0 body tb mb)
    (hlk : c.lk = none := by rfl) (hm : mdOf μ i = .frz := by rfl) (hX : X.N[i]? = some x := by rfl) (hvis : Vis X.env.scope x := by first | exact Or.inl rfl | exact Or.inr (Or.inl rfl) | exact Or.inr (Or.inr rfl)) (hd : (x == ("__debug__" : Str)) = false := by decide) (hcd : (x == ("__classdict__" : Str)) = false := by decide)
    (hs : ∀ z, foldedSetIterable (.Name x px) X.env z = pure z := by intro _; rfl) :
    XS X c μ ρ W (.For tg (.Name x px) body [] pos) (tLock (tFor (iKeys (tVar i)) g tb)) (mForK i mg mb) :=
  ⟨ps_lock (ps_for hp hc (pi_keys (pe_var hX hvis hd hcd)) (hg 0).pg (hb 0).ps hs), st_forK hlk hm (fun a => (hg a).ev) fun a => (hb a).ev⟩
end
theorem r_forK {i : Nat} {mg : MG} {mb : MS} {sl s2 : Sl} {kv : List (KD × D)} (h : Gt sl i (.dic kv)) (hk : (kv.all fun p => keyOk p.1) = true) (h2 : forGo mg mb (kv.map fun p => keyD p.1) sl = .ok .nx s2) : mForK i mg mb sl = .ok .nx s2 := by
  unfold Gt at h
  unfold mForK
  rw [h]
  dsimp only
  rw [if_pos hk, h2]
end MM

set_option Elab.async false
set_option linter.all false
set_option maxRecDepth 100000
set_option maxHeartbeats 3200000
/-! The value layer, part x: calls whose last argument is an owned thing. -/
namespace MM
open PySem PySem.Spec PyProof.Rows L2
section
variable {c : CI} {X : Cx} {μ pm : Ms} {W : WX} {f : Sl → R D}
def ocJ (k : Nat) (L : List Addr) : Os := fun j => if j = k then L else []
theorem ocJ_mem {k : Nat} {L : List Addr} {j : Nat} {a : Addr} (h : a ∈ ocJ k L j) : a ∈ L ∧ j = k := by
  unfold ocJ at h
  split at h
  · exact ⟨h, by assumption⟩
  · exact nomatch h
/-- frozen arguments, then an owned thing, to a callee -/
theorem args_last {F H : Hp} {vs : List V} {ds : List D} {v0 : V} {d0 : D} {L : List Addr} (ag : Ag c.lk F H) (ow : Ow c c.md F H v0 d0 L) (fr : ∀ a, a ∈ L → F a = none) (rs : Rps c F vs ds) (h0 : mdOf pm ds.length = .pin) (hp : ∀ i, i < ds.length → mdOf pm i = .frz) :
    Re c pm F H ((vs ++ [v0]).map some) ((ds ++ [d0]).map some) (ocJ ds.length L) := by
  have hl := rs.length
  refine ⟨ag, by simp [hl], fun i d h => ?_, fun i h => ?_, fun i j a h1 h2 => (ocJ_mem h1).2.trans (ocJ_mem h2).2.symm, fun i a h => fr a (ocJ_mem h).1⟩
  · rcases Nat.lt_trichotomy i ds.length with hi | hi | hi
    · have h : some ds[i] = some d := by
        rw [List.map_append, List.getElem?_append_left (by rw [List.length_map]; exact hi), List.getElem?_map, List.getElem?_eq_getElem hi] at h
        exact Option.some.inj h
      have e : ds[i]? = some d := by rw [List.getElem?_eq_getElem hi]; exact h
      obtain ⟨v, h1, h2⟩ := rs.get e
      refine ⟨v, ?_, ?_⟩
      · rw [List.map_append, List.getElem?_append_left (by rw [List.length_map, hl]; exact hi), List.getElem?_map, h1]
        rfl
      · rw [hp i hi]
        refine ⟨h2, ?_⟩
        unfold ocJ
        rw [if_neg (by omega)]
    · subst hi
      have e : d0 = d := by
        rw [List.map_append, List.getElem?_append_right (by rw [List.length_map]; exact Nat.le_refl _), List.length_map, Nat.sub_self] at h
        exact Option.some.inj (Option.some.inj h)
      subst e
      refine ⟨v0, ?_, ?_⟩
      · rw [List.map_append, List.getElem?_append_right (by rw [List.length_map, hl]; exact Nat.le_refl _), List.length_map, hl, Nat.sub_self]
        rfl
      · rw [h0]
        show Ow c c.md F H v0 d0 (ocJ ds.length L ds.length)
        unfold ocJ
        rw [if_pos rfl]
        exact ow
    · have : ((ds ++ [d0]).map some)[i]? = none := List.getElem?_eq_none (by simp; omega)
      rw [this] at h
      cases h
  · unfold ocJ
    split
    · rename_i e
      refine absurd ?_ (h d0)
      rw [e, List.map_append, List.getElem?_append_right (by rw [List.length_map]; exact Nat.le_refl _), List.length_map, Nat.sub_self]
      rfl
    · rfl
/-- behind a call that may have changed slot i's thing, its last argument -/
theorem Re.behindL {F H F' H' : Hp} {σ : St} {sl s2 : Sl} {O O2 : Os} {i k : Nat} {v0 : V} {ws : List V} {d0 d1 : D} (re : Re c μ F H σ sl O) (hm : mdOf μ i = .own ∨ mdOf μ i = .pin) (hs : sl[i]? = some (some d0)) (hv : σ[i]? = some (some v0)) (h0 : mdOf pm k = .pin)
    (hw : (ws.map some)[k]? = some (some v0)) (st : Stp F H (ocJ k (O i)) F' H' O2) (re2 : Re c pm F' H' (ws.map some) s2 O2) (hd1 : s2[k]? = some (some d1)) :
    Re c μ F' H' σ (sl.set i (some d1)) (fun j => if j = i then O2 k else O j) ∧ Stp F H O F' H' (fun j => if j = i then O2 k else O j) := by
  have hi : i < sl.length := (List.getElem?_eq_some_iff.mp hs).1
  obtain ⟨v1, e1, ow⟩ := re2.at_ k d1 hd1
  have ev : v1 = v0 := by
    rw [hw] at e1
    exact (Option.some.inj (Option.some.inj e1)).symm
  subst ev
  rw [h0] at ow
  have keep : ∀ j a, j ≠ i → a ∈ O j → ∀ o, H a = some o → H' a = some o := fun j a hj ha o ho => st.kp a o ho fun l hl => hj (re.dis j i a ha (ocJ_mem hl).1)
  have frO : ∀ j a, j ≠ i → a ∈ O j → F' a = none := fun j a hj ha => by
    cases q : F' a with
    | none => rfl
    | some o =>
      obtain ⟨u, hu⟩ := re.there ha
      rcases st.fo a o q with z | z | ⟨l, z⟩
      · rw [re.fre j a ha] at z; cases z
      · rw [hu] at z; cases z
      · exact absurd (re.dis j i a ha (ocJ_mem z).1) hj
  have new2 : ∀ a, a ∈ O2 k → H a = none ∨ a ∈ O i := fun a ha => by
    rcases st.ow k a ha with z | ⟨l, z⟩
    · exact .inl z
    · exact .inr (ocJ_mem z).1
  have key : ∀ j a, j ≠ i → a ∈ O2 k → a ∈ O j → False := fun j a hj ha hb => by
    rcases new2 a ha with z | z
    · obtain ⟨u, hu⟩ := re.there hb
      rw [z] at hu; cases hu
    · exact hj (re.dis j i a hb z)
  refine ⟨⟨re2.ag, by rw [List.length_set]; exact re.len, fun j d h => ?_, fun j h => ?_, fun j l a h1 h2 => ?_, fun j a h => ?_⟩, st.ff, fun a o ho n => st.kp a o ho fun l hl => n i (ocJ_mem hl).1, fun a o q => ?_, fun j a h => ?_, st.al, fun j => ?_⟩
  · by_cases q : i = j
    · subst q
      rw [List.getElem?_set_self hi] at h
      cases h
      rw [if_pos rfl]
      refine ⟨v1, hv, ?_⟩
      rcases hm with e | e <;> (rw [e]; exact ow)
    · rw [List.getElem?_set_ne q] at h
      rw [if_neg (Ne.symm q)]
      obtain ⟨v2, q1, q2⟩ := re.at_ j d h
      exact ⟨v2, q1, q2.mono st.ff fun a ha o ho => keep j a (Ne.symm q) ha o ho⟩
  · by_cases q : i = j
    · subst q
      exact absurd (List.getElem?_set_self hi) (h d1)
    · rw [if_neg (Ne.symm q)]
      exact re.emp j fun d2 w1 => h d2 (by rw [List.getElem?_set_ne q]; exact w1)
  · by_cases q1 : j = i
    · by_cases q2 : l = i
      · rw [q1, q2]
      · rw [if_pos q1] at h1
        rw [if_neg q2] at h2
        exact (key l a q2 h1 h2).elim
    · by_cases q2 : l = i
      · rw [if_neg q1] at h1
        rw [if_pos q2] at h2
        exact (key j a q1 h2 h1).elim
      · rw [if_neg q1] at h1
        rw [if_neg q2] at h2
        exact re.dis j l a h1 h2
  · by_cases q : j = i
    · rw [if_pos q] at h
      exact re2.fre k a h
    · rw [if_neg q] at h
      exact frO j a q h
  · rcases st.fo a o q with z | z | ⟨l, z⟩
    · exact .inl z
    · exact .inr (.inl z)
    · exact .inr (.inr ⟨i, (ocJ_mem z).1⟩)
  · by_cases q : j = i
    · have h : a ∈ (if j = i then O2 k else O j) := h
      rw [if_pos q] at h
      rcases new2 a h with z | z
      · exact .inl z
      · exact .inr ⟨i, z⟩
    · have h : a ∈ (if j = i then O2 k else O j) := h
      rw [if_neg q] at h
      exact .inr ⟨j, h⟩
  · show (∃ N, (if j = i then O2 k else O j) = O j ++ N ∧ _) ∨ (if j = i then O2 k else O j) = [] ∨ ∀ a, a ∈ (if j = i then O2 k else O j) → H a = none
    by_cases q : j = i
    · subst q
      rw [if_pos rfl]
      have := st.pk k
      unfold ocJ at this
      rw [if_pos rfl] at this
      exact this
    · rw [if_neg q]
      exact pk_refl _
/-- arguments, the last one slot i's owned thing -/
def EvL (c : CI) (μ : Ms) (W : WX) (i : Nat) (t : TA) (n : MA) : Prop := ∀ σ H F O sl Q v0, σ[i]? = some (some v0) → Re c μ F H σ sl O → GX (fun F vs ds => ∃ us, vs = us ++ [v0] ∧ Rps c F us ds) c μ W F H O σ Q (n sl) → t σ H Q
structure XL (X : Cx) (c : CI) (μ : Ms) (W : WX) (i : Nat) (e : List Expr) (t : TA) (n : MA) : Prop where
  pa : PA X e t
  ev : EvL c μ W i t n
theorem xl_nil (i : Nat) {y : Str} {py : Pos} (hN : X.N[i]? = some y := by rfl) (hv : Vis X.env.scope y := by first | exact Or.inl rfl | exact Or.inr (Or.inl rfl) | exact Or.inr (Or.inr rfl)) (hd : (y == ("__debug__" : Str)) = false := by decide) (hcd : (y == ("__classdict__" : Str)) = false := by decide)
    (hs : starEach [.Name y py] X.env = (false, eval (.Name y py) X.env) :: starEach [] X.env := by rfl) : XL X c μ W i [.Name y py] (tCons (tVar i) tNil) mNil :=
  ⟨pa_cons (pe_var hN hv hd hcd) pa_nil hs, fun σ H F O sl Q v0 h re g => ⟨v0, h, g [v0] F H O (Stp.refl _ _ _) re ⟨[], rfl, .nil⟩⟩⟩
theorem xl_cons {i : Nat} {e : Expr} {es : List Expr} {t : TE} {tr : TA} {m : ME} {n : MA} (h : XE X c μ W e t m) (hr : XL X c μ W i es tr n) (hs : starEach (e :: es) X.env = (false, eval e X.env) :: starEach es X.env := by rfl) : XL X c μ W i (e :: es) (tCons t tr) (mCons m n) :=
  ⟨pa_cons h.pe hr.pa hs, fun σ H F O sl Q v0 hv re g => by
    refine h.ev σ H F O sl _ re ?_
    unfold mCons at g
    revert g
    cases em : m sl with
    | err => exact fun g => g
    | exc k fs s => exact fun g => g
    | ok d s =>
      intro g x F1 H1 O1 s1 re1 rx
      refine hr.ev σ H1 F1 O1 s _ v0 hv re1 ?_
      have g : GX (fun F vs ds => ∃ us, vs = us ++ [v0] ∧ Rps c F us ds) c μ W F H O σ Q ((n s).bind fun ds s2 => .ok (d :: ds) s2) := g
      revert g
      cases en : n s with
      | err => exact fun g => g
      | exc k fs s' => exact fun g dd F' H' O' st re' x => g dd F' H' O' (s1.trans st) re' x
      | ok ds s' =>
        intro g xs F' H' O' st re' ⟨us, e1, r⟩
        exact g (x :: xs) F' H' O' (s1.trans st) re' ⟨x :: us, by rw [e1]; rfl, .cons (rx.mono st.ff) r⟩⟩
def mCallL (i np : Nat) (f : Sl → R D) (n : MA) : ME := fun sl => match sl[i]? with
  | some (some _) => (n sl).bind fun ds s => (match s[i]? with
    | some (some d0) => if ds.length + 1 = np then (match f ((ds ++ [d0]).map some) with
      | .ok d s2 => (match s2[ds.length]? with
        | some (some d1) => .ok d (s.set i (some d1))
        | _ => .err)
      | _ => .err) else .err
    | _ => .err)
  | _ => .err
theorem ev_callL {i : Nat} {t : TA} {n : MA} (hm : mdOf μ i = .own ∨ mdOf μ i = .pin) (h0 : mdOf pm (pm.length - 1) = .pin) (hp : ∀ j, j + 1 < pm.length → mdOf pm j = .frz) (h : EvL c μ W i t n) : EvE c μ W (tCall (SpM c pm false f) [] E0 t) (mCallL i pm.length f n) := by
  intro σ H F O sl Q re g
  unfold mCallL at g
  split at g
  · rename_i d00 e00
    obtain ⟨v0, hv0, _⟩ := re.own hm e00
    refine h σ H F O sl _ v0 hv0 re ?_
    revert g
    cases en : n sl with
    | err => exact fun g => g
    | exc k fs s => exact fun g => g
    | ok ds s =>
      rintro g vs F1 H1 O1 st1 re1 ⟨us, rfl, rs⟩
      show SpM c pm false f ((us ++ [v0]) ++ []) H1 Q E0
      rw [List.append_nil]
      have g : GX (rD c) c μ W F H O σ Q (match s[i]? with
        | some (some d0) => if ds.length + 1 = pm.length then (match f ((ds ++ [d0]).map some) with
          | .ok d s2 => (match s2[ds.length]? with
            | some (some d1) => .ok d (s.set i (some d1))
            | _ => .err)
          | _ => .err) else .err
        | _ => .err) := g
      split at g
      · rename_i d0 e0
        obtain ⟨v0', h1, _, ow⟩ := own_at hm re e00 re1 e0
        have ev : v0' = v0 := by rw [hv0] at h1; exact (Option.some.inj (Option.some.inj h1)).symm
        subst ev
        by_cases hl : ds.length + 1 = pm.length
        · rw [if_pos hl] at g
          have h0' : mdOf pm ds.length = .pin := by
            have : pm.length - 1 = ds.length := by omega
            rw [← this]
            exact h0
          refine ⟨by rw [List.length_append, rs.length]; exact hl, F1, _, ds ++ [d0], by rw [List.length_append]; exact hl, args_last re1.ag ow (fun a ha => re1.fre i a ha) rs h0' (fun j hj => hp j (by omega)), ?_⟩
          cases e : f ((ds ++ [d0]).map some) with
          | err => rw [e] at g; exact g.elim
          | exc k fs s => rw [e] at g; exact g.elim
          | ok d s2 =>
            rw [e] at g
            dsimp only at g
            intro v F' H' O' Or st re' hf
            split at g
            · rename_i d1 e1
              have hw : ((us ++ [v0']).map some)[ds.length]? = some (some v0') := by
                rw [← rs.length, List.map_append, List.getElem?_append_right (by rw [List.length_map]; exact Nat.le_refl _), List.length_map, Nat.sub_self]
                rfl
              obtain ⟨r1, r2⟩ := re1.behindL hm e0 hv0 h0' hw st re' e1
              exact g v F' H' _ (st1.trans r2) r1 hf.1
            · exact g.elim
        · rw [if_neg hl] at g
          exact g.elim
      · exact g.elim
  · exact g.elim
variable {k : Nat} {fa : Addr} {fd : FuncData} {ps : List Str} {x : Str} {p pos : Pos} {e : Expr} {es : List Expr} {t : TA} {n : MA} {CX : CXT}
theorem xe_callL {i : Nat} (F : FnOk X.prog X.w X.K X.mg X.base CX k fa fd ps (SpM c pm false f)) (hr : Room k X.A) (hm : X.mg x = some (.ref fa)) (hk : PySem.W.keepIn X.K (.ref fa) = true) (hb : Binds X.K fd ps []) (ha : XL X c μ W i (e :: es) t n) (hx : Passes CX X E0)
    (h0 : mdOf pm (pm.length - 1) = .pin := by rfl) (hp : ∀ j, j + 1 < pm.length → mdOf pm j = .frz := by intro j hj; simp only [List.length_cons, List.length_nil] at hj; repeat (first | omega | (rcases j with _ | j; · rfl))) (hmi : mdOf μ i = .own ∨ mdOf μ i = .pin := by decide)
    (hg : Gl X x := by rfl) (hdb : (x == ("__debug__" : Str)) = false := by decide) (he : starEach (e :: es) X.env = (false, eval e X.env) :: starEach es X.env := by rfl) (hpl : (backTo pos (starEach es X.env)).any (·.1) = false := by rfl) :
    XE X c μ W (.Call (.Name x p) (e :: es) [] pos) (tCall (SpM c pm false f) [] E0 t) (mCallL i pm.length f n) := ⟨pe_call F hr hg hm hk hb .nil hx ha.pa hdb he hpl, ev_callL hmi h0 hp ha.ev⟩
end
def Sn (l : List D) (d : D) (m : List D) : Prop := l ++ [d] = m
theorem sn_nil {d : D} : Sn [] d [d] := rfl
theorem sn_cons {x d : D} {l m : List D} (h : Sn l d m) : Sn (x :: l) d (x :: m) := congrArg (x :: ·) h
theorem r_callL {i np : Nat} {f : Sl → R D} {n : MA} {l : Sl} {x0 d0 d1 d : D} {ds es : List D} {sl s r s2 : Sl} (h0 : Gt sl i x0) (h1 : n sl = .ok ds s) (h2 : Gt s i d0) (hl : ds.length + 1 = np) (he : Sn ds d0 es) (hm : Ms2 es l) (hf : f l = .ok d r) (hr : Gt r (np - 1) d1) (hs : St2 s i (some d1) s2) : mCallL i np f n sl = .ok d s2 := by
  unfold Gt at h0 h2 hr
  unfold Ms2 at hm
  unfold St2 at hs
  unfold Sn at he
  have e : np - 1 = ds.length := by omega
  rw [e] at hr
  subst he
  unfold mCallL
  rw [h0]
  dsimp only
  rw [h1, bind_ok, h2]
  dsimp only
  rw [if_pos hl, hm, hf]
  dsimp only
  rw [hr]
  dsimp only
  rw [hs]
end MM

set_option Elab.async false
set_option linter.all false
set_option maxRecDepth 100000
set_option maxHeartbeats 2000000
/-! The value layer, part y: the runner by classes (a construct finds its lemma by its head; a leaf is found whole). -/
namespace MM
open PySem PySem.Spec PyProof.Rows L2
/-! ### leaves -/
class Gi (l : Sl) (n : Nat) (x : outParam (Option D)) : Prop where
  go : l[n]? = some x
instance gi_z {x : Option D} {r : Sl} : Gi (x :: r) 0 x := ⟨rfl⟩
instance gi_s {x y : Option D} {r : Sl} {n : Nat} [h : Gi r n y] : Gi (x :: r) (n + 1) y := ⟨h.go⟩
theorem gtC {l : Sl} {n : Nat} {d : D} [h : Gi l n (some d)] : Gt l n d := h.go
class Si (l : Sl) (n : Nat) (x : Option D) (l' : outParam Sl) : Prop where
  go : St2 l n x l'
  lt : n < l.length
instance si_z {y x : Option D} {r : Sl} : Si (y :: r) 0 x (x :: r) := ⟨rfl, Nat.succ_pos _⟩
instance si_s {y x : Option D} {r r' : Sl} {n : Nat} [h : Si r n x r'] : Si (y :: r) (n + 1) x (y :: r') := ⟨st_s h.go, Nat.succ_lt_succ h.lt⟩
theorem siW {l : Sl} {n : Nat} {x : Option D} {l' : Sl} (h1 : n < l.length) (h2 : St2 l n x l') : Si l n x l' := ⟨h2, h1⟩
theorem siC {l : Sl} {n : Nat} {x : Option D} {l' : Sl} [h : Si l n x l'] : Si l n x l' := h
theorem stC {l : Sl} {n : Nat} {x : Option D} {l' : Sl} [h : Si l n x l'] : St2 l n x l' := h.go
/-- what is kept while slot i is lent, by the modes in their order -/
def mskS : Ms → Option Nat → Sl → Sl
  | _, _, [] => []
  | [], _, x :: r => x :: r
  | .frz :: μ, k, x :: r => x :: mskS μ (match k with | some (n + 1) => some n | _ => none) r
  | _ :: μ, some 0, x :: r => x :: mskS μ none r
  | _ :: μ, some (n + 1), _ :: r => none :: mskS μ (some n) r
  | _ :: μ, none, _ :: r => none :: mskS μ none r
theorem mskS_eq : ∀ (μ0 : Ms) (i : Nat) (μ : Ms) (n : Nat) (k : Option Nat) (l : Sl), (∀ j, mdOf μ j = mdOf μ0 (n + j)) → (∀ j, (n + j = i ↔ k = some j)) → mskS μ k l = mskFrom μ0 i n l
  | _, _, μ, _, _, [], _, _ => by cases μ <;> simp [mskS, mskFrom]
  | μ0, i, [], n, k, x :: r, h, hk => by
    have key : ∀ (l : Sl) (n : Nat), (∀ j, mdOf [] j = mdOf μ0 (n + j)) → mskFrom μ0 i n l = l := by
      intro l
      induction l with
      | nil => intro n _; rfl
      | cons y l ih =>
        intro n h
        have h0 : mdOf μ0 n = .frz := by
          have := h 0
          rw [Nat.add_zero] at this
          rw [← this]
          rfl
        have e := ih (n + 1) fun j => by
          have := h (j + 1)
          rw [show n + 1 + j = n + (j + 1) by omega, ← this]
          rfl
        show (if mdOf μ0 n = .frz ∨ n = i then y else none) :: mskFrom μ0 i (n + 1) l = y :: l
        rw [if_pos (.inl h0), e]
    exact (key _ _ h).symm
  | μ0, i, m :: μ, n, k, x :: r, h, hk => by
    have h0 : mdOf μ0 n = m := by
      have := h 0
      rw [Nat.add_zero] at this
      rw [← this]
      rfl
    have hr : ∀ j, mdOf μ j = mdOf μ0 (n + 1 + j) := fun j => by
      have := h (j + 1)
      rw [show n + 1 + j = n + (j + 1) by omega, ← this]
      rfl
    have hn : n = i ↔ k = some 0 := by simpa using hk 0
    have ih : ∀ k', (∀ j, (n + 1 + j = i ↔ k' = some j)) → mskS μ k' r = mskFrom μ0 i (n + 1) r := fun k' h' => mskS_eq μ0 i μ (n + 1) k' r hr h'
    have hs : ∀ j, (n + 1 + j = i ↔ k = some (j + 1)) := fun j => by rw [show n + 1 + j = n + (j + 1) by omega]; exact hk (j + 1)
    show _ = (if mdOf μ0 n = .frz ∨ n = i then x else none) :: mskFrom μ0 i (n + 1) r
    rw [h0]
    match k with
    | none =>
      have hni : ¬ n = i := fun z => by cases hn.mp z
      have e := ih none fun j => by rw [hs j]; simp
      cases m with
      | frz => rw [if_pos (.inl rfl)]; show x :: mskS μ none r = _; rw [e]
      | own => rw [if_neg (by simp [hni])]; show none :: mskS μ none r = _; rw [e]
      | pin => rw [if_neg (by simp [hni])]; show none :: mskS μ none r = _; rw [e]
      | bor j => rw [if_neg (by simp [hni])]; show none :: mskS μ none r = _; rw [e]
    | some 0 =>
      have hni : n = i := hn.mpr rfl
      have e := ih none fun j => by rw [hs j]; simp
      rw [if_pos (.inr hni), ← e]
      cases m <;> rfl
    | some (q + 1) =>
      have hni : ¬ n = i := fun z => by cases hn.mp z
      have e := ih (some q) fun j => by rw [hs j]; simp
      cases m with
      | frz => rw [if_pos (.inl rfl)]; show x :: mskS μ (some q) r = _; rw [e]
      | own => rw [if_neg (by simp [hni])]; show none :: mskS μ (some q) r = _; rw [e]
      | pin => rw [if_neg (by simp [hni])]; show none :: mskS μ (some q) r = _; rw [e]
      | bor j => rw [if_neg (by simp [hni])]; show none :: mskS μ (some q) r = _; rw [e]
class Ki (μ : Ms) (k : Option Nat) (l : Sl) (l' : outParam Sl) : Prop where
  go : mskS μ k l = l'
instance ki_nil {μ : Ms} {k : Option Nat} : Ki μ k [] [] := ⟨by cases μ <;> simp [mskS]⟩
instance ki_fn {μ : Ms} {x : Option D} {r r' : Sl} [h : Ki μ none r r'] : Ki (.frz :: μ) none (x :: r) (x :: r') := ⟨congrArg (x :: ·) h.go⟩
instance ki_f0 {μ : Ms} {x : Option D} {r r' : Sl} [h : Ki μ none r r'] : Ki (.frz :: μ) (some 0) (x :: r) (x :: r') := ⟨congrArg (x :: ·) h.go⟩
instance ki_fs {μ : Ms} {n : Nat} {x : Option D} {r r' : Sl} [h : Ki μ (some n) r r'] : Ki (.frz :: μ) (some (n + 1)) (x :: r) (x :: r') := ⟨congrArg (x :: ·) h.go⟩
instance ki_o0 {μ : Ms} {x : Option D} {r r' : Sl} [h : Ki μ none r r'] : Ki (.own :: μ) (some 0) (x :: r) (x :: r') := ⟨congrArg (x :: ·) h.go⟩
instance ki_os {μ : Ms} {n : Nat} {x : Option D} {r r' : Sl} [h : Ki μ (some n) r r'] : Ki (.own :: μ) (some (n + 1)) (x :: r) (none :: r') := ⟨congrArg (none :: ·) h.go⟩
instance ki_on {μ : Ms} {x : Option D} {r r' : Sl} [h : Ki μ none r r'] : Ki (.own :: μ) none (x :: r) (none :: r') := ⟨congrArg (none :: ·) h.go⟩
instance ki_p0 {μ : Ms} {x : Option D} {r r' : Sl} [h : Ki μ none r r'] : Ki (.pin :: μ) (some 0) (x :: r) (x :: r') := ⟨congrArg (x :: ·) h.go⟩
instance ki_ps {μ : Ms} {n : Nat} {x : Option D} {r r' : Sl} [h : Ki μ (some n) r r'] : Ki (.pin :: μ) (some (n + 1)) (x :: r) (none :: r') := ⟨congrArg (none :: ·) h.go⟩
instance ki_pn {μ : Ms} {x : Option D} {r r' : Sl} [h : Ki μ none r r'] : Ki (.pin :: μ) none (x :: r) (none :: r') := ⟨congrArg (none :: ·) h.go⟩
instance ki_b0 {μ : Ms} {j : Nat} {x : Option D} {r r' : Sl} [h : Ki μ none r r'] : Ki (.bor j :: μ) (some 0) (x :: r) (x :: r') := ⟨congrArg (x :: ·) h.go⟩
instance ki_bs {μ : Ms} {j n : Nat} {x : Option D} {r r' : Sl} [h : Ki μ (some n) r r'] : Ki (.bor j :: μ) (some (n + 1)) (x :: r) (none :: r') := ⟨congrArg (none :: ·) h.go⟩
instance ki_bn {μ : Ms} {j : Nat} {x : Option D} {r r' : Sl} [h : Ki μ none r r'] : Ki (.bor j :: μ) none (x :: r) (none :: r') := ⟨congrArg (none :: ·) h.go⟩
theorem mkC {μ : Ms} {i : Nat} {l l' : Sl} [h : Ki μ (some i) l l'] : Mk μ i 0 l l' := by
  unfold Mk
  rw [← mskS_eq μ i μ 0 (some i) l (fun j => by rw [Nat.zero_add]) (fun j => by simp; exact ⟨fun z => z.symm, fun z => z.symm⟩)]
  exact h.go
class Mi (ds : List D) (l : outParam Sl) : Prop where
  go : Ms2 ds l
instance mi_n : Mi [] [] := ⟨rfl⟩
instance mi_c {d : D} {ds : List D} {l : Sl} [h : Mi ds l] : Mi (d :: ds) (some d :: l) := ⟨ms_cons h.go⟩
theorem msC {ds : List D} {l : Sl} [h : Mi ds l] : Ms2 ds l := h.go
class Ai (ps : Sl) (n : Nat) (l : outParam Sl) : Prop where
  go : Ap ps n l
instance ai_z : Ai [] 0 [] := ⟨rfl⟩
instance ai_n {n : Nat} {l : Sl} [h : Ai [] n l] : Ai [] (n + 1) (none :: l) := ⟨ap_n h.go⟩
instance ai_c {p : Option D} {ps l : Sl} {n : Nat} [h : Ai ps n l] : Ai (p :: ps) n (p :: l) := ⟨ap_c h.go⟩
theorem apC {ps l : Sl} {n : Nat} [h : Ai ps n l] : Ap ps n l := h.go
class Ni (l : List D) (d : D) (m : outParam (List D)) : Prop where
  go : Sn l d m
instance ni_n {d : D} : Ni [] d [d] := ⟨rfl⟩
instance ni_c {x d : D} {l m : List D} [h : Ni l d m] : Ni (x :: l) d (x :: m) := ⟨sn_cons h.go⟩
theorem snC {l m : List D} {d : D} [h : Ni l d m] : Sn l d m := h.go
class Di (l : List D) (n : Nat) (x : D) (l' : outParam (List D)) : Prop where
  go : Sd l n x l'
instance di_z {y x : D} {r : List D} : Di (y :: r) 0 x (x :: r) := ⟨rfl⟩
instance di_s {y x : D} {r r' : List D} {n : Nat} [h : Di r n x r'] : Di (y :: r) (n + 1) x (y :: r') := ⟨sd_s h.go⟩
theorem sdC {l l' : List D} {n : Nat} {x : D} [h : Di l n x l'] : Sd l n x l' := h.go
class Pi2 (pm : Ms) (s : Sl) (r : outParam Sl) : Prop where
  go : mskP pm s = some r
instance pi_n {s : Sl} : Pi2 [] s [] := ⟨mp_nil⟩
instance pi_f {ms : Ms} {x : Option D} {s r : Sl} [h : Pi2 ms s r] : Pi2 (.frz :: ms) (x :: s) (none :: r) := ⟨mp_f h.go⟩
instance pi_p {ms : Ms} {x : D} {s r : Sl} [h : Pi2 ms s r] : Pi2 (.pin :: ms) (some x :: s) (some x :: r) := ⟨mp_p h.go⟩
theorem mpC {pm : Ms} {s r : Sl} [h : Pi2 pm s r] : mskP pm s = some r := h.go
/-! ### operations -/
class So (t : Option D) (z : outParam D) : Prop where
  go : t = some z
theorem soC {t : Option D} {z : D} [h : So t z] : t = some z := h.go
instance {i j : Int} : So (fAdd (.int i) (.int j)) (.int (i + j)) := ⟨o_addI⟩
instance {i j : Int} : So (fSub (.int i) (.int j)) (.int (i - j)) := ⟨o_sub⟩
instance {i j : Int} : So (fLt (.int i) (.int j)) (.bl (decide (i < j))) := ⟨o_lt⟩
instance {i j : Int} : So (fLe (.int i) (.int j)) (.bl (decide (i ≤ j))) := ⟨o_le⟩
instance {i j : Int} : So (fGt (.int i) (.int j)) (.bl (decide (j < i))) := ⟨o_gt⟩
instance {i j : Int} : So (fGe (.int i) (.int j)) (.bl (decide (j ≤ i))) := ⟨o_ge⟩
instance {i j : Int} : So (fEq (.int i) (.int j)) (.bl (decide (i = j))) := ⟨o_eqI⟩
instance {i j : T} : So (fEq (.str i) (.str j)) (.bl (decide (i = j))) := ⟨o_eqS⟩
instance {i j : Bool} : So (fEq (.bl i) (.bl j)) (.bl (decide (i = j))) := ⟨o_eqB⟩
instance {i j : Int} : So (fNe (.int i) (.int j)) (.bl (!decide (i = j))) := ⟨o_neI⟩
instance {i j : T} : So (fNe (.str i) (.str j)) (.bl (!decide (i = j))) := ⟨o_neS⟩
instance {i j : Bool} : So (fNe (.bl i) (.bl j)) (.bl (!decide (i = j))) := ⟨o_neB⟩
instance {k : Nat} {l : T} : So (fIn (.str [k]) (.str l)) (.bl (decide (k ∈ l))) := ⟨o_inS⟩
instance {k : Nat} {l : T} : So (fNotIn (.str [k]) (.str l)) (.bl (!decide (k ∈ l))) := ⟨o_ninS⟩
instance {l : T} : So (fLen [.str l]) (.int (l.length : Nat)) := ⟨o_lenS⟩
instance {l : List D} : So (fLen [.lst l]) (.int (l.length : Nat)) := ⟨o_lenL⟩
instance {l : List D} : So (fLen [.tup l]) (.int (l.length : Nat)) := ⟨o_lenT⟩
instance {d : D} : So (fIs d .non) (.bl (isN d)) := ⟨o_isNon⟩
instance {d : D} : So (fIsNot d .non) (.bl (!isN d)) := ⟨o_isNot⟩
instance {l : List D} : So (fList [.lst l]) (.lst l) := ⟨o_listL⟩
instance {l : List D} : So (fList [.tup l]) (.lst l) := ⟨o_listT⟩
instance {l : List D} : So (fTuple [.lst l]) (.tup l) := ⟨o_tupL⟩
instance {l : List D} : So (fTuple [.tup l]) (.tup l) := ⟨o_tupT⟩
instance {d : D} {r : List D} : So (fIx (.tup (d :: r)) (.int 0)) d := ⟨o_ixT0⟩
instance {d e : D} {r : List D} : So (fIx (.tup (e :: d :: r)) (.int 1)) d := ⟨o_ixT1⟩
instance {d e f : D} {r : List D} : So (fIx (.tup (e :: f :: d :: r)) (.int 2)) d := ⟨o_ixT2⟩
instance {d e f g : D} {r : List D} : So (fIx (.tup (e :: f :: g :: d :: r)) (.int 3)) d := ⟨o_ixT3⟩
instance {d : D} {r : List D} : So (fIx (.lst (d :: r)) (.int 0)) d := ⟨o_ixL0⟩
instance {d e : D} {r : List D} : So (fIx (.lst (e :: d :: r)) (.int 1)) d := ⟨o_ixL1⟩
instance {ds : List D} {lo hi : Option Int} : So (fSl (.lst ds) lo hi) (.lst (cutD ds lo hi)) := ⟨o_slL⟩
instance {ds : List D} {lo hi : Option Int} : So (fSl (.tup ds) lo hi) (.tup (cutD ds lo hi)) := ⟨o_slT⟩
instance {ds : T} {lo hi : Option Int} : So (fSl (.str ds) lo hi) (.str (cutD ds lo hi)) := ⟨o_slS⟩
instance {k : Nat} {d : D} {r : List D} : So (dFld k 0 (.ins k (d :: r))) d := ⟨o_fld rfl⟩
instance {k : Nat} {d e : D} {r : List D} : So (dFld k 1 (.ins k (e :: d :: r))) d := ⟨o_fld rfl⟩
instance {k : Nat} {d e f : D} {r : List D} : So (dFld k 2 (.ins k (e :: f :: d :: r))) d := ⟨o_fld rfl⟩
instance {k : Nat} {d e f g : D} {r : List D} : So (dFld k 3 (.ins k (e :: f :: g :: d :: r))) d := ⟨o_fld rfl⟩
/-- kinds of values of which a goal a = b may be closed by computing -/
class Rf (α : Type) : Prop where
  go : True
instance : Rf Nat := ⟨trivial⟩
instance : Rf Bool := ⟨trivial⟩
instance : Rf D := ⟨trivial⟩
instance : Rf (Option KD) := ⟨trivial⟩
instance : Rf (Option (List D)) := ⟨trivial⟩
theorem rfT {α : Type} [Rf α] {a : α} : a = a := rfl
/-- places -/
class Lj (l : List D) (j : Nat) (d : outParam D) : Prop where
  go : l[j]? = some d
instance lj_z {d : D} {r : List D} : Lj (d :: r) 0 d := ⟨rfl⟩
instance lj_s {d e : D} {r : List D} {n : Nat} [h : Lj r n d] : Lj (e :: r) (n + 1) d := ⟨h.go⟩
class Rg (get : Sl → Option D) (sl : Sl) (d : outParam D) : Prop where
  go : Rd2 get sl d
class Wg (set : Sl → D → Sl) (sl : Sl) (d : D) (s : outParam Sl) : Prop where
  go : Wr set sl d s
class Ld (d : D) : Prop where
  go : isLD d = true
instance {ds : List D} : Ld (.lst ds) := ⟨rfl⟩
instance {kv : List (KD × D)} : Ld (.dic kv) := ⟨rfl⟩
instance {i : Nat} {sl : Sl} {d : D} [h : Gi sl i (some d)] [k : Ld d] : Rg (getV i) sl d := ⟨rd_v h.go k.go⟩
instance {i k j : Nat} {sl : Sl} {ds : List D} {d : D} [h : Gi sl i (some (.ins k ds))] [g : Lj ds j d] [l : Ld d] : Rg (getF i k j) sl d := ⟨rd_f h.go g.go l.go⟩
instance {i : Nat} {sl s : Sl} {d : D} [h : Si sl i (some d) s] : Wg (setV i) sl d s := ⟨wr_v h.go⟩
instance {i k j : Nat} {sl s : Sl} {ds es : List D} {d : D} [h : Gi sl i (some (.ins k ds))] [g : Di ds j d es] [l : Si sl i (some (.ins k es)) s] : Wg (setF i j) sl d s := ⟨wr_f h.go g.go l.go⟩
theorem rdC {get : Sl → Option D} {sl : Sl} {d : D} [h : Rg get sl d] : Rd2 get sl d := h.go
theorem wrC {set : Sl → D → Sl} {sl s : Sl} {d : D} [h : Wg set sl d s] : Wr set sl d s := h.go
/-! ### constructs -/
class Sp1 {α : Type} (m : Sl → R α) (P : outParam (Sl → R α → Prop)) : Prop where
  go : ∀ sl r, P sl r → m sl = r
theorem stp {α : Type} {m : Sl → R α} {P : Sl → R α → Prop} [i : Sp1 m P] {sl : Sl} {r : R α} (h : P sl r) : m sl = r := i.go sl r h
section
variable {m m1 m2 me mk mv mx : ME} {n mi : MA} {t t1 t2 mt : MT} {ms ms1 ms2 : MS} {i j k np : Nat} {f f' : D → D → Option D} {fl : List D → Option D} {ok : D → Bool} {fm : D → List D → Option D} {lo hi : Sl → R (Option Int)} {μ : Ms} {F : Sl → R D} {mg : MG} {vs : List Nat} {get : Sl → Option D} {set : Sl → D → Sl}
inductive P_mVar (i : Nat) : Sl → R D → Prop
  | mk {sl : Sl} {d : D} [_h : Gi sl i (some d)] : P_mVar i sl (.ok d sl)
instance {i : Nat} : Sp1 (mVar i) (P_mVar i) := ⟨fun _ _ h => by
  cases h with
  | mk  => exact r_var Gi.go⟩
inductive P_mC (d : D) : Sl → R D → Prop
  | mk {sl : Sl} : P_mC d sl (.ok d sl)
instance {d : D} : Sp1 (mC d) (P_mC d) := ⟨fun _ _ h => by
  cases h with
  | mk  => exact r_c⟩
inductive P_mOp (f : D → D → Option D) (m1 : ME) (m2 : ME) : Sl → R D → Prop
  | mk {sl s1 s2 : Sl} {x y z : D} : m1 sl = .ok x s1 → m2 s1 = .ok y s2 → f x y = some z → P_mOp f m1 m2 sl (.ok z s2)
instance {f : D → D → Option D} {m1 : ME} {m2 : ME} : Sp1 (mOp f m1 m2) (P_mOp f m1 m2) := ⟨fun _ _ h => by
  cases h with
  | mk h1 h2 h3 => exact r_op h1 h2 h3⟩
inductive P_mTest (m : ME) : Sl → R Bool → Prop
  | mk {sl s : Sl} {b : Bool} : m sl = .ok (.bl b) s → P_mTest m sl (.ok b s)
instance {m : ME} : Sp1 (mTest m) (P_mTest m) := ⟨fun _ _ h => by
  cases h with
  | mk h1 => exact r_test h1⟩
inductive P_mAnd (t1 : MT) (t2 : MT) : Sl → R Bool → Prop
  | mk {sl s : Sl} {b : Bool} {u : R Bool} : t1 sl = .ok b s → cIf b (t2 s) (.ok false s) = u → P_mAnd t1 t2 sl (u)
instance {t1 : MT} {t2 : MT} : Sp1 (mAnd t1 t2) (P_mAnd t1 t2) := ⟨fun _ _ h => by
  cases h with
  | mk h1 h2 => exact r_and h1 h2⟩
inductive P_mOr (t1 : MT) (t2 : MT) : Sl → R Bool → Prop
  | mk {sl s : Sl} {b : Bool} {u : R Bool} : t1 sl = .ok b s → cIf b (.ok true s) (t2 s) = u → P_mOr t1 t2 sl (u)
instance {t1 : MT} {t2 : MT} : Sp1 (mOr t1 t2) (P_mOr t1 t2) := ⟨fun _ _ h => by
  cases h with
  | mk h1 h2 => exact r_or h1 h2⟩
inductive P_mNot (t : MT) : Sl → R Bool → Prop
  | mk {sl s : Sl} {b : Bool} : t sl = .ok b s → P_mNot t sl (.ok (!b) s)
instance {t : MT} : Sp1 (mNot t) (P_mNot t) := ⟨fun _ _ h => by
  cases h with
  | mk h1 => exact r_not h1⟩
inductive P_mAndV (m1 : ME) (m2 : ME) : Sl → R D → Prop
  | mk {sl s : Sl} {b : Bool} {u : R D} : m1 sl = .ok (.bl b) s → cIf b (m2 s) (.ok (.bl false) s) = u → P_mAndV m1 m2 sl (u)
instance {m1 : ME} {m2 : ME} : Sp1 (mAndV m1 m2) (P_mAndV m1 m2) := ⟨fun _ _ h => by
  cases h with
  | mk h1 h2 => exact r_andV h1 h2⟩
inductive P_mOrV (m1 : ME) (m2 : ME) : Sl → R D → Prop
  | mk {sl s : Sl} {b : Bool} {u : R D} : m1 sl = .ok (.bl b) s → cIf b (.ok (.bl true) s) (m2 s) = u → P_mOrV m1 m2 sl (u)
instance {m1 : ME} {m2 : ME} : Sp1 (mOrV m1 m2) (P_mOrV m1 m2) := ⟨fun _ _ h => by
  cases h with
  | mk h1 h2 => exact r_orV h1 h2⟩
inductive P_mNotV (m : ME) : Sl → R D → Prop
  | mk {sl s : Sl} {b : Bool} : m sl = .ok (.bl b) s → P_mNotV m sl (.ok (.bl (!b)) s)
instance {m : ME} : Sp1 (mNotV m) (P_mNotV m) := ⟨fun _ _ h => by
  cases h with
  | mk h1 => exact r_notV h1⟩
inductive P_mIfE (t : MT) (m1 : ME) (m2 : ME) : Sl → R D → Prop
  | mk {sl s : Sl} {b : Bool} {u : R D} : t sl = .ok b s → cIf b (m1 s) (m2 s) = u → P_mIfE t m1 m2 sl (u)
instance {t : MT} {m1 : ME} {m2 : ME} : Sp1 (mIfE t m1 m2) (P_mIfE t m1 m2) := ⟨fun _ _ h => by
  cases h with
  | mk h1 h2 => exact r_ifE h1 h2⟩
inductive P_mNil  : Sl → R (List D) → Prop
  | mk {sl : Sl} : P_mNil  sl (.ok [] sl)
instance  : Sp1 mNil P_mNil := ⟨fun _ _ h => by
  cases h with
  | mk  => exact r_nil⟩
inductive P_mCons (m : ME) (n : MA) : Sl → R (List D) → Prop
  | mk {sl s1 s2 : Sl} {d : D} {ds : List D} : m sl = .ok d s1 → n s1 = .ok ds s2 → P_mCons m n sl (.ok (d :: ds) s2)
instance {m : ME} {n : MA} : Sp1 (mCons m n) (P_mCons m n) := ⟨fun _ _ h => by
  cases h with
  | mk h1 h2 => exact r_cons h1 h2⟩
inductive P_mTup (n : MA) : Sl → R D → Prop
  | mk {sl s : Sl} {ds : List D} : n sl = .ok ds s → ds.length ≤ LB → P_mTup n sl (.ok (.tup ds) s)
instance {n : MA} : Sp1 (mTup n) (P_mTup n) := ⟨fun _ _ h => by
  cases h with
  | mk h1 h2 => exact r_tup h1 h2⟩
inductive P_mLst (n : MA) : Sl → R D → Prop
  | mk {sl s : Sl} {ds : List D} : n sl = .ok ds s → ds.length ≤ LB → P_mLst n sl (.ok (.lst ds) s)
instance {n : MA} : Sp1 (mLst n) (P_mLst n) := ⟨fun _ _ h => by
  cases h with
  | mk h1 h2 => exact r_lst h1 h2⟩
inductive P_mCall (fl : List D → Option D) (n : MA) : Sl → R D → Prop
  | mk {sl s : Sl} {ds : List D} {z : D} : n sl = .ok ds s → fl ds = some z → P_mCall fl n sl (.ok z s)
instance {fl : List D → Option D} {n : MA} : Sp1 (mCall fl n) (P_mCall fl n) := ⟨fun _ _ h => by
  cases h with
  | mk h1 h2 => exact r_call h1 h2⟩
inductive P_mMeth (ok : D → Bool) (fm : D → List D → Option D) (m : ME) (n : MA) : Sl → R D → Prop
  | mk {sl s1 s2 : Sl} {ds : List D} {x z : D} : m sl = .ok x s1 → ok x = true → n s1 = .ok ds s2 → fm x ds = some z → P_mMeth ok fm m n sl (.ok z s2)
instance {ok : D → Bool} {fm : D → List D → Option D} {m : ME} {n : MA} : Sp1 (mMeth ok fm m n) (P_mMeth ok fm m n) := ⟨fun _ _ h => by
  cases h with
  | mk h1 h2 h3 h4 => exact r_meth h1 h2 h3 h4⟩
inductive P_mNoPart  : Sl → R (Option Int) → Prop
  | mk {sl : Sl} : P_mNoPart  sl (.ok none sl)
instance  : Sp1 mNoPart P_mNoPart := ⟨fun _ _ h => by
  cases h with
  | mk  => exact r_noPart⟩
inductive P_mPart (m : ME) : Sl → R (Option Int) → Prop
  | mk {sl s : Sl} {i : Int} : m sl = .ok (.int i) s → P_mPart m sl (.ok (some i) s)
instance {m : ME} : Sp1 (mPart m) (P_mPart m) := ⟨fun _ _ h => by
  cases h with
  | mk h1 => exact r_part h1⟩
inductive P_mSl (m : ME) (lo : Sl → R (Option Int)) (hi : Sl → R (Option Int)) : Sl → R D → Prop
  | mk {sl s1 s2 s3 : Sl} {a c : Option Int} {x z : D} : m sl = .ok x s1 → lo s1 = .ok a s2 → hi s2 = .ok c s3 → fSl x a c = some z → P_mSl m lo hi sl (.ok z s3)
instance {m : ME} {lo : Sl → R (Option Int)} {hi : Sl → R (Option Int)} : Sp1 (mSl m lo hi) (P_mSl m lo hi) := ⟨fun _ _ h => by
  cases h with
  | mk h1 h2 h3 h4 => exact r_sl h1 h2 h3 h4⟩
inductive P_mFz (m : ME) : Sl → R D → Prop
  | mk {sl s : Sl} {d : D} : m sl = .ok d s → isLD d = true → P_mFz m sl (.ok d s)
instance {m : ME} : Sp1 (mFz m) (P_mFz m) := ⟨fun _ _ h => by
  cases h with
  | mk h1 h2 => exact r_fz h1 h2⟩
inductive P_mFzI (k : Nat) (m : ME) : Sl → R D → Prop
  | mk {sl s : Sl} {d : D} : m sl = .ok d s → isIns k d = true → P_mFzI k m sl (.ok d s)
instance {k : Nat} {m : ME} : Sp1 (mFzI k m) (P_mFzI k m) := ⟨fun _ _ h => by
  cases h with
  | mk h1 h2 => exact r_fzI h1 h2⟩
inductive P_mDnew  : Sl → R D → Prop
  | mk {sl : Sl} : P_mDnew  sl (.ok (.dic []) sl)
instance  : Sp1 mDnew P_mDnew := ⟨fun _ _ h => by
  cases h with
  | mk  => exact r_dnew⟩
inductive P_mFld (k : Nat) (j : Nat) (m : ME) : Sl → R D → Prop
  | mk {sl s : Sl} {d z : D} : m sl = .ok d s → dFld k j d = some z → P_mFld k j m sl (.ok z s)
instance {k : Nat} {j : Nat} {m : ME} : Sp1 (mFld k j m) (P_mFld k j m) := ⟨fun _ _ h => by
  cases h with
  | mk h1 h2 => exact r_fld h1 h2⟩
inductive P_mFldO (i : Nat) (k : Nat) (j : Nat) : Sl → R D → Prop
  | mk {sl : Sl} {d z : D} [_h : Gi sl i (some d)] : dFld k j d = some z → P_mFldO i k j sl (.ok z sl)
instance {i : Nat} {k : Nat} {j : Nat} : Sp1 (mFldO i k j) (P_mFldO i k j) := ⟨fun _ _ h => by
  cases h with
  | mk h1 => exact r_fldO Gi.go h1⟩
inductive P_mBor (μ : Ms) (i : Nat) (m : ME) : Sl → R D → Prop
  | mk {sl s1 s2 : Sl} {x d : D} [_h : Gi sl i (some x)] [_k : Ki μ (some i) sl s1] : m s1 = .ok d s2 → flatT d = true → P_mBor μ i m sl (.ok d sl)
instance {μ : Ms} {i : Nat} {m : ME} : Sp1 (mBor μ i m) (P_mBor μ i m) := ⟨fun _ _ h => by
  cases h with
  | mk h1 h2 => exact r_bor Gi.go mkC h1 h2⟩
inductive P_mBorT (μ : Ms) (i : Nat) (t : MT) : Sl → R Bool → Prop
  | mk {sl s1 s2 : Sl} {x : D} {b : Bool} [_h : Gi sl i (some x)] [_k : Ki μ (some i) sl s1] : t s1 = .ok b s2 → P_mBorT μ i t sl (.ok b sl)
instance {μ : Ms} {i : Nat} {t : MT} : Sp1 (mBorT μ i t) (P_mBorT μ i t) := ⟨fun _ _ h => by
  cases h with
  | mk h1 => exact r_borT Gi.go mkC h1⟩
inductive P_mMove (i : Nat) : Sl → R D → Prop
  | mk {sl s : Sl} {d : D} [_h : Gi sl i (some d)] [_k : Si sl i none s] : isLD d = true → P_mMove i sl (.ok d s)
instance {i : Nat} : Sp1 (mMove i) (P_mMove i) := ⟨fun _ _ h => by
  cases h with
  | mk h1 => exact r_move Gi.go h1 Si.go⟩
inductive P_mCallF (np : Nat) (F : Sl → R D) (n : MA) : Sl → R D → Prop
  | mk {sl s r l : Sl} {ds : List D} {d : D} : n sl = .ok ds s → ds.length = np → Ms2 ds l → F l = .ok d r → P_mCallF np F n sl (.ok d s)
instance {np : Nat} {F : Sl → R D} {n : MA} : Sp1 (mCallF np F n) (P_mCallF np F n) := ⟨fun _ _ h => by
  cases h with
  | mk h1 h2 h3 h4 => exact r_callF h1 h2 h3 h4⟩
inductive P_mMethF (k : Nat) (np : Nat) (F : Sl → R D) (m : ME) (n : MA) : Sl → R D → Prop
  | mk {sl s1 s2 r l : Sl} {ds : List D} {x d : D} : m sl = .ok x s1 → isIns k x = true → n s1 = .ok ds s2 → ds.length + 1 = np → Ms2 (x :: ds) l → F l = .ok d r → P_mMethF k np F m n sl (.ok d s2)
instance {k : Nat} {np : Nat} {F : Sl → R D} {m : ME} {n : MA} : Sp1 (mMethF k np F m n) (P_mMethF k np F m n) := ⟨fun _ _ h => by
  cases h with
  | mk h1 h2 h3 h4 h5 h6 => exact r_methF h1 h2 h3 h4 h5 h6⟩
inductive P_mMethT (k : Nat) (np : Nat) (F : Sl → R D) (m : ME) (n : MA) : Sl → R D → Prop
  | mk {sl s1 s2 r l : Sl} {ds : List D} {x d : D} : m sl = .ok x s1 → isIns k x = true → n s1 = .ok ds s2 → ds.length + 1 = np → Ms2 (x :: ds) l → F l = .ok d r → P_mMethT k np F m n sl (.ok d s2)
instance {k : Nat} {np : Nat} {F : Sl → R D} {m : ME} {n : MA} : Sp1 (mMethT k np F m n) (P_mMethT k np F m n) := ⟨fun _ _ h => by
  cases h with
  | mk h1 h2 h3 h4 h5 h6 => exact r_methT h1 h2 h3 h4 h5 h6⟩
inductive P_mCallI (i : Nat) (np : Nat) (F : Sl → R D) (n : MA) : Sl → R D → Prop
  | mk {sl s s2 r l : Sl} {ds : List D} {x0 d0 d1 d : D} [_h : Gi sl i (some x0)] : n sl = .ok ds s → Gt s i d0 → ds.length + 1 = np → Ms2 (d0 :: ds) l → F l = .ok d (some d1 :: r) → St2 s i (some d1) s2 → P_mCallI i np F n sl (.ok d s2)
instance {i : Nat} {np : Nat} {F : Sl → R D} {n : MA} : Sp1 (mCallI i np F n) (P_mCallI i np F n) := ⟨fun _ _ h => by
  cases h with
  | mk h1 h2 h3 h4 h5 h6 => exact r_callI Gi.go h1 h2 h3 h4 h5 h6⟩
inductive P_mMethI (i : Nat) (k : Nat) (np : Nat) (F : Sl → R D) (n : MA) : Sl → R D → Prop
  | mk {sl s s2 r l : Sl} {ds : List D} {x0 d0 d1 d : D} [_h : Gi sl i (some x0)] : isIns k x0 = true → n sl = .ok ds s → Gt s i d0 → ds.length + 1 = np → Ms2 (d0 :: ds) l → F l = .ok d (some d1 :: r) → St2 s i (some d1) s2 → P_mMethI i k np F n sl (.ok d s2)
instance {i : Nat} {k : Nat} {np : Nat} {F : Sl → R D} {n : MA} : Sp1 (mMethI i k np F n) (P_mMethI i k np F n) := ⟨fun _ _ h => by
  cases h with
  | mk h1 h2 h3 h4 h5 h6 h7 => exact r_methI Gi.go h1 h2 h3 h4 h5 h6 h7⟩
inductive P_mCallL (i : Nat) (np : Nat) (F : Sl → R D) (n : MA) : Sl → R D → Prop
  | mk {sl s s2 r l : Sl} {ds es : List D} {x0 d0 d1 d : D} [_h : Gi sl i (some x0)] : n sl = .ok ds s → Gt s i d0 → ds.length + 1 = np → Sn ds d0 es → Ms2 es l → F l = .ok d r → Gt r (np - 1) d1 → St2 s i (some d1) s2 → P_mCallL i np F n sl (.ok d s2)
instance {i : Nat} {np : Nat} {F : Sl → R D} {n : MA} : Sp1 (mCallL i np F n) (P_mCallL i np F n) := ⟨fun _ _ h => by
  cases h with
  | mk h1 h2 h3 h4 h5 h6 h7 h8 => exact r_callL Gi.go h1 h2 h3 h4 h5 h6 h7 h8⟩
inductive P_mMake (k : Nat) (np : Nat) (F : Sl → R D) (n : MA) : Sl → R D → Prop
  | mk {sl s r l : Sl} {ds : List D} {d1 : D} : n sl = .ok ds s → ds.length + 1 = np → Ms2 (.ins k [] :: ds) l → F l = .ok .non (some d1 :: r) → P_mMake k np F n sl (.ok d1 s)
instance {k : Nat} {np : Nat} {F : Sl → R D} {n : MA} : Sp1 (mMake k np F n) (P_mMake k np F n) := ⟨fun _ _ h => by
  cases h with
  | mk h1 h2 h3 h4 => exact r_make h1 h2 h3 h4⟩
inductive P_mIsi (ty : Ty) (m : ME) : Sl → R D → Prop
  | mk {sl s : Sl} {x z : D} : m sl = .ok x s → fIsi ty x = some z → P_mIsi ty m sl (.ok z s)
instance {ty : Ty} {m : ME} : Sp1 (mIsi ty m) (P_mIsi ty m) := ⟨fun _ _ h => by
  cases h with
  | mk h1 h2 => exact r_isi h1 h2⟩
inductive P_mRevS (m : ME) : Sl → R D → Prop
  | mk {sl s : Sl} {l : T} : m sl = .ok (.str l) s → P_mRevS m sl (.ok (.str l.reverse) s)
instance {m : ME} : Sp1 (mRevS m) (P_mRevS m) := ⟨fun _ _ h => by
  cases h with
  | mk h1 => exact r_revS h1⟩
inductive P_mNeg (m : ME) : Sl → R D → Prop
  | mk {sl s : Sl} {i : Int} : m sl = .ok (.int i) s → P_mNeg m sl (.ok (.int (-i)) s)
instance {m : ME} : Sp1 (mNeg m) (P_mNeg m) := ⟨fun _ _ h => by
  cases h with
  | mk h1 => exact r_neg h1⟩
inductive P_mLenSetT (m : ME) : Sl → R D → Prop
  | mk {sl s : Sl} {l : T} : m sl = .ok (.str l) s → l.length ≤ 1000 → P_mLenSetT m sl (.ok (.int ((dedT l).length : Nat)) s)
instance {m : ME} : Sp1 (mLenSetT m) (P_mLenSetT m) := ⟨fun _ _ h => by
  cases h with
  | mk h1 h2 => exact r_lenSetT h1 h2⟩
inductive P_mGet2 (m : ME) (mk : ME) (mx : ME) : Sl → R D → Prop
  | mk {sl s1 s2 s3 : Sl} {kv : List (KD × D)} {kk : KD} {k z w : D} : m sl = .ok (.dic kv) s1 → mk s1 = .ok k s2 → mx s2 = .ok z s3 → kd k = some kk → (lookD kv kk).getD z = w → P_mGet2 m mk mx sl (.ok w s3)
instance {m : ME} {mk : ME} {mx : ME} : Sp1 (mGet2 m mk mx) (P_mGet2 m mk mx) := ⟨fun _ _ h => by
  cases h with
  | mk h1 h2 h3 h4 h5 => exact r_get2E h1 h2 h3 h4 h5⟩
inductive P_mChain (f : D → D → Option D) (f' : D → D → Option D) (m : ME) (m1 : ME) (m2 : ME) : Sl → R D → Prop
  | mk {sl s1 s2 : Sl} {x y : D} {u : R D} {b : Bool} : m sl = .ok x s1 → m1 s1 = .ok y s2 → f x y = some (.bl b) → cIf b (mOp f' (mC y) m2 s2) (.ok (.bl false) s2) = u → P_mChain f f' m m1 m2 sl (u)
instance {f : D → D → Option D} {f' : D → D → Option D} {m : ME} {m1 : ME} {m2 : ME} : Sp1 (mChain f f' m m1 m2) (P_mChain f f' m m1 m2) := ⟨fun _ _ h => by
  cases h with
  | mk h1 h2 h3 h4 => exact r_chain h1 h2 h3 h4⟩
inductive P_mItems (m : ME) : Sl → R (List D) → Prop
  | mk {sl s : Sl} {d : D} {ds : List D} : m sl = .ok d s → itemsOf d = some ds → P_mItems m sl (.ok ds s)
instance {m : ME} : Sp1 (mItems m) (P_mItems m) := ⟨fun _ _ h => by
  cases h with
  | mk h1 h2 => exact r_items h1 h2⟩
inductive P_mRng1 (n : MA) : Sl → R (List D) → Prop
  | mk {sl s : Sl} {j : Int} : n sl = .ok [.int j] s → -(2 ^ 62) ≤ j ∧ j ≤ 1000000 → P_mRng1 n sl (.ok (rangeD 0 j.toNat) s)
instance {n : MA} : Sp1 (mRng1 n) (P_mRng1 n) := ⟨fun _ _ h => by
  cases h with
  | mk h1 h2 => exact r_rng1 h1 h2⟩
inductive P_mRng2 (n : MA) : Sl → R (List D) → Prop
  | mk {sl s : Sl} {i j : Int} : n sl = .ok [.int i, .int j] s → 0 ≤ i ∧ i ≤ 1000000 ∧ -(2 ^ 62) ≤ j ∧ j ≤ 1000000 → P_mRng2 n sl (.ok (rangeD i (j - i).toNat) s)
instance {n : MA} : Sp1 (mRng2 n) (P_mRng2 n) := ⟨fun _ _ h => by
  cases h with
  | mk h1 h2 => exact r_rng2 h1 h2⟩
inductive P_mRev (n : MA) : Sl → R (List D) → Prop
  | mk {sl s : Sl} {xs : List D} : n sl = .ok [.lst xs] s → P_mRev n sl (.ok xs.reverse s)
instance {n : MA} : Sp1 (mRev n) (P_mRev n) := ⟨fun _ _ h => by
  cases h with
  | mk h1 => exact r_rev h1⟩
inductive P_mLc (mi : MA) (vs : List Nat) (mg : MG) (mt : MT) (me : ME) : Sl → R D → Prop
  | mk {sl s s2 : Sl} {ds ys : List D} : mi sl = .ok ds s → lcGo vs mg mt me ds s [] = .ok ys s2 → P_mLc mi vs mg mt me sl (.ok (.lst ys) s2)
instance {mi : MA} {vs : List Nat} {mg : MG} {mt : MT} {me : ME} : Sp1 (mLc mi vs mg mt me) (P_mLc mi vs mg mt me) := ⟨fun _ _ h => by
  cases h with
  | mk h1 h2 => exact r_lc h1 h2⟩
inductive P_mLcK (i : Nat) (vs : List Nat) (mg : MG) (mt : MT) (me : ME) : Sl → R D → Prop
  | mk {sl s2 : Sl} {kv : List (KD × D)} {ys : List D} : Gt sl i (.dic kv) → (kv.all fun p => keyOk p.1) = true → lcGo vs mg mt me (kv.map fun p => keyD p.1) sl [] = .ok ys s2 → P_mLcK i vs mg mt me sl (.ok (.lst ys) s2)
instance {i : Nat} {vs : List Nat} {mg : MG} {mt : MT} {me : ME} : Sp1 (mLcK i vs mg mt me) (P_mLcK i vs mg mt me) := ⟨fun _ _ h => by
  cases h with
  | mk h1 h2 h3 => exact r_lcK h1 h2 h3⟩
inductive P_mMoveFld (i : Nat) (k : Nat) (j : Nat) : Sl → R D → Prop
  | mk {sl s : Sl} {d : D} : Rd2 (getF i k j) sl d → St2 sl i none s → P_mMoveFld i k j sl (.ok d s)
instance {i : Nat} {k : Nat} {j : Nat} : Sp1 (mMoveFld i k j) (P_mMoveFld i k j) := ⟨fun _ _ h => by
  cases h with
  | mk h1 h2 => exact r_moveFld h1 h2⟩
/-! statements -/
inductive P_mSkip  : Sl → R Fl → Prop
  | mk {sl : Sl} : P_mSkip  sl (.ok .nx sl)
instance  : Sp1 mSkip P_mSkip := ⟨fun _ _ h => by
  cases h with
  | mk  => exact r_skip⟩
inductive P_mSeq (ms : MS) (ms2 : MS) : Sl → R Fl → Prop
  | mk {sl : Sl} {u v : R Fl} : ms sl = u → cSeq u ms2 = v → P_mSeq ms ms2 sl (v)
instance {ms : MS} {ms2 : MS} : Sp1 (mSeq ms ms2) (P_mSeq ms ms2) := ⟨fun _ _ h => by
  cases h with
  | mk h1 h2 => exact r_seq h1 h2⟩
inductive P_mDrop (m : ME) : Sl → R Fl → Prop
  | mk {sl s : Sl} {d : D} : m sl = .ok d s → P_mDrop m sl (.ok .nx s)
instance {m : ME} : Sp1 (mDrop m) (P_mDrop m) := ⟨fun _ _ h => by
  cases h with
  | mk h1 => exact r_drop h1⟩
inductive P_mIf (t : MT) (ms : MS) (ms2 : MS) : Sl → R Fl → Prop
  | mk {sl s : Sl} {b : Bool} {v : R Fl} : t sl = .ok b s → cIf b (ms s) (ms2 s) = v → P_mIf t ms ms2 sl (v)
instance {t : MT} {ms : MS} {ms2 : MS} : Sp1 (mIf t ms ms2) (P_mIf t ms ms2) := ⟨fun _ _ h => by
  cases h with
  | mk h1 h2 => exact r_if h1 h2⟩
inductive P_mRet (m : ME) : Sl → R Fl → Prop
  | mk {sl s : Sl} {d : D} : m sl = .ok d s → P_mRet m sl (.ok (.rt d) s)
instance {m : ME} : Sp1 (mRet m) (P_mRet m) := ⟨fun _ _ h => by
  cases h with
  | mk h1 => exact r_ret h1⟩
inductive P_mAsg (m : ME) (mg : MG) : Sl → R Fl → Prop
  | mk {sl s s2 : Sl} {d : D} : m sl = .ok d s → mg d s = some s2 → P_mAsg m mg sl (.ok .nx s2)
instance {m : ME} {mg : MG} : Sp1 (mAsg m mg) (P_mAsg m mg) := ⟨fun _ _ h => by
  cases h with
  | mk h1 h2 => exact r_asg h1 h2⟩
inductive P_mSetO (m : ME) (i : Nat) : Sl → R Fl → Prop
  | mk {sl s s2 : Sl} {d : D} : m sl = .ok d s → Si s i (some d) s2 → P_mSetO m i sl (.ok .nx s2)
instance {m : ME} {i : Nat} : Sp1 (mSetO m i) (P_mSetO m i) := ⟨fun _ _ h => by
  cases h with
  | mk h1 h2 => exact r_setO h1 h2.lt h2.go⟩
inductive P_mFor (mi : MA) (mg : MG) (ms : MS) : Sl → R Fl → Prop
  | mk {sl s : Sl} {ds : List D} {v : R Fl} : mi sl = .ok ds s → forGo mg ms ds s = v → P_mFor mi mg ms sl (v)
instance {mi : MA} {mg : MG} {ms : MS} : Sp1 (mFor mi mg ms) (P_mFor mi mg ms) := ⟨fun _ _ h => by
  cases h with
  | mk h1 h2 => exact r_for h1 h2⟩
inductive P_mForK (i : Nat) (mg : MG) (ms : MS) : Sl → R Fl → Prop
  | mk {sl s2 : Sl} {kv : List (KD × D)} : Gt sl i (.dic kv) → (kv.all fun p => keyOk p.1) = true → forGo mg ms (kv.map fun p => keyD p.1) sl = .ok .nx s2 → P_mForK i mg ms sl (.ok .nx s2)
instance {i : Nat} {mg : MG} {ms : MS} : Sp1 (mForK i mg ms) (P_mForK i mg ms) := ⟨fun _ _ h => by
  cases h with
  | mk h1 h2 h3 => exact r_forK h1 h2 h3⟩
inductive P_mRetMove (i : Nat) : Sl → R Fl → Prop
  | mk {sl s : Sl} {d : D} [_h : Gi sl i (some d)] [_k : Si sl i none s] : P_mRetMove i sl (.ok (.rt d) s)
instance {i : Nat} : Sp1 (mRetMove i) (P_mRetMove i) := ⟨fun _ _ h => by
  cases h with
  | mk  => exact r_retMove Gi.go Si.go⟩
inductive P_mRetFld (i : Nat) (k : Nat) (j : Nat) : Sl → R Fl → Prop
  | mk {sl s : Sl} {d : D} : Rd2 (getF i k j) sl d → St2 sl i none s → P_mRetFld i k j sl (.ok (.rt d) s)
instance {i : Nat} {k : Nat} {j : Nat} : Sp1 (mRetFld i k j) (P_mRetFld i k j) := ⟨fun _ _ h => by
  cases h with
  | mk h1 h2 => exact r_retFld h1 h2⟩
inductive P_mApp (get : Sl → Option D) (set : Sl → D → Sl) (m : ME) : Sl → R Fl → Prop
  | mk {sl s s2 : Sl} {d : D} {ds ds0 : List D} : Rd2 get sl (.lst ds0) → m sl = .ok d s → Rd2 get s (.lst ds) → ds.length < LB → Wr set s (.lst (ds ++ [d])) s2 → P_mApp get set m sl (.ok .nx s2)
instance {get : Sl → Option D} {set : Sl → D → Sl} {m : ME} : Sp1 (mApp get set m) (P_mApp get set m) := ⟨fun _ _ h => by
  cases h with
  | mk h1 h2 h3 h4 h5 => exact r_app h1 h2 h3 h4 h5⟩
inductive P_mClear (get : Sl → Option D) (set : Sl → D → Sl) : Sl → R Fl → Prop
  | mk {sl s : Sl} {ds : List D} : Rd2 get sl (.lst ds) → Wr set sl (.lst []) s → P_mClear get set sl (.ok .nx s)
instance {get : Sl → Option D} {set : Sl → D → Sl} : Sp1 (mClear get set) (P_mClear get set) := ⟨fun _ _ h => by
  cases h with
  | mk h1 h2 => exact r_clear h1 h2⟩
inductive P_mPut (get : Sl → Option D) (set : Sl → D → Sl) (mv : ME) (mk : ME) : Sl → R Fl → Prop
  | mk {sl s s1 s2 : Sl} {d k : D} {kk : KD} {kv0 kv kv2 : List (KD × D)} : mv sl = .ok d s → Rd2 get s (.dic kv0) → mk s = .ok k s1 → Rd2 get s1 (.dic kv) → kd k = some kk → kv.length < LB → putD kv kk d = kv2 → Wr set s1 (.dic kv2) s2 → P_mPut get set mv mk sl (.ok .nx s2)
instance {get : Sl → Option D} {set : Sl → D → Sl} {mv : ME} {mk : ME} : Sp1 (mPut get set mv mk) (P_mPut get set mv mk) := ⟨fun _ _ h => by
  cases h with
  | mk h1 h2 h3 h4 h5 h6 h7 h8 => exact r_put h1 h2 h3 h4 h5 h6 h7 h8⟩
inductive P_mPopD (get : Sl → Option D) (set : Sl → D → Sl) (mk : ME) : Sl → R Fl → Prop
  | mk {sl s s2 : Sl} {k : D} {kk : KD} {kv0 kv kv2 : List (KD × D)} : Rd2 get sl (.dic kv0) → mk sl = .ok k s → Rd2 get s (.dic kv) → kd k = some kk → (lookD kv kk).isSome = true → dropD kv kk = kv2 → Wr set s (.dic kv2) s2 → P_mPopD get set mk sl (.ok .nx s2)
instance {get : Sl → Option D} {set : Sl → D → Sl} {mk : ME} : Sp1 (mPopD get set mk) (P_mPopD get set mk) := ⟨fun _ _ h => by
  cases h with
  | mk h1 h2 h3 h4 h5 h6 h7 => exact r_popD h1 h2 h3 h4 h5 h6 h7⟩
inductive P_mSetL (get : Sl → Option D) (set : Sl → D → Sl) (mv : ME) (mk : ME) : Sl → R Fl → Prop
  | mk {sl s s1 s2 : Sl} {d : D} {ds ds0 : List D} {i : Int} {j : Nat} : mv sl = .ok d s → Rd2 get s (.lst ds0) → mk s = .ok (.int i) s1 → Rd2 get s1 (.lst ds) → ixN ds.length i = some j → Wr set s1 (.lst (ds.set j d)) s2 → P_mSetL get set mv mk sl (.ok .nx s2)
instance {get : Sl → Option D} {set : Sl → D → Sl} {mv : ME} {mk : ME} : Sp1 (mSetL get set mv mk) (P_mSetL get set mv mk) := ⟨fun _ _ h => by
  cases h with
  | mk h1 h2 h3 h4 h5 h6 => exact r_setL h1 h2 h3 h4 h5 h6⟩
inductive P_mSetFld (i : Nat) (k : Nat) (j : Nat) (m : ME) : Sl → R Fl → Prop
  | mk {sl s s2 : Sl} {d : D} {ds : List D} : m sl = .ok d s → Gt s i (.ins k ds) → ds.length = j → St2 s i (some (.ins k (ds ++ [d]))) s2 → P_mSetFld i k j m sl (.ok .nx s2)
instance {i : Nat} {k : Nat} {j : Nat} {m : ME} : Sp1 (mSetFld i k j m) (P_mSetFld i k j m) := ⟨fun _ _ h => by
  cases h with
  | mk h1 h2 h3 h4 => exact r_setFld h1 h2 h3 h4⟩
inductive P_mSetFldO (i : Nat) (k : Nat) (j : Nat) (m : ME) : Sl → R Fl → Prop
  | mk {sl s s2 : Sl} {d : D} {ds : List D} : m sl = .ok d s → Gt s i (.ins k ds) → ds.length = j → isLD d = true → St2 s i (some (.ins k (ds ++ [d]))) s2 → P_mSetFldO i k j m sl (.ok .nx s2)
instance {i : Nat} {k : Nat} {j : Nat} {m : ME} : Sp1 (mSetFldO i k j m) (P_mSetFldO i k j m) := ⟨fun _ _ h => by
  cases h with
  | mk h1 h2 h3 h4 h5 => exact r_setFldO h1 h2 h3 h4 h5⟩
end
/-! ### targets -/
class Sg {α : Type} (g : α → Sl → Option Sl) (P : outParam (α → Sl → Option Sl → Prop)) : Prop where
  go : ∀ d sl r, P d sl r → g d sl = r
theorem stg {α : Type} {g : α → Sl → Option Sl} {P : α → Sl → Option Sl → Prop} [i : Sg g P] {d : α} {sl : Sl} {r : Option Sl} (h : P d sl r) : g d sl = r := i.go d sl r h
inductive P_gmName (i : Nat) : D → Sl → Option Sl → Prop
  | mk {d : D} {sl s : Sl} [_h : Si sl i (some d) s] : P_gmName i d sl (some s)
instance {i : Nat} : Sg (gmName i) (P_gmName i) := ⟨fun _ _ _ h => by
  cases h with
  | mk  => exact g_name Si.go⟩
inductive P_gmNil  : List D → Sl → Option Sl → Prop
  | mk {sl : Sl} : P_gmNil  [] sl (some sl)
instance  : Sg gmNil P_gmNil := ⟨fun _ _ _ h => by
  cases h with
  | mk  => exact g_nil⟩
inductive P_gmCons (g : MG) (gs : MGs) : List D → Sl → Option Sl → Prop
  | mk {d : D} {ds : List D} {sl s s2 : Sl} : g d sl = some s → gs ds s = some s2 → P_gmCons g gs (d :: ds) sl (some s2)
instance {g : MG} {gs : MGs} : Sg (gmCons g gs) (P_gmCons g gs) := ⟨fun _ _ _ h => by
  cases h with
  | mk h1 h2 => exact g_cons h1 h2⟩
inductive P_gmTup (k : Nat) (gs : MGs) : D → Sl → Option Sl → Prop
  | mk {d : D} {ds : List D} {sl s : Sl} : d = .tup ds → ds.length = k → gs ds sl = some s → P_gmTup k gs d sl (some s)
instance {k : Nat} {gs : MGs} : Sg (gmTup k gs) (P_gmTup k gs) := ⟨fun _ _ _ h => by
  cases h with
  | mk h1 h2 h3 => exact g_tupE h1 h2 h3⟩
theorem wr_fC {i k j : Nat} {sl s : Sl} {ds es : List D} {d : D} (h : Gt sl i (.ins k ds)) (hd : Sd ds j d es) (hs : St2 sl i (some (.ins k es)) s) : Wr (setF i j) sl d s := wr_f h hd hs
end MM

set_option Elab.async false
set_option linter.all false
set_option maxRecDepth 100000
set_option maxHeartbeats 2000000
/-! The value layer, part z: an owned slot is frozen for the rest of a def. -/
namespace MM
open PySem PySem.Spec PyProof.Rows L2
section
variable {c : CI} {X : Cx} {μ μ' : Ms} {ρ : Bool} {W : WX} {t : TS} {m : MS} {i : Nat}
def wipeR (i : Nat) : R Fl → R Fl
  | .ok f s => .ok f (s.set i none)
  | .exc k fs s => .exc k fs (s.set i none)
  | .err => .err
/-- from here on slot i is read alone -/
def mFreeze (i : Nat) (m : MS) : MS := fun sl => match sl[i]? with
  | some (some d) => if isLD d = true then wipeR i (m sl) else .err
  | _ => .err
/-- modes alike but for slot i, which is frozen in the second -/
def MdF (μ μ' : Ms) (i : Nat) : Prop := mdOf μ' i = .frz ∧ ∀ j, j ≠ i → mdOf μ' j = mdOf μ j
theorem Re.freeze {F H : Hp} {σ : St} {sl : Sl} {O : Os} {v : V} {d : D} (hm : MdF μ μ' i) (re : Re c μ F H σ (sl.set i none) O) (hs : sl[i]? = some (some d)) (hv : σ[i]? = some (some v)) (hr : Rp c F v d) (hO : O i = []) : Re c μ' F H σ sl O where
  ag := re.ag
  len := by have := re.len; rw [List.length_set] at this; exact this
  at_ := fun j d2 h => by
    by_cases q : i = j
    · subst q
      rw [hs] at h
      cases h
      rw [hm.1]
      exact ⟨v, hv, hr, hO⟩
    · rw [hm.2 j (Ne.symm q)]
      exact re.at_ j d2 (by rw [List.getElem?_set_ne q]; exact h)
  emp := fun j h => by
    by_cases q : i = j
    · subst q
      exact hO
    · exact re.emp j fun d2 h2 => h d2 (by rw [List.getElem?_set_ne q] at h2; exact h2)
  dis := re.dis
  fre := re.fre
theorem Re.thaw {F H : Hp} {σ : St} {sl : Sl} {O : Os} (hm : MdF μ μ' i) (re : Re c μ' F H σ sl O) : Re c μ F H σ (sl.set i none) O where
  ag := re.ag
  len := by rw [List.length_set]; exact re.len
  at_ := fun j d h => by
    by_cases q : i = j
    · subst q
      by_cases hl : i < sl.length
      · rw [List.getElem?_set_self hl] at h; cases h
      · rw [List.getElem?_eq_none (by rw [List.length_set]; omega)] at h; cases h
    · rw [List.getElem?_set_ne q] at h
      rw [← hm.2 j (Ne.symm q)]
      exact re.at_ j d h
  emp := fun j h => by
    by_cases q : i = j
    · subst q
      by_cases e : ∃ d, sl[i]? = some (some d)
      · obtain ⟨d, e⟩ := e
        obtain ⟨v, _, h2⟩ := re.at_ i d e
        rw [hm.1] at h2
        exact h2.2
      · exact re.emp i fun d h => e ⟨d, h⟩
    · exact re.emp j fun d h2 => h d (by rw [List.getElem?_set_ne q]; exact h2)
  dis := re.dis
  fre := re.fre
theorem Pin.thaw {σ σ' : St} (hm : MdF μ μ' i) (ho : mdOf μ i = .own) (p : Pin μ' σ σ') : Pin μ σ σ' := fun j h1 h2 => by
  have q : j ≠ i := fun z => h2 (by rw [z]; exact ho)
  exact p j (by rw [hm.2 j q]; exact h1) (by rw [hm.2 j q]; exact h2)
theorem st_freeze (hm : MdF μ μ' i) (ho : mdOf μ i = .own) (h : StM c μ' ρ W t m) : StM c μ ρ W t (mFreeze i m) := by
  intro σ H F O sl E re g
  unfold mFreeze at g
  split at g
  · rename_i d e
    by_cases hd : isLD d = true
    · rw [if_pos hd] at g
      obtain ⟨v, h1, ow⟩ := re.own (.inl ho) e
      have own : ∃ a, O i = [a] ∧ Ow1 c F H v d a := by
        generalize O i = L at ow
        cases ow with
        | one h => exact ⟨_, rfl, h⟩
        | ins _ _ _ _ _ => cases hd
      obtain ⟨a, eO, hw⟩ := own
      obtain ⟨o, e1, q⟩ := hw.freeze
      have ha : a ∈ O i := by rw [eO]; exact List.mem_singleton.mpr rfl
      have hf := re.fre i a ha
      have re2 := re.emptied (i := i)
      have n : ∀ j, a ∉ (if j = i then [] else O j) := fun j hj => by
        by_cases q : j = i
        · rw [if_pos q] at hj; exact nomatch hj
        · rw [if_neg q] at hj
          exact q (re.dis j i a hj ha)
      have st : Stp F H O (upd F a o) H (fun j => if j = i then [] else O j) := (Stp.emptied (i := i)).put hf (.inr ⟨i, ha⟩)
      have re3 := re2.put e1 hf n
      have re4 : Re c μ' (upd F a o) H σ sl (fun j => if j = i then [] else O j) := re3.freeze hm e h1 (q _ (Le.new o hf) upd_same) (if_pos rfl)
      refine h σ H (upd F a o) _ sl E re4 ?_
      revert g
      cases m sl with
      | err => exact fun g => g
      | exc k fs s => exact fun g dd σ' F' H' O' s' re' p x => g dd σ' F' H' O' (st.trans s') (re'.thaw hm) (p.thaw hm ho) x
      | ok fl s =>
        cases fl with
        | nx => exact fun g σ' F' H' O' s' re' p => g σ' F' H' O' (st.trans s') (re'.thaw hm) (p.thaw hm ho)
        | bk => exact fun g σ' F' H' O' s' re' p => g σ' F' H' O' (st.trans s') (re'.thaw hm) (p.thaw hm ho)
        | ct => exact fun g σ' F' H' O' s' re' p => g σ' F' H' O' (st.trans s') (re'.thaw hm) (p.thaw hm ho)
        | rt d2 => exact fun g v2 σ' F' H' O' Or s' re' p hr => g v2 σ' F' H' O' Or (st.trans s') (re'.thaw hm) (p.thaw hm ho) (HR.from st hr)
    · rw [if_neg hd] at g
      exact g.elim
  · exact g.elim
theorem mdF_set {μ : Ms} {i : Nat} : MdF μ (μ.set i .frz) i := by
  refine ⟨?_, fun j hj => ?_⟩
  · unfold mdOf
    rw [List.getD_eq_getElem?_getD]
    by_cases h : i < μ.length
    · rw [List.getElem?_set_self h]; rfl
    · rw [List.getElem?_eq_none (by rw [List.length_set]; omega)]; rfl
  · unfold mdOf
    rw [List.getD_eq_getElem?_getD, List.getD_eq_getElem?_getD, List.getElem?_set_ne (Ne.symm hj)]
theorem xss_freeze (i : Nat) {st : List Stmt} (ho : mdOf μ i = .own := by rfl) (h : XSs X c (μ.set i .frz) ρ W st t m) : XSs X c μ ρ W st t (mFreeze i m) := ⟨h.ps, st_freeze mdF_set ho h.ev⟩
end
theorem ap_mFreeze {i : Nat} {m : MS} {sl s : Sl} {d : D} {fl : Fl} (h : sl[i]? = some (some d)) (hd : isLD d = true) (h2 : m sl = .ok fl s) : mFreeze i m sl = .ok fl (s.set i none) := by
  unfold mFreeze
  rw [h]
  dsimp only
  rw [if_pos hd, h2]
  rfl
inductive P_mFreeze (i : Nat) (m : MS) : Sl → R Fl → Prop
  | mk {sl s s2 : Sl} {d : D} {fl : Fl} [_h : Gi sl i (some d)] [_l : Ld d] : m sl = .ok fl s → St2 s i none s2 → P_mFreeze i m sl (.ok fl s2)
instance {i : Nat} {m : MS} : Sp1 (mFreeze i m) (P_mFreeze i m) := ⟨fun _ _ h => by
  cases h with
  | mk h1 h2 =>
    rw [ap_mFreeze Gi.go Ld.go h1]
    exact congrArg _ h2⟩
end MM

set_option Elab.async false
set_option linter.all false
set_option maxRecDepth 100000
set_option maxHeartbeats 2000000
/-! The value layer: exceptions. -/
namespace MM
open PySem PySem.Spec PyProof.Rows L2

/-! ### defs that may raise -/
def fnX (pm : Ms) (ρ : Bool) (n : Nat) (m : MS) : Sl → R D := fun ps => match m (ps ++ List.replicate n none) with
  | .ok (.rt d) s => (match mskP pm s with
    | some r => .ok d r
    | none => .err)
  | .ok .nx s => if ρ = true then .err else (match mskP pm s with
    | some r => .ok .non r
    | none => .err)
  | .exc k fs s => (match mskP pm s with
    | some r => .exc k fs r
    | none => .err)
  | _ => .err
section
variable {c : CI} {pm μ : Ms} {ρ : Bool}
theorem GS_ofX {F H : Hp} {O : Os} {vs : List V} {ds : List D} {n : Nat} {N : List Str} {m : MS} {Q : VK} {E : XK} (hp : ∀ i, i < pm.length → mdOf μ i = mdOf pm i) (hv : vs.length = pm.length) (re0 : Re c pm F H (vs.map some) (ds.map some) O)
    (g : GF c pm ρ F H O (vs.map some) Q E (fnX pm ρ n m (ds.map some))) : GS c μ ρ (fun cls d _ H' => E cls d H') F H O (L2.start N vs) { nx := fun _ H' => Q .non H', rt := Q } (m (ds.map some ++ List.replicate n none)) := by
  unfold fnX at g
  cases e : m (ds.map some ++ List.replicate n none) with
  | err => rw [e] at g; exact g.elim
  | exc k fs s =>
    rw [e] at g
    dsimp only at g
    cases er : mskP pm s with
    | none => rw [er] at g; exact g.elim
    | some r =>
      rw [er] at g
      intro dd σ' F' H' O' st re p x
      obtain ⟨r1, r2, _⟩ := fn_end hp hv re0 st re p er
      exact g dd F' H' _ r2 r1 x
  | ok fl s =>
    rw [e] at g
    cases fl with
    | bk => exact g.elim
    | ct => exact g.elim
    | nx =>
      dsimp only at g
      cases ρ with
      | true => rw [if_pos rfl] at g; exact g.elim
      | false =>
        rw [if_neg Bool.false_ne_true] at g
        cases er : mskP pm s with
        | none => rw [er] at g; exact g.elim
        | some r =>
          rw [er] at g
          intro σ' F' H' O' st re p
          obtain ⟨r1, r2, _⟩ := fn_end hp hv re0 st re p er
          exact g .non F' H' _ [] r2 r1 ⟨.non, rfl⟩
    | rt d =>
      dsimp only at g
      cases er : mskP pm s with
      | none => rw [er] at g; exact g.elim
      | some r =>
        rw [er] at g
        intro v σ' F' H' O' Or st re p hr
        obtain ⟨r1, r2, r3⟩ := fn_end hp hv re0 st re p er
        refine g v F' H' _ Or r2 r1 ?_
        cases ρ with
        | false => exact hr
        | true =>
          refine ⟨hr.1, fun a ha => ?_⟩
          obtain ⟨q1, q2, q3⟩ := hr.2 a ha
          refine ⟨q1, fun i hi => ?_, r3 a q2 q3⟩
          have hi : a ∈ (if mdOf pm i = .pin ∧ i < pm.length then O' i else []) := hi
          split at hi
          · exact q2 i hi
          · exact nomatch hi
end
structure HasX (P : Program) (w : World) (K : PySem.W.Frag) (mg : Str → Option Value) (base : Heap) (c : CI) (a : Addr) (k : Nat) (ps : List Str) (pm : Ms) (ρ : Bool) (f : Sl → R D) (fd : FuncData) : Prop where
  ok : FnOk P w K mg base (L2N.CX P w) k a fd ps (SpM c pm ρ f)
  bd : Binds K fd ps []
  kp : PySem.W.keepIn K (.ref a) = true
section
variable {P : Program} {w : World} {K : PySem.W.Frag} {mg : Str → Option Value} {base : Heap} {c : CI} {pm μ : Ms} {ρ : Bool}
theorem hasX {x qual : Str} {params : Arguments} {body : List Stmt} {scope : Scope} {f : Addr} {N ps : List Str} {k n : Nat} {m : MS} {fd : FuncData} (F : FunD K x qual params body scope [] [] f fd) (S : FnScope N ps scope) (hps : ps.length = pm.length) (hp : ∀ i, i < pm.length → mdOf μ i = mdOf pm i) (hN : N.length = pm.length + n)
    (hbi : ∀ (kV doc pm : Value) (an : Option Addr) (cdv ct : Value) (us : List Value), us.length = ps.length → bindArgs (PySem.W.fnOf x qual params body scope .none kV doc pm an cdv ct) ⟨us, []⟩ = pure (ps.zip us))
    (hb : ∀ (cdv : Value) (A : Around) (outer : List Env) (s : Shared) (H : Hp) (E : XK), Room k (A.deeper (envOfC qual scope s.heap.objs.size f cdv)) →
      L2N.Takes (cxOf (L2N.CX P w) P w K mg base N qual scope f cdv A outer s H E) (fun cls d _ H' => E cls d H') → PassesOwn (model P w) (cxOf (L2N.CX P w) P w K mg base N qual scope f cdv A outer s H E).A (cxOf (L2N.CX P w) P w K mg base N qual scope f cdv A outer s H E).env (cxOf (L2N.CX P w) P w K mg base N qual scope f cdv A outer s H E).xe →
      ∃ t, XSs (cxOf (L2N.CX P w) P w K mg base N qual scope f cdv A outer s H E) c μ ρ (fun cls d _ H' => E cls d H') body t m) :
    HasX P w K mg base c f (k + 1) ps pm ρ (fnX pm ρ n m) fd := by
  refine ⟨F.ok S (fun vs H Q E h => by rw [h.1, hps]) (fun cdv A outer s H vs Q E hr h => ?_), F.bindsN hbi, F.kp⟩
  obtain ⟨t, xs⟩ := hb cdv A outer s H E hr (L2N.takes_of rfl rfl rfl rfl) (passes_of rfl)
  obtain ⟨hv, F0, O0, ds, hd, re0, g⟩ := h
  exact ⟨t, xs.ps, xs.ev _ _ _ _ _ _ (re0.start hp hv hd hN) (GS_ofX hp hv re0 g)⟩
end

/-! ### raise C('..'), C without its own __init__ -/
def mRaise (k : Nat) : MS := fun sl => .exc k [] sl
section
variable {c : CI} {X : Cx} {μ : Ms} {ρ : Bool} {W : WX}
theorem xs_raise (k : Nat) {x m : Str} {j : Nat} {p p2 pos pos' : Pos} {C : Addr}
    (hq : PySem.W.excIn X.K C He.veBase "ValueError.__new__" = true ∧ PySem.W.keepIn X.K (.ref C) = true ∧ PySem.W.subIn X.K (.ref C) (.type "BaseException") = some true ∧ PySem.W.typeIn X.K (.ref C) = some (.type "type"))
    (gC : X.mg x = some (.ref C)) (hc : X.calm = true) (tk : L2N.Takes X W) (hC : c.C k = C := by rfl) (hg : Gl X x := by rfl) (hdb : (x == ("__debug__" : Str)) = false := by decide) :
    XS X c μ ρ W (.Raise (some (.Call (.Name x p) [.Constant (.str m) j p2] [] pos)) none pos') (fun _ σ H => W (.ref C) none σ H) (mRaise k) :=
  ⟨L2N.ps_raise (t := fun _ H Q => Q (.ref C) none H) hc tk (L2N.pmk_own PySem.F.excBase_ValueError hq.1 gC hq.2.1 (raises_own hq.2.2.1 hq.2.2.2) hg hdb), fun σ H F O sl E re g => by
    have z := g none σ F H O (Stp.refl _ _ _) re (Pin.refl _ _) (.inl ⟨rfl, rfl⟩)
    rw [hC] at z
    exact z⟩

/-! ### a call that may raise -/
def mCallFX (np : Nat) (f : Sl → R D) (n : MA) : ME := fun sl => (n sl).bind fun ds s => if ds.length = np then (match f (ds.map some) with
  | .ok d _ => .ok d s
  | .exc k fs _ => .exc k fs s
  | .err => .err) else .err
theorem ev_callX {pm : Ms} {f : Sl → R D} {t : TA} {n : MA} (hp : ∀ i, i < pm.length → mdOf pm i = .frz) (h : EvA c μ W t n) : EvE c μ W (tCallS (SpM c pm false f) (WE W) t) (mCallFX pm.length f n) := by
  refine Evm.bind (κ := fun vs σ H1 (Q : VK) => SpM c pm false f vs H1 Q (WE W σ)) h fun σ H F O sl vs ds Q re rs g => ?_
  by_cases hl : ds.length = pm.length
  · rw [if_pos hl] at g
    refine ⟨by rw [rs.length, hl], F, _, ds, hl, re.args rs hp hl, ?_⟩
    cases e : f (ds.map some) with
    | err => rw [e] at g; exact g.elim
    | exc k fs s =>
      rw [e] at g
      intro dd F' H' O' st re' x
      obtain ⟨r1, r2⟩ := re.behind st re'
      exact g dd F' H' O r2 r1 x
    | ok d s =>
      rw [e] at g
      intro v F' H' O' Or st re' hf
      obtain ⟨r1, r2⟩ := re.behind st re'
      exact g v F' H' O r2 r1 hf.1
  · rw [if_neg hl] at g
    exact g.elim
theorem evo_callX {pm : Ms} {f : Sl → R D} {t : TA} {n : MA} (hp : ∀ i, i < pm.length → mdOf pm i = .frz) (h : EvA c μ W t n) : EvO c μ W (tCallS (SpM c pm true f) (WE W) t) (mCallFX pm.length f n) := by
  refine Evm.bindO (κ := fun vs σ H1 (Q : VK) => SpM c pm true f vs H1 Q (WE W σ)) h fun σ H F O sl vs ds Q re rs g => ?_
  by_cases hl : ds.length = pm.length
  · rw [if_pos hl] at g
    refine ⟨by rw [rs.length, hl], F, _, ds, hl, re.args rs hp hl, ?_⟩
    cases e : f (ds.map some) with
    | err => rw [e] at g; exact g.elim
    | exc k fs s =>
      rw [e] at g
      intro dd F' H' O' st re' x
      obtain ⟨r1, r2⟩ := re.behind st re'
      exact g dd F' H' O r2 r1 x
    | ok d s =>
      rw [e] at g
      intro v F' H' O' Or st re' hf
      obtain ⟨r1, r2⟩ := re.behind st re'
      refine g v F' H' O Or r2 r1 hf.1 fun a ha => ?_
      obtain ⟨q1, q2, q3⟩ := hf.2 a ha
      exact ⟨q1, re.new q3, q3⟩
  · rw [if_neg hl] at g
    exact g.elim
variable {pm : Ms} {f : Sl → R D} {k : Nat} {fa : Addr} {fd : FuncData} {ps : List Str} {x : Str} {p pos : Pos} {e : Expr} {es : List Expr} {t : TA} {n : MA}
theorem xe_callX (F : FnOk X.prog X.w X.K X.mg X.base (L2N.CX X.prog X.w) k fa fd ps (SpM c pm false f)) (hr : Room k X.A) (hm : X.mg x = some (.ref fa)) (hk : PySem.W.keepIn X.K (.ref fa) = true) (hb : Binds X.K fd ps []) (ha : XA X c μ W (e :: es) t n) (tk : L2N.Takes X W)
    (hp : ∀ i, i < pm.length → mdOf pm i = .frz := by decide) (hg : Gl X x := by rfl) (hdb : (x == ("__debug__" : Str)) = false := by decide) (he : starEach (e :: es) X.env = (false, eval e X.env) :: starEach es X.env := by rfl) (hpl : (backTo pos (starEach es X.env)).any (·.1) = false := by rfl) :
    XE X c μ W (.Call (.Name x p) (e :: es) [] pos) (tCallS (SpM c pm false f) (WE W) t) (mCallFX pm.length f n) := ⟨pe_callS F hr hg hm hk hb (L2N.passAt tk) ha.pa hdb he hpl, ev_callX hp ha.ev⟩
theorem xn_callX (F : FnOk X.prog X.w X.K X.mg X.base (L2N.CX X.prog X.w) k fa fd ps (SpM c pm true f)) (hr : Room k X.A) (hm : X.mg x = some (.ref fa)) (hk : PySem.W.keepIn X.K (.ref fa) = true) (hb : Binds X.K fd ps []) (ha : XA X c μ W (e :: es) t n) (tk : L2N.Takes X W)
    (hp : ∀ i, i < pm.length → mdOf pm i = .frz := by decide) (hg : Gl X x := by rfl) (hdb : (x == ("__debug__" : Str)) = false := by decide) (he : starEach (e :: es) X.env = (false, eval e X.env) :: starEach es X.env := by rfl) (hpl : (backTo pos (starEach es X.env)).any (·.1) = false := by rfl) :
    XN X c μ W (.Call (.Name x p) (e :: es) [] pos) (tCallS (SpM c pm true f) (WE W) t) (mCallFX pm.length f n) := ⟨pe_callS F hr hg hm hk hb (L2N.passAt tk) ha.pa hdb he hpl, evo_callX hp ha.ev⟩
end
end MM

set_option Elab.async false
set_option linter.all false
set_option maxRecDepth 100000
set_option maxHeartbeats 2000000
/-! The value layer: try, isinstance of a caught exception. -/
namespace MM
open PySem PySem.Spec PyProof.Rows L2
abbrev xaC (c : CI) (a : Addr) (k : Nat) (d : Option Addr) : CI := { c with xa := some (a, k, d) }
mutual
theorem Rp.toX {c : CI} {F : Hp} (h0 : c.xa = none) (x : Option (Addr × Nat × Option Addr)) : ∀ {v : V} {d : D}, Rp c F v d → Rp { c with xa := x } F v d
  | _, _, .non => .non
  | _, _, .bl b => .bl b
  | _, _, .int i => .int i
  | _, _, .str l h => .str l h
  | _, _, .tup h z r => .tup h z (Rps.toX h0 x r)
  | _, _, .lst h z r => .lst h z (Rps.toX h0 x r)
  | _, _, .dic h z h1 h2 h3 r => .dic h z h1 h2 h3 (Rps.toX h0 x r)
  | _, _, .ins h h1 h2 r => .ins h h1 h2 (Rps.toX h0 x r)
  | _, _, .scr z h => .scr z h
  | _, _, .exn0 h => by rw [h0] at h; cases h
  | _, _, .exn h h1 h2 h3 r => by rw [h0] at h; cases h
theorem Rps.toX {c : CI} {F : Hp} (h0 : c.xa = none) (x : Option (Addr × Nat × Option Addr)) : ∀ {vs : List V} {ds : List D}, Rps c F vs ds → Rps { c with xa := x } F vs ds
  | _, _, .nil => .nil
  | _, _, .cons r t => .cons (Rp.toX h0 x r) (Rps.toX h0 x t)
end
theorem Ow1.toX {c : CI} {F H : Hp} {v : V} {d : D} {a : Addr} (h0 : c.xa = none) (x : Option (Addr × Nat × Option Addr)) (h : Ow1 c F H v d a) : Ow1 { c with xa := x } F H v d a := by
  cases h with
  | lst h z r => exact .lst h z (r.toX h0 x)
  | dic h z h1 r => exact .dic h z h1 (r.toX h0 x)
theorem OwF.toX {c : CI} {F H : Hp} (h0 : c.xa = none) (x : Option (Addr × Nat × Option Addr)) : ∀ {m : List Bool} {vs : List V} {ds : List D} {O : List Addr}, OwF c F H m vs ds O → OwF { c with xa := x } F H m vs ds O
  | _, _, _, _, .nil m => .nil m
  | _, _, _, _, .frz r t => .frz (r.toX h0 x) (t.toX h0 x)
  | _, _, _, _, .own r t => .own (r.toX h0 x) (t.toX h0 x)
theorem Ow.toX {c : CI} {md : Nat → List Bool} {F H : Hp} {v : V} {d : D} {O : List Addr} (h0 : c.xa = none) (x : Option (Addr × Nat × Option Addr)) (h : Ow c md F H v d O) : Ow { c with xa := x } md F H v d O := by
  cases h with
  | one h => exact .one (h.toX h0 x)
  | ins h h1 h2 r nd => exact .ins h h1 h2 (r.toX h0 x) nd
theorem Hold.toX {c : CI} {m : Md} {F H : Hp} {v : V} {d : D} {O : List Addr} (h0 : c.xa = none) (x : Option (Addr × Nat × Option Addr)) (h : Hold c m F H v d O) : Hold { c with xa := x } m F H v d O := by
  cases m with
  | frz => exact ⟨h.1.toX h0 x, h.2⟩
  | own => exact Ow.toX h0 x h
  | pin => exact Ow.toX h0 x h
  | bor j => exact Ow.toX h0 x h
theorem Re.toX {c : CI} {μ : Ms} {F H : Hp} {σ : St} {sl : Sl} {O : Os} (h0 : c.xa = none) (x : Option (Addr × Nat × Option Addr)) (re : Re c μ F H σ sl O) : Re { c with xa := x } μ F H σ sl O :=
  ⟨re.ag, re.len, fun i d h => by
    obtain ⟨v, h1, h2⟩ := re.at_ i d h
    exact ⟨v, h1, h2.toX h0 x⟩, re.emp, re.dis, re.fre⟩
/-- the exception as a value -/
theorem exn_rep {c : CI} {F H : Hp} {a : Addr} {k : Nat} {fs : List D} {dd : Option Addr} (h0 : c.xa = none) (x : XR c F H k fs dd) : Rp (xaC c a k dd) F (.ref a) (.exn k fs) := by
  rcases x with ⟨rfl, rfl⟩ | ⟨d, fv, rfl, h1, h2, h3⟩
  · exact .exn0 rfl
  · exact .exn rfl h1 h2 rfl (h3.toX h0 _)
mutual
/-- no exception in it -/
def noE : D → Bool
  | .exn _ _ => false
  | .tup ds => noEs ds
  | .lst ds => noEs ds
  | .dic kv => noEk kv
  | .ins _ ds => noEs ds
  | _ => true
def noEs : List D → Bool
  | [] => true
  | d :: ds => noE d && noEs ds
def noEk : List (KD × D) → Bool
  | [] => true
  | (_, d) :: r => noE d && noEk r
end
theorem noEk_eq : ∀ kv : List (KD × D), noEk kv = noEs (kv.map (·.2))
  | [] => rfl
  | (_, d) :: r => by
    show (noE d && noEk r) = (noE d && noEs (r.map (·.2)))
    rw [noEk_eq r]
mutual
theorem Rp.ofX {c : CI} {F : Hp} {x : Option (Addr × Nat × Option Addr)} : ∀ {v : V} {d : D}, Rp { c with xa := x } F v d → noE d = true → Rp c F v d
  | _, _, .non, _ => .non
  | _, _, .bl b, _ => .bl b
  | _, _, .int i, _ => .int i
  | _, _, .str l h, _ => .str l h
  | _, _, .tup h z r, e => .tup h z (Rps.ofX r (by simpa [noE] using e))
  | _, _, .lst h z r, e => .lst h z (Rps.ofX r (by simpa [noE] using e))
  | _, _, .dic (kv := kv) h z h1 h2 h3 r, e => .dic h z h1 h2 h3 (Rps.ofX r (by
      have e2 : noEk kv = true := by simpa [noE] using e
      rw [noEk_eq, ← h3] at e2
      exact e2))
  | _, _, .ins h h1 h2 r, e => .ins h h1 h2 (Rps.ofX r (by simpa [noE] using e))
  | _, _, .scr z h, _ => .scr z h
  | _, _, .exn0 h, e => by simp [noE] at e
  | _, _, .exn h h1 h2 h3 r, e => by simp [noE] at e
theorem Rps.ofX {c : CI} {F : Hp} {x : Option (Addr × Nat × Option Addr)} : ∀ {vs : List V} {ds : List D}, Rps { c with xa := x } F vs ds → noEs ds = true → Rps c F vs ds
  | _, _, .nil, _ => .nil
  | _, _, .cons (d := d) (ds := ds) r t, e => by
    have e2 : (noE d && noEs ds) = true := by simpa [noEs] using e
    obtain ⟨e3, e4⟩ := Bool.and_eq_true_iff.mp e2
    exact .cons (Rp.ofX r e3) (Rps.ofX t e4)
end
theorem Pin.set {μ : Ms} {σ σ' : St} {i : Nat} {v : Option V} (hm : mdOf μ i = .frz) (p : Pin μ σ σ') : Pin μ σ (σ'.set i v) := fun j h1 h2 => by
  rw [List.getElem?_set_ne (fun z => by rw [← z] at h1; exact h1 hm)]
  exact p j h1 h2
/-- nothing is owned any more -/
theorem Re.none {c c2 : CI} {μ : Ms} {F H : Hp} {σ : St} {sl : Sl} {O : Os} (re : Re c2 μ F H σ sl O) (hlk : c.lk = c2.lk) : Re c μ F H σ (sl.map fun _ => Option.none) (fun _ => []) := by
  refine ⟨by rw [hlk]; exact re.ag, by rw [List.length_map]; exact re.len, fun i d h => ?_, fun _ _ => rfl, fun i j a h _ => absurd h (by simp), fun i a h => absurd h (by simp)⟩
  rw [List.getElem?_map] at h
  cases e : sl[i]? with
  | none => rw [e] at h; cases h
  | some x => rw [e] at h; cases h
theorem Stp.none {F H F' H' : Hp} {O O' : Os} (s : Stp F H O F' H' O') : Stp F H O F' H' (fun _ => []) :=
  ⟨s.ff, s.kp, s.fo, fun i a h => absurd h (by simp), s.al, fun _ => .inr (.inl rfl)⟩

def mTryAs (i : Nat) (ks : List Nat) (mb mh : MS) : MS := fun sl => match mb sl with
  | .exc k fs s => if ks.contains k = true then (match mh (s.set i (some (.exn k fs))) with
    | .ok (.rt d) s2 => if noE d = true then .ok (.rt d) (s2.map fun _ => none) else .err
    | _ => .err) else .err
  | r => r
def mTry (ks : List Nat) (mb mh : MS) : MS := fun sl => match mb sl with
  | .exc k fs s => if ks.contains k = true then (match mh s with
    | .ok (.rt d) s2 => if noE d = true then .ok (.rt d) (s2.map fun _ => none) else .err
    | _ => .err) else .err
  | r => r
/-- these classes are caught by a clause for cv -/
def Exm (K : PySem.W.Frag) (c : CI) (cv : Value) (ks : List Nat) : Prop := ∀ k, k ∈ ks → PySem.W.exmOne K (.ref (c.C k)) cv = some true
theorem exm_n {K : PySem.W.Frag} {c : CI} {cv : Value} : Exm K c cv [] := fun _ h => nomatch h
theorem exm_c {K : PySem.W.Frag} {c : CI} {cv : Value} {k : Nat} {ks : List Nat} (h : PySem.W.exmOne K (.ref (c.C k)) cv = some true) (t : Exm K c cv ks) : Exm K c cv (k :: ks) := fun j hj => by
  rcases List.mem_cons.mp hj with rfl | hj
  · exact h
  · exact t j hj
theorem Zc.exm {fa : List He.Fa} {fn : List He.DefD} {K : PySem.W.Frag} {h : Heap} {mg : Str → Option Value} (Z : Zc fa fn K h mg) (i : Nat) {x y : Str} {b : Bool} (e : fa[i]? = some (.exm x y b) := by rfl) : PySem.W.exmOne K (.ref (He.ga K x)) (.ref (He.ga K y)) = some b := He.exm_ok (Z.c.fact i e)
theorem Zc.exc {fa : List He.Fa} {fn : List He.DefD} {K : PySem.W.Frag} {h : Heap} {mg : Str → Option Value} (Z : Zc fa fn K h mg) (i : Nat) {x : Str} (e : fa[i]? = some (.exc x) := by rfl) :
    PySem.W.excIn K (He.ga K x) He.veBase "ValueError.__new__" = true ∧ PySem.W.keepIn K (.ref (He.ga K x)) = true ∧ PySem.W.subIn K (.ref (He.ga K x)) (.type "BaseException") = some true ∧ PySem.W.typeIn K (.ref (He.ga K x)) = some (.type "type") := He.exc_ok (Z.c.fact i e)
/-- what the suite does, the exception of one of these classes -/
def tEx (c : CI) (ks : List Nat) (ts : Addr → Nat → Option Addr → TS) (a : Addr) (cls : Value) (d : Option Addr) : TS := fun D σ H => ∃ k, k ∈ ks ∧ cls = .ref (c.C k) ∧ ts a k d D σ H
section
variable {c : CI} {X : Cx} {μ : Ms} {ρ : Bool} {W : WX} {K : PySem.W.Frag} {cv : Value}
theorem HR.noE {x : Option (Addr × Nat × Option Addr)} {F H F' H' : Hp} {O O' : Os} {v : V} {d : D} {Or : List Addr} (h : HR { c with xa := x } false F H O F' H' O' v d Or) (e : noE d = true) : HR c false F H O F' H' (fun _ => []) v d Or := ⟨h.1.ofX e, h.2⟩
theorem st_tryAs {i : Nat} {ks : List Nat} {tb : WX → TS} {ts : Addr → Nat → Option Addr → TS} {mb mh : MS} (h0 : c.xa = none) (hm : mdOf μ i = .frz) (hk : Exm K c cv ks) (hb : ∀ W', StM c μ false W' (tb W') mb) (hh : ∀ a k d, k ∈ ks → StM (xaC c a k d) μ false W0 (ts a k d) mh) :
    StM c μ false W (fun D σ H => tb (wAs K cv i (tEx c ks ts) W D) D σ H) (mTryAs i ks mb mh) := by
  intro σ H F O sl E re g
  refine hb _ σ H F O sl E re ?_
  revert g
  unfold mTryAs
  cases e : mb sl with
  | err => exact fun g => g
  | ok fl s => cases fl <;> exact fun g => g
  | exc k fs s =>
    dsimp only
    intro g dd σ' F' H' O' st re' p x
    by_cases h : ks.contains k = true
    · rw [if_pos h] at g
      have hkm : k ∈ ks := List.contains_iff_mem.mp h
      refine ⟨true, hk k hkm, fun _ a ha => ⟨k, hkm, rfl, ?_⟩, fun z => nomatch z⟩
      have re1 := (re'.toX h0 (some (a, k, dd))).setF (i := i) hm (exn_rep h0 x)
      refine hh a k dd hkm _ _ _ _ _ _ re1 ?_
      revert g
      cases e2 : mh (s.set i (some (.exn k fs))) with
      | err => exact fun g => g.elim
      | exc k2 fs2 s2 => exact fun g => g.elim
      | ok fl s2 =>
        cases fl with
        | nx => exact fun g => g.elim
        | bk => exact fun g => g.elim
        | ct => exact fun g => g.elim
        | rt d =>
          dsimp only
          by_cases hn : noE d = true
          · rw [if_pos hn]
            exact fun g v σ2 F2 H2 O2 Or s3 re2 p2 hr => g v σ2 F2 H2 (fun _ => []) Or (st.trans s3).none (re2.none rfl) (Pin.trans (Pin.set hm p) p2) ((HR.from st (hr.noE hn)))
          · rw [if_neg hn]
            exact fun g => g.elim
    · rw [if_neg h] at g
      exact g.elim
end
end MM

set_option Elab.async false
set_option linter.all false
set_option maxRecDepth 100000
set_option maxHeartbeats 2000000
/-! The value layer: try as a rule; isinstance, fields of a caught exception. -/
namespace MM
open PySem PySem.Spec PyProof.Rows L2
section
variable {c : CI} {X : Cx} {μ : Ms} {ρ : Bool} {W : WX} {K : PySem.W.Frag} {cv : Value}
theorem st_try {ks : List Nat} {tb : WX → TS} {ts : Addr → Nat → Option Addr → TS} {mb mh : MS} (h0 : c.xa = none) (hk : Exm K c cv ks) (hb : ∀ W', StM c μ false W' (tb W') mb) (hh : ∀ a k d, k ∈ ks → StM (xaC c a k d) μ false W0 (ts a k d) mh) :
    StM c μ false W (fun D σ H => tb (wMany K W D [(cv, tEx c ks ts)]) D σ H) (mTry ks mb mh) := by
  intro σ H F O sl E re g
  refine hb _ σ H F O sl E re ?_
  revert g
  unfold mTry
  cases e : mb sl with
  | err => exact fun g => g
  | ok fl s => cases fl <;> exact fun g => g
  | exc k fs s =>
    dsimp only
    intro g dd σ' F' H' O' st re' p x
    by_cases h : ks.contains k = true
    · rw [if_pos h] at g
      have hkm : k ∈ ks := List.contains_iff_mem.mp h
      refine ⟨true, hk k hkm, fun _ a ha => ⟨k, hkm, rfl, ?_⟩, fun z => nomatch z⟩
      have re1 := re'.toX h0 (some (a, k, dd))
      refine hh a k dd hkm _ _ _ _ _ _ re1 ?_
      revert g
      cases e2 : mh s with
      | err => exact fun g => g.elim
      | exc k2 fs2 s2 => exact fun g => g.elim
      | ok fl s2 =>
        cases fl with
        | nx => exact fun g => g.elim
        | bk => exact fun g => g.elim
        | ct => exact fun g => g.elim
        | rt d =>
          dsimp only
          by_cases hn : noE d = true
          · rw [if_pos hn]
            exact fun g v σ2 F2 H2 O2 Or s3 re2 p2 hr => g v σ2 F2 H2 (fun _ => []) Or (st.trans s3).none (re2.none rfl) (Pin.trans p p2) ((HR.from st (hr.noE hn)))
          · rw [if_neg hn]
            exact fun g => g.elim
    · rw [if_neg h] at g
      exact g.elim
theorem some_takes (hs : X.stack = X.env :: X.outer) (hf : X.env.frame = some X.env.locals) (W' : WX) : ∃ xe, L2N.Takes (X.tr [] xe) W' ∧ PassesOwn (model X.prog X.w) X.A X.env xe :=
  ⟨fun e s₁ => wpAny (model X.prog X.w) X.A (noteFrame e X.env) (fun _ s₂ => wpAny (model X.prog X.w) X.A (setFlight e none) (fun _ _ => True) (fun _ _ => True) s₂) (fun _ _ => True) s₁, fun u s' xx => by
    obtain ⟨a, B, sI, pins', σ', H', cls, d, rfl, J', nb, up, sky, na, os, ag, w⟩ := xx
    have sky' : Sky B (X.env :: X.outer) a (L2N.Zn cls d) X.env.locals s'.heap := by rw [← hs]; exact sky
    have hfr : X.A.frames = some (X.env :: X.outer) := by
      have z : X.A.frames = some X.stack := J'.ok.frames
      rw [z, hs]
    exact L2N.Sky.land L2N.Zn.steady hfr hf sky' fun _ _ _ => trivial, PassesOwn.looking⟩
/-- an object such as an exception's -/
theorem some_oe (cls : Value) (d : Option Addr) : ∃ oe : Obj, L2N.Zn cls d oe ∧ ∃ vs, oe.data = .fields vs :=
  ⟨{ cls := cls, dict := d, data := .fields #[.none, .none, .none] }, ⟨rfl, rfl, fun vs e => by cases e; rfl⟩, _, rfl⟩
theorem pss_ex {ks : List Nat} {b : List Stmt} {ts : Addr → Nat → Option Addr → TS} {a : Addr} {cls : Value} {d : Option Addr} (h : ∀ k, k ∈ ks → cls = .ref (c.C k) → PSs X b (ts a k d)) : PSs X b (tEx c ks ts a cls d) :=
  ⟨fun pins s σ H D I hw => by
    obtain ⟨k, hk, e, q⟩ := hw
    exact (h k hk e).run pins s σ H D I q⟩
theorem xs_tryAs (i : Nat) (ks : List Nat) {x n : Str} {body suite : List Stmt} {b₀ : Stmt} {np pos pos' : Pos} {tb : WX → TS} {ts : Addr → Nat → Option Addr → TS} {mb mh : MS} (hN : X.N.Nodup) (hc : Names X x cv) (tk : L2N.Takes X W) (hk : Exm X.K c cv ks)
    (hb : ∀ (W' : WX) (pn : List (Addr × Obj)) (xe : Value → Shared → Prop), L2N.Takes (X.tr pn xe) W' → PassesOwn (model X.prog X.w) X.A X.env xe → XSs (X.tr pn xe) c μ false W' body (tb W') mb)
    (hsu : ∀ (a : Addr) (oe : Obj) (k : Nat) (d : Option Addr) (pn : List (Addr × Obj)), k ∈ ks → L2N.Zn (.ref (c.C k)) d oe → (∃ vs, oe.data = .fields vs) → XSs (X.suite a ((a, oe) :: pn)) (xaC c a k d) μ false W0 (b₀ :: suite) (ts a k d) mh)
    (h0 : c.xa = none := by rfl) (hm : mdOf μ i = .frz := by rfl) (hi : X.N[i]? = some n := by rfl) (hln : X.env.kindOf n = some .local := by rfl) (hs : X.stack = X.env :: X.outer := by rfl) (hf : X.env.frame = some X.env.locals := by rfl) :
    XS X c μ false W (.Try body [.ExceptHandler (some (.Name x np)) (some n) (b₀ :: suite) pos'] [] [] pos) (fun D σ H => tb (wAs X.K cv i (tEx c ks ts) W D) D σ H) (mTryAs i ks mb mh) :=
  ⟨L2N.ps_try_as hs hf hN hi hln hc tk (fun W' pn xe t p => (hb W' pn xe t p).ps) fun a oe cls d pn hz hd => pss_ex fun k hk e => (hsu a oe k d pn hk (by rw [← e]; exact hz) hd).ps,
    st_tryAs h0 hm hk (fun W' => by
      obtain ⟨xe, h1, h2⟩ := some_takes hs hf W'
      exact (hb W' [] xe h1 h2).ev) fun a k d hk => by
      obtain ⟨oe, h1, h2⟩ := some_oe (.ref (c.C k)) d
      exact (hsu a oe k d [] hk h1 h2).ev⟩
theorem xs_try (ks : List Nat) {x : Str} {body suite : List Stmt} {b₀ : Stmt} {np pos pos' : Pos} {tb : WX → TS} {ts : Addr → Nat → Option Addr → TS} {mb mh : MS} (hc : Names X x cv) (tk : L2N.Takes X W) (hk : Exm X.K c cv ks)
    (hb : ∀ (W' : WX) (pn : List (Addr × Obj)) (xe : Value → Shared → Prop), L2N.Takes (X.tr pn xe) W' → PassesOwn (model X.prog X.w) X.A X.env xe → XSs (X.tr pn xe) c μ false W' body (tb W') mb)
    (hsu : ∀ (a : Addr) (oe : Obj) (k : Nat) (d : Option Addr) (pn : List (Addr × Obj)), k ∈ ks → L2N.Zn (.ref (c.C k)) d oe → (∃ vs, oe.data = .fields vs) → XSs (X.suite a ((a, oe) :: pn)) (xaC c a k d) μ false W0 (b₀ :: suite) (ts a k d) mh)
    (h0 : c.xa = none := by rfl) (hs : X.stack = X.env :: X.outer := by rfl) (hf : X.env.frame = some X.env.locals := by rfl) :
    XS X c μ false W (.Try body [.ExceptHandler (some (.Name x np)) none (b₀ :: suite) pos'] [] [] pos) (fun D σ H => tb (wMany X.K W D [(cv, tEx c ks ts)]) D σ H) (mTry ks mb mh) :=
  ⟨L2N.ps_try_many hs hf tk (fun W' pn xe t p => (hb W' pn xe t p).ps) (.cons hc (fun a oe cls d pn hz hd => pss_ex fun k hk e => (hsu a oe k d pn hk (by rw [← e]; exact hz) hd).ps) .nil),
    st_try h0 hk (fun W' => by
      obtain ⟨xe, h1, h2⟩ := some_takes hs hf W'
      exact (hb W' [] xe h1 h2).ev) fun a k d hk => by
      obtain ⟨oe, h1, h2⟩ := some_oe (.ref (c.C k)) d
      exact (hsu a oe k d [] hk h1 h2).ev⟩
theorem takes0N {X : Cx} : L2N.Takes X W0 := fun _ _ x => by
  obtain ⟨_, _, _, _, _, _, _, _, _, _, _, _, _, _, _, _, z⟩ := x
  exact z.elim
end
/-! ### isinstance(e, C), e.f -/
/-- the context bears the exception -/
structure Bears (X : Cx) (c : CI) (a : Addr) (k : Nat) (d : Option Addr) : Prop where
  xa : c.xa = some (a, k, d)
  pn : ∃ oe, (a, oe) ∈ X.pn ∧ L2N.Zn (.ref (c.C k)) d oe ∧ ∃ vs, oe.data = .fields vs
def mIsX (ks : List (Nat × Bool)) (m : ME) : ME := fun sl => (m sl).bind fun d s => match d with
  | .exn k _ => (match ks.lookup k with
    | some b => .ok (.bl b) s
    | none => .err)
  | _ => .err
def rIsX (K : PySem.W.Frag) (a : Addr) (cls : Value) (d : Option Addr) (cv : Value) : List V → Hp → VK → Prop := fun xs H Q => ∃ (D : Addr) (c : V) (b : Bool), cls = .ref D ∧ xs = [.ref a, c] ∧ (∀ dd, d = some dd → ∃ fs, H dd = some (.xd fs)) ∧ ExcC K D ∧ (∀ u, RelV c u → u = cv) ∧ PySem.W.kitOne K (.ref D) cv = some b ∧ Q (.bl b) H
theorem call_isX {X : Cx} {c : CI} {a : Addr} {k : Nat} {d : Option Addr} {cv : Value} (B : Bears X c a k d) : CallR X (.builtin "isinstance") (rIsX X.K a (.ref (c.C k)) d cv) := by
  intro pins s σ H xs us Q I r h
  obtain ⟨D, c2, b, eD, rfl, hdd, C, hcv, e, q⟩ := h
  cases eD
  obtain ⟨oe, hp, hz, vs, hv⟩ := B.pn
  cases r with
  | cons rx rr =>
    cases rr with
    | cons rt rr =>
      cases rr
      cases rx
      have ec := hcv _ rt
      subst ec
      obtain ⟨hget, _⟩ := I.pin (a, oe) (List.mem_append_left _ hp)
      have hcl : (PySem.W.clsIn X.K (c.C k)).isSome = true := by obtain ⟨cd, hc, _⟩ := PySem.W.any_some C.hd; rw [hc]; rfl
      have fin : ∀ od, PySem.W.InstAt s.heap a oe (c.C k) od → wpAny (model X.prog X.w) X.A (call (.builtin "isinstance") [.ref a, _]) (EP X pins σ Q) X.xe s := fun od J =>
        PySem.W.kia_one (PySem.W.kitx_exc hcl C.hg C.hk C.hs C.ha C.hn C.ht C.hm) I.kIn J e (fun z => nomatch z) fun tk => ⟨.bl b, H, I.kept (t' := tk) fun _ _ z => z, rfl, q⟩
      cases d with
      | none => exact fin none ⟨hget, hz.1, by unfold PySem.W.notCls; rw [hv] <;> rfl, by rw [hz.2.1]; trivial⟩
      | some dd =>
        obtain ⟨fs, hf⟩ := hdd dd rfl
        obtain ⟨mA, ⟨od, es, ep, ho, _⟩, _⟩ := (show ObjOk X.prog X.w H s.heap dd (.xd fs) from I.hok dd _ hf)
        exact fin (some od) ⟨hget, hz.1, by unfold PySem.W.notCls; rw [hv] <;> rfl, by rw [hz.2.1]; exact ho⟩
def Isx (K : PySem.W.Frag) (c : CI) (cv : Value) (ks : List (Nat × Bool)) : Prop := ∀ k b, ks.lookup k = some b → ExcC K (c.C k) ∧ PySem.W.kitOne K (.ref (c.C k)) cv = some b
theorem isx_n {K : PySem.W.Frag} {c : CI} {cv : Value} : Isx K c cv [] := fun _ _ h => nomatch h
theorem isx_c {K : PySem.W.Frag} {c : CI} {cv : Value} {k : Nat} {b : Bool} {ks : List (Nat × Bool)} (h : ExcC K (c.C k)) (h2 : PySem.W.kitOne K (.ref (c.C k)) cv = some b) (t : Isx K c cv ks) : Isx K c cv ((k, b) :: ks) := fun j b2 hj => by
  rw [List.lookup_cons] at hj
  by_cases e : (j == k) = true
  · rw [e] at hj
    cases hj
    rw [beq_iff_eq.mp e]
    exact ⟨h, h2⟩
  · rw [Bool.eq_false_iff.mpr e] at hj
    exact t j b2 hj
theorem Ag.xd {lk : Option Addr} {F H : Hp} (g : Ag lk F H) {a : Addr} {fs : List (Str × V)} (h : F a = some (.xd fs)) : H a = some (.xd fs) := by
  rcases g a _ h with h | ⟨_, _, _, e, _⟩
  · exact h
  · cases e
section
variable {c : CI} {X : Cx} {μ : Ms} {W : WX} {a : Addr} {k : Nat} {d : Option Addr}
theorem ev_isX {K : PySem.W.Frag} {cv : Value} {v2 : V} {ks : List (Nat × Bool)} {te : TE} {m : ME} (hx : c.xa = some (a, k, d)) (hK : Isx K c cv ks) (hv2 : ∀ u, RelV v2 u → u = cv) (h : EvE c μ W te m) :
    EvE c μ W (tCB (rIsX K a (.ref (c.C k)) d cv) (tCons te (tCons (tC v2) tNil))) (mIsX ks m) := by
  refine Evm.bind (κ := fun v σ H1 (Q : VK) => rIsX K a (.ref (c.C k)) d cv [v, v2] H1 Q) h fun σ H F O sl x dv Q re rx g => ?_
  cases rx with
  | @exn0 a' k' ha =>
    rw [hx] at ha
    cases ha
    dsimp only at g
    cases e : ks.lookup k with
    | none => rw [e] at g; exact g.elim
    | some b =>
      rw [e] at g
      obtain ⟨h1, h2⟩ := hK k b e
      exact ⟨_, v2, b, rfl, rfl, (fun _ z => nomatch z), h1, hv2, h2, g _ F H O (Stp.refl _ _ _) re (.bl b)⟩
  | @exn a' dd k' fs vs ds ha hd h3 h4 h5 =>
    rw [hx] at ha
    cases ha
    dsimp only at g
    cases e : ks.lookup k with
    | none => rw [e] at g; exact g.elim
    | some b =>
      rw [e] at g
      obtain ⟨h1, h2⟩ := hK k b e
      exact ⟨_, v2, b, rfl, rfl, (fun d2 z => by cases z; exact ⟨_, re.ag.xd hd⟩), h1, hv2, h2, g _ F H O (Stp.refl _ _ _) re (.bl b)⟩
  | _ => exact g.elim
variable {x : Str} {e : Expr} {p p2 pos : Pos} {te : TE} {m : ME}
/-- .. C a class of the program -/
theorem xe_isX (B : Bears X c a k d) (K0 : PySem.W.Frag) (ks : List (Nat × Bool)) {C : Addr} (hm : X.mg "isinstance" = none) (gC : X.mg x = some (.ref C)) (hK : Isx K0 c (.ref C) ks) (h : XE X c μ W e te m) (hK0 : X.K = K0 := by rfl)
    (hg : Gl X "isinstance" := by rfl) (hg2 : Gl X x := by rfl) (hdb : (x == ("__debug__" : Str)) = false := by decide)
    (he : starEach [e, .Name x p2] X.env = (false, eval e X.env) :: starEach [.Name x p2] X.env := by rfl) (he2 : starEach [.Name x p2] X.env = (false, eval (.Name x p2) X.env) :: starEach [] X.env := by rfl) (hpl : (backTo pos (starEach [.Name x p2] X.env)).any (·.1) = false := by rfl) :
    XE X c μ W (.Call (.Name "isinstance" p) [e, .Name x p2] [] pos) (tCB (rIsX K0 a (.ref (c.C k)) d (.ref C)) (tCons te (tCons (tC (.ref C)) tNil))) (mIsX ks m) := by
  subst hK0
  exact ⟨pe_callB (call_isX B) hg hm (by decide +kernel) (pa_cons h.pe (pa_cons (pe_glob hg2 gC rfl hdb) pa_nil he2) he) (by decide) (by decide) he hpl, ev_isX B.xa hK (fun u r => r) h.ev⟩
/-- .. a built-in one -/
theorem xe_isXT (B : Bears X c a k d) (K0 : PySem.W.Frag) (ks : List (Nat × Bool)) {T : String} (hm : X.mg "isinstance" = none) (gC : X.mg x = none) (hK : Isx K0 c (.type T) ks) (h : XE X c μ W e te m) (hv : bootBuiltins x = some (.type T) := by decide +kernel) (hK0 : X.K = K0 := by rfl)
    (hg : Gl X "isinstance" := by rfl) (hg2 : Gl X x := by rfl) (hn : x ≠ "__name__" := by decide) (hdb : (x == ("__debug__" : Str)) = false := by decide)
    (he : starEach [e, .Name x p2] X.env = (false, eval e X.env) :: starEach [.Name x p2] X.env := by rfl) (he2 : starEach [.Name x p2] X.env = (false, eval (.Name x p2) X.env) :: starEach [] X.env := by rfl) (hpl : (backTo pos (starEach [.Name x p2] X.env)).any (·.1) = false := by rfl) :
    XE X c μ W (.Call (.Name "isinstance" p) [e, .Name x p2] [] pos) (tCB (rIsX K0 a (.ref (c.C k)) d (.type T)) (tCons te (tCons (tC (.ty T)) tNil))) (mIsX ks m) := by
  subst hK0
  exact ⟨pe_callB (call_isX B) hg hm (by decide +kernel) (pa_cons h.pe (pa_cons (pe_bltn hg2 gC hv rfl hn hdb) pa_nil he2) he) (by decide) (by decide) he hpl, ev_isX B.xa hK (fun u r => r) h.ev⟩
/-- e.f -/
theorem pe_xfB {f : Str} (B : Bears X c a k d) (T : XfC X.K (c.C k)) (hno : PySem.W.findIn X.K (.ref (c.C k)) f = some none) (he : PE X e te) (hb : attributeBase e f X.env (eval e X.env) = eval e X.env := by rfl) :
    PE X (.Attribute e f pos) (tXf a (.ref (c.C k)) d (c.C k) f te) := by
  obtain ⟨oe, hp, hz, hf⟩ := B.pn
  refine ⟨fun pins s σ H Q I h => ?_⟩
  refine attr_of hb (thn (he.run pins s σ H _ I h) fun u s1 hh => ?_)
  obtain ⟨x, H1, I1, rx, ex, ec, dd, fs, v, ed, ea, l, q⟩ := hh
  subst ex
  obtain rfl : u = Value.ref a := rx
  subst ed
  obtain ⟨ha, _⟩ := I1.pin (a, oe) (List.mem_append_left _ hp)
  obtain ⟨vs, hd⟩ := hf
  have hx : ObjOk X.prog X.w H1 s1.heap dd (.xd fs) := I1.hok dd _ ea
  obtain ⟨mA, hns, hr⟩ := hx
  obtain ⟨od, ho, hl⟩ := lookIn_ns hns
  obtain ⟨u, hu, ru⟩ := RelO.some_of (v := v) (o := mA f) (by rw [← l]; exact hr f)
  have J : PySem.W.InstAt s1.heap a oe (c.C k) (some od) := ⟨ha, hz.1, by unfold PySem.W.notCls; rw [hd] <;> rfl, by rw [hz.2.1]; exact ho⟩
  exact HandSPX.exc_get I1.kIn J T.ga T.gg T.exC (PySem.W.findObj_own T.hdC hno rfl (by rw [hl, hu])) (handed_of ru) ⟨v, H1, I1.tok _, ru, q⟩
def mXf (k j : Nat) (m : ME) : ME := fun sl => (m sl).bind fun d s => match d with
  | .exn k' ds => R.ofO (if k' = k then ds[j]? else none) s
  | _ => .err
theorem xe_xf {j : Nat} {f : Str} (B : Bears X c a k d) (T : XfC X.K (c.C k)) (hno : PySem.W.findIn X.K (.ref (c.C k)) f = some none) (nd : (c.nm k).Nodup) (hf : (c.nm k)[j]? = some f) (h : XE X c μ W e te m) (hb : attributeBase e f X.env (eval e X.env) = eval e X.env := by rfl) :
    XE X c μ W (.Attribute e f pos) (tXf a (.ref (c.C k)) d (c.C k) f te) (mXf k j m) := ⟨pe_xfB B T hno h.pe hb, by
  have hx := B.xa
  refine Evm.bind (κ := fun x σ H1 (Q : VK) => x = .ref a ∧ (Value.ref (c.C k)) = .ref (c.C k) ∧ ∃ (dd : Addr) (fs : List (Str × V)) (v : V), d = some dd ∧ H1 dd = some (.xd fs) ∧ fs.lookup f = some v ∧ Q v H1) h.ev fun σ H F O sl x dv Q re rx g => ?_
  cases rx with
  | @exn0 a' k' ha =>
    have g2 : GX (rD c) c μ W F H O σ Q (R.ofO (if k' = k then ([] : List D)[j]? else none) sl) := g
    split at g2
    · simp at g2
      exact g2.elim
    · exact g2.elim
  | @exn a' dd k' fs vs ds ha hd h3 h4 h5 =>
    rw [hx] at ha
    cases ha
    have g2 : GX (rD c) c μ W F H O σ Q (R.ofO (if k = k then ds[j]? else none) sl) := g
    rw [if_pos rfl] at g2
    cases ed : ds[j]? with
    | none => rw [ed] at g2; exact g2.elim
    | some dj =>
      rw [ed] at g2
      obtain ⟨v, e1, e2⟩ := h5.get ed
      refine ⟨rfl, rfl, dd, fs, v, rfl, re.ag.xd hd, ?_, g2 v F H O (Stp.refl _ _ _) re e2⟩
      rw [fld_at h3 nd hf (List.getElem?_eq_some_iff.mp ed).1, ← h4]
      exact e1
  | _ => exact g.elim⟩
end
end MM

set_option Elab.async false
set_option linter.all false
set_option maxRecDepth 100000
set_option maxHeartbeats 4000000
/-! The value layer: exceptions with their own __init__; makers that may raise. -/
namespace L2N
open PySem PySem.Spec PyProof.Rows L2
section
variable {X : Cx} {o e : Expr} {es : List Expr} {to te : TE} {ta : TA} {f : Str} {p p' p1 p2 pos : Pos}
theorem pe_seinit {S : Str} {D : Addr} {pl : Sem Bool} (hg : Gl X S) (hm : X.mg S = some (.ref D)) (r : ClX.CRead X.K D (.type "type")) (vV : PySem.W.findCls X.K (.ref D) (.type "type") "__init__" = some (.val (.builtin "ValueError.__init__"))) (ha : PA X (e :: es) ta)
    (hdb : (S == ("__debug__" : Str)) = false := by decide)
    (hc : eval (.Call (.Attribute (.Name S p1) "__init__" p2) (e :: es) [] pos) X.env = (do
      let ov ← eval (.Name S p1) X.env
      standAt p2.atName
      let (f, first) ← holding [ov] (getMethod ov "__init__" pl)
      callWith pos f first (backTo pos (starEach (e :: es) X.env)) (backToKw pos (keywordEach [] X.env))) := by rfl)
    (he : starEach (e :: es) X.env = (false, eval e X.env) :: starEach es X.env := by rfl) (hpl : (backTo pos (starEach es X.env)).any (·.1) = false := by rfl) :
    PE X (.Call (.Attribute (.Name S p1) "__init__" p2) (e :: es) [] pos) (tVeI X.K ta) := by
  refine ⟨fun pins s σ H Q I h => ?_⟩
  refine PySem.W.methodCall_KW (ld_glob I hg hm ?_ hdb) hc
  refine PySem.W.method_cls I.kIn r.ga (PySem.W.cls_value I.kIn r.rd vV (by rfl) ?_)
  show wpAny _ _ (callWith pos (Value.builtin "ValueError.__init__") [] (backTo pos (starEach (e :: es) X.env)) []) _ _ _
  refine PyProof.Rows.callWith_method1 (thn (ha.run pos pins _ σ H _ (I.tok _) h) fun us s1 ⟨vs, H1, I1, r1, a, C, ws, ev, hl, T, ea, q⟩ => ?_) he hpl
  subst ev
  cases r1 with
  | @cons _ u0 _ ur ra rw' =>
    obtain rfl : u0 = Value.ref a := ra
    have hlen : ur.length ≤ sizeLine := by
      rw [← Paired.length rw', sizeLine_eq]
      omega
    exact oinit_ok T I1 ea hlen fun s' J => ⟨.non, H1, J, rfl, q⟩
theorem mk_end {pins : List (Addr × Obj)} {σ : St} {H1 H2 : Hp} {Q : XK} {hp hp2 h2 : Heap} {g1 g2 : Array GenState} {d1 d2 : Drawn} {t1 t2 : Nat} {os1 os2 : OsState} {a C d : Addr} {fs : List (Str × V)} (T : Raises X (.ref C)) (I1 : Inv X pins σ H1 ⟨hp, g1, d1, t1, os1⟩)
    (ha : hp.objs.size ≤ a) (k : ∀ b o, hp.get? b = some o → hp2.get? b = some o) (un : Un (frs X.stack) [] (upd H1 a (exo a C none)) H2 hp2 h2) (hok : HOk X.prog X.w H2 h2) (ho : os2 = os1) (hb : AllBare g2)
    (ea : H2 a = some (exo a C (some d))) (ed : H2 d = some (exd d fs)) (hd1 : H1 d = none) (q : Q (.ref C) (some d) (upd (del H2 a) d (.xd fs))) : MkP X pins σ Q (.ref a) ⟨h2, g2, d2, t2, os2⟩ := by
  obtain ⟨t0, G, J, kG, ge, hoe, na⟩ := mk_end0 (d2 := d2) (t2 := t2) I1 ha k un hok ho hb ea ed hd1
  exact ⟨a, _, _, ⟨G, g2, d2, t2, os2⟩, _, .ref C, some d, rfl, J, kG, ge, hoe, ⟨rfl, rfl, fun vs e => by cases e; rfl⟩, rfl, rfl, na, rfl, hb, T, q⟩
theorem pmk_oex {CX : CXT} {x : Str} {C fI : Addr} {k : Nat} {fd : FuncData} {ps : List Str} {sp : Sp} {ds : List Value} {dvs : List V} (T : OexC X.K C) (iC : PySem.W.findIn X.K (.ref C) "__init__" = some (some (.ref fI))) (tI : PySem.W.typeIn X.K (.ref fI) = some (.type "function"))
    (F1 : FnOk X.prog X.w X.K X.mg X.base CX k fI fd ps sp) (hr : Room (k + 1) X.A) (hb : Binds X.K fd ps ds) (hd : Vals dvs ds) (hx : Passes CX X (fun _ _ _ => False)) (hg : Gl X x) (hm : X.mg x = some (.ref C)) (ha : PA X (e :: es) ta)
    (hdb : (x == ("__debug__" : Str)) = false := by decide) (he : starEach (e :: es) X.env = (false, eval e X.env) :: starEach es X.env := by rfl) (hpl : (backTo pos (starEach es X.env)).any (·.1) = false := by rfl) :
    PMk X (.Call (.Name x p) (e :: es) [] pos) (tMkO C sp dvs ta) := by
  intro pins s σ H Q I h
  obtain ⟨nm, q, N, bs, bm, sn, sub, ab, col, dd, k0, k1, k2, k3, k5, hC, hbm⟩ := T.cls
  refine wpAny_Call_Name_kw (ld_glob I hg hm ?_ hdb)
  refine PySem.W.callWith_K (h₀ := X.base) I.ok.mod.kin T.kC (thn (ha.run pos pins s σ H _ I h) fun us s1 ⟨vs, H1, I1, r1, hz, q1⟩ => ⟨I1.kIn, ?_⟩) he hpl
  show wpAny _ _ (call (.ref C) us) _ _ _
  obtain ⟨hp, g, dr, tk, os⟩ := s1
  have hsz : hp.objs.size ≤ hp.objs.size + 1 := Nat.le_succ _
  have hn : H1 (hp.objs.size + 1) = none := I1.hok.fresh hsz
  have hq := q1 (hp.objs.size + 1) hn
  have kk : ∀ b o, hp.get? b = some o → ((hp.push (PySem.W.kdv_tup us)).push (PySem.HandSPX.excO C hp.objs.size)).get? b = some o := fun b o e => Heap.get?_push_of_some _ (Heap.get?_push_of_some _ e)
  have hget : ((hp.push (PySem.W.kdv_tup us)).push (PySem.HandSPX.excO C hp.objs.size)).get? (hp.objs.size + 1) = some (PySem.HandSPX.excO C hp.objs.size) := by heap_get
  have I2 : Inv X pins σ (upd H1 (hp.objs.size + 1) (exo (hp.objs.size + 1) C none)) ⟨(hp.push (PySem.W.kdv_tup us)).push (PySem.HandSPX.excO C hp.objs.size), g, dr, tk, os⟩ :=
    I1.laid (t' := tk) (a := hp.objs.size + 1) (o := exo (hp.objs.size + 1) C none) (h' := (hp.push (PySem.W.kdv_tup us)).push (PySem.HandSPX.excO C hp.objs.size)) kk hsz (exo_ok hget)
  have r2 : Vals (V.ref (hp.objs.size + 1) :: (vs ++ dvs)) (Value.ref (hp.objs.size + 1) :: (us ++ ds)) := .cons rfl (r1.append hd)
  have hl : (Value.ref (hp.objs.size + 1) :: us ++ ds).length = ps.length := by
    have e := r2.length
    rw [F1.len _ _ _ _ hq] at e
    exact e.symm
  have hus : us.length ≤ sizeLine := by
    rw [← Paired.length r1, sizeLine_eq]
    omega
  refine wpAny_call (PySem.HandSPX.call_own F.excBase_ValueError (fun Y => PySem.HandSPX.refsVE_contains Y bm hbm) (I1.kIn _ _ hC) (PySem.W.looks_findIn I1.kIn iC) (fun self => PySem.W.bind_fn I1.kIn self tI) hus
    (codeAny_mono (F1.run _ X.stack _ _ ⟨Value.ref (hp.objs.size + 1) :: us, []⟩ (Value.ref (hp.objs.size + 1) :: (us ++ ds)) _ _ (fun _ _ _ => False) (hr.make C us []) (I2.env0.make C us []) (hb _ (Value.ref (hp.objs.size + 1) :: us) I2.kIn hl) r2 hq) fun r s' hq' => ?_))
  cases r with
  | error er => exact hx pins σ _ _ er s' I2 hq'
  | ok fl =>
    cases fl with
    | ret u =>
      obtain ⟨v, H2, os2, bare2, un2, hok2, rv, ev, d, fs, ea, ed, hd1, q2⟩ := hq'
      subst ev
      obtain ⟨h2, g2, d2, t2, os'⟩ := s'
      exact ⟨rv, mk_end (raises_own T.exC T.tyC) I1 hsz kk un2 hok2 os2 bare2 ea ed hd1 q2⟩
    | next => exact False.elim hq'
    | brk => exact False.elim hq'
    | cont => exact False.elim hq'
end
/-! ### C(e, ..), where __init__ may raise -/
section
variable {X : Cx} {CX : CXT} {k : Nat} {f C : Addr} {fd : FuncData} {ps : List Str} {sp : Sp} {E : St → XK} {x : Str} {p pos : Pos} {e : Expr} {es : List Expr} {t : TA} {ds : List Value} {dvs : List V}
theorem run_makeS {pins : List (Addr × Obj)} {σ : St} {H : Hp} {s : Shared} {Q : VK} {us : List Value} {vs : List V} (M : Mk X.K C f) (F : FnOk X.prog X.w X.K X.mg X.base CX k f fd ps sp) (hr : Room (k + 1) X.A) (hb : Binds X.K fd ps ds) (hd : Vals dvs ds)
    (hx : PassesAt CX X σ (E σ)) (I : Inv X pins σ H s) (r : Vals vs us)
    (h : ∀ x dx, H x = none → H dx = none → dx ≠ x → sp (.ref x :: (vs ++ dvs)) (upd (upd H dx (.own x)) x (.ins C dx [])) (fun v H2 => v = .non ∧ Q (.ref x) H2) (E σ)) :
    wpAny (model X.prog X.w) X.A (call (.ref C) us) (EP X pins σ Q) X.xe s := by
  have hq := h (s.heap.objs.size + 1) s.heap.objs.size (I.hok.fresh (Nat.le_succ _)) (I.hok.fresh (Nat.le_refl _)) (Nat.ne_of_lt (Nat.lt_succ_self _))
  have I2 := Inv.made (C := C) I
  have r2 : Vals (V.ref (s.heap.objs.size + 1) :: (vs ++ dvs)) (Value.ref (s.heap.objs.size + 1) :: (us ++ ds)) := .cons rfl (r.append hd)
  have hl : (Value.ref (s.heap.objs.size + 1) :: us ++ ds).length = ps.length := by
    have e := r2.length
    rw [F.len _ _ _ _ hq] at e
    exact e.symm
  refine wpAny_call (make_map (f := f) I.kIn M.makes M.init (beq_iff_eq.mp M.fn) (codeAny_mono (F.run _ X.stack _ _ ⟨Value.ref (s.heap.objs.size + 1) :: us, []⟩ (Value.ref (s.heap.objs.size + 1) :: (us ++ ds)) _ _ (E σ) (hr.make C us [])
    (I2.env0.make C us []) (hb _ (Value.ref (s.heap.objs.size + 1) :: us) I2.kIn hl) r2 hq) fun r s' hq' => ?_))
  cases r with
  | error e => exact hx pins _ _ e s' I2 hq'
  | ok fl =>
    cases fl with
    | ret u =>
      obtain ⟨v, H', I3, rv, ev, q3⟩ := I2.after hq'
      subst ev
      exact ⟨rv, ⟨V.ref (s.heap.objs.size + 1), H', I3, rfl, q3⟩⟩
    | next => exact False.elim hq'
    | brk => exact False.elim hq'
    | cont => exact False.elim hq'
def tMakeS (C : Addr) (sp : Sp) (E : St → XK) (t : TA) : TE := fun σ H Q => t σ H fun vs H1 => ∀ x dx, H1 x = none → H1 dx = none → dx ≠ x →
  sp (.ref x :: (vs ++ [])) (upd (upd H1 dx (.own x)) x (.ins C dx [])) (fun v H2 => v = .non ∧ Q (.ref x) H2) (E σ)
theorem pe_makeS (M : Mk X.K C f) (F : FnOk X.prog X.w X.K X.mg X.base CX k f fd ps sp) (hr : Room (k + 1) X.A) (hg : Gl X x) (hm : X.mg x = some (.ref C)) (hb : Binds X.K fd ps []) (hx : ∀ σ, PassesAt CX X σ (E σ))
    (ha : PA X (e :: es) t) (hdb : (x == ("__debug__" : Str)) = false := by decide) (he : starEach (e :: es) X.env = (false, eval e X.env) :: starEach es X.env := by rfl) (hpl : (backTo pos (starEach es X.env)).any (·.1) = false := by rfl) :
    PE X (.Call (.Name x p) (e :: es) [] pos) (tMakeS C sp E t) := by
  refine ⟨fun pins s σ H Q I h => ?_⟩
  refine wpAny_Call_Name_kw (ld_glob I hg hm ?_ hdb)
  refine PySem.W.callWith_K (h₀ := X.base) I.ok.mod.kin M.kp (thn (ha.run pos pins s σ H _ I h) fun us s1 ⟨vs, H1, I1, r, q⟩ => ⟨I1.kIn, ?_⟩) he hpl
  exact run_makeS M F hr hb .nil (hx σ) I1 r q
end
end L2N

set_option Elab.async false
set_option linter.all false
set_option maxRecDepth 100000
set_option maxHeartbeats 4000000
/-! The value layer: exceptions with their own __init__, as rules. -/
namespace MM
open PySem PySem.Spec PyProof.Rows L2
/-! ### facts -/
def oexB (K : PySem.W.Frag) (C : Addr) : Bool := (match K.lookup C with
  | some ⟨.type "type", _, .cls cd, sl⟩ => (match cd.mro, sl.toList with
    | .ref C' :: bm, [_, _, _, _, some (.builtin n), _] => C' == C && (n == "ValueError.__new__" && (!cd.hasDel && (cd.hasDict && PySem.HandSPX.refsVE bm)))
    | _, _ => false)
  | _ => false) && (He.eqO (PySem.W.findIn K (.ref C) "__setattr__") (some (some (.builtin "object.__setattr__"))) && (decide (PySem.W.subIn K (.ref C) (.type "BaseException") = some true) && (decide (PySem.W.typeIn K (.ref C) = some (.type "type")) && PySem.W.keepIn K (.ref C))))
theorem oexB_ok {K : PySem.W.Frag} {C : Addr} (h : oexB K C = true) : OexC K C := by
  unfold oexB at h
  obtain ⟨h0, h⟩ := He.ba h
  obtain ⟨h1, h⟩ := He.ba h
  obtain ⟨h2, h⟩ := He.ba h
  obtain ⟨h3, h4⟩ := He.ba h
  refine ⟨?_, He.eqO_ok h1, of_decide_eq_true h2, of_decide_eq_true h3, h4⟩
  split at h0
  · rename_i dd cd sl ho
    split at h0
    · rename_i C' bm k0 k1 k2 k3 n k5 hm hs
      simp only [Bool.and_eq_true, beq_iff_eq, Bool.not_eq_true'] at h0
      obtain ⟨rfl, rfl, hdel, hdct, hb⟩ := h0
      obtain ⟨nm, bs, mro, ns, qn, hd, sn, sub, ab, col, del⟩ := cd
      dsimp only at hm hdel hdct
      subst hm hdel hdct
      have hsl : sl = #[k0, k1, k2, k3, some (.builtin "ValueError.__new__"), k5] := by
        obtain ⟨l⟩ := sl
        simp only at hs
        rw [hs]
      subst hsl
      exact ⟨nm, qn, ns, bs, bm, sn, sub, ab, col, dd, k0, k1, k2, k3, k5, ho, hb⟩
    · cases h0
  · cases h0
/-- S.__init__ is ValueError's -/
def seiB (K : PySem.W.Frag) (S : Addr) : Bool := PySem.W.readsIn K S (.type "type") && (He.eqO (PySem.W.specialIn K (.ref S) "__getattribute__") (some (some (.builtin "type.__getattribute__"))) && (match PySem.W.findCls K (.ref S) (.type "type") "__init__" with
  | some (.val (.builtin n)) => n == "ValueError.__init__"
  | _ => false))
structure Sei (K : PySem.W.Frag) (S : Addr) : Prop where
  r : ClX.CRead K S (.type "type")
  v : PySem.W.findCls K (.ref S) (.type "type") "__init__" = some (.val (.builtin "ValueError.__init__"))
theorem seiB_ok {K : PySem.W.Frag} {S : Addr} (h : seiB K S = true) : Sei K S := by
  unfold seiB at h
  obtain ⟨h0, h⟩ := He.ba h
  obtain ⟨h1, h2⟩ := He.ba h
  refine ⟨⟨h0, He.eqO_ok h1⟩, ?_⟩
  split at h2
  · rename_i n e
    rw [e, beq_iff_eq.mp h2]
  · cases h2
/-! ### __init__ -/
/-- two fields from the parameters -/
def spE2 (C : Addr) (f1 f2 : Str) : Sp := fun vs H Q E => ∃ (a : Addr) (v1 v2 : V), vs = [.ref a, v1, v2] ∧ H a = some (exo a C none) ∧ ∀ d, H d = none → d ≠ a → Q .non (upd (upd (upd H d (exd d [(f1, v1)])) a (exo a C (some d))) d (exd d [(f2, v2), (f1, v1)]))
def spE1 (C : Addr) (f1 : Str) : Sp := fun vs H Q E => ∃ (a : Addr) (v1 : V), vs = [.ref a, v1] ∧ H a = some (exo a C none) ∧ ∀ d, H d = none → d ≠ a → Q .non (upd (upd H d (exd d [(f1, v1)])) a (exo a C (some d)))
section
variable {P : Program} {w : World} {K : PySem.W.Frag} {mg : Str → Option Value} {base : Heap}
theorem fn_e2 {x qual : Str} {params : Arguments} {body : List Stmt} {scope : Scope} {f C : Addr} {fd : FuncData} {ps : List Str} {f1 f2 : Str} (k : Nat) (F : FunD K x qual params body scope [] [] f fd) (S : FnScope ps ps scope) (hl : ps.length = 3)
    (T : OexC K C) (h1 : PySem.W.findIn K (.ref C) f1 = some none) (h2 : PySem.W.findIn K (.ref C) f2 = some none)
    (hb : ∀ (cdv : Value) (A : Around) (outer : List Env) (s : Shared) (H : Hp) (E : XK), PSs (cxOf CX0 P w K mg base ps qual scope f cdv A outer s H E) body (tSeq (tDrop (tVeI K (tCons (tVar 0) (tCons (tVar 2) tNil)))) (tSeq (tOst K f1 (tVar 0) (tVar 1)) (tOst K f2 (tVar 0) (tVar 2))))) :
    FnOk P w K mg base CX0 (k + 1) f fd ps (spE2 C f1 f2) := by
  refine F.ok S (fun vs H Q E h => by obtain ⟨a, v1, v2, rfl, _⟩ := h; rw [hl]; rfl) (fun cdv A outer s H vs Q E hr h => ⟨_, hb cdv A outer s H E, ?_⟩)
  obtain ⟨a, v1, v2, rfl, ha, hq⟩ := h
  have e0 : (L2.start ps [V.ref a, v1, v2])[0]? = some (some (.ref a)) := rfl
  have e1 : (L2.start ps [V.ref a, v1, v2])[1]? = some (some v1) := rfl
  have e2 : (L2.start ps [V.ref a, v1, v2])[2]? = some (some v2) := rfl
  refine ⟨_, e0, _, e2, a, C, [v2], rfl, by simp, T, ha, ?_⟩
  refine ⟨_, e1, _, e0, a, C, rfl, T, h1, .inl ⟨ha, fun dx hd ne => ?_⟩⟩
  refine ⟨_, e2, _, e0, a, C, rfl, T, h2, .inr ⟨dx, [(f1, v1)], upd_same, ?_, by simp, ?_⟩⟩
  · rw [upd_ne ne]
    exact upd_same
  · exact hq dx hd ne
theorem fn_e1 {x qual : Str} {params : Arguments} {body : List Stmt} {scope : Scope} {f C : Addr} {fd : FuncData} {ps : List Str} {f1 m : Str} (k : Nat) (F : FunD K x qual params body scope [] [] f fd) (S : FnScope ps ps scope) (hl : ps.length = 2)
    (T : OexC K C) (h1 : PySem.W.findIn K (.ref C) f1 = some none)
    (hb : ∀ (cdv : Value) (A : Around) (outer : List Env) (s : Shared) (H : Hp) (E : XK), PSs (cxOf CX0 P w K mg base ps qual scope f cdv A outer s H E) body (tSeq (tDrop (tVeI K (tCons (tVar 0) (tCons (tC (.str m)) tNil)))) (tOst K f1 (tVar 0) (tVar 1)))) :
    FnOk P w K mg base CX0 (k + 1) f fd ps (spE1 C f1) := by
  refine F.ok S (fun vs H Q E h => by obtain ⟨a, v1, rfl, _⟩ := h; rw [hl]; rfl) (fun cdv A outer s H vs Q E hr h => ⟨_, hb cdv A outer s H E, ?_⟩)
  obtain ⟨a, v1, rfl, ha, hq⟩ := h
  have e0 : (L2.start ps [V.ref a, v1])[0]? = some (some (.ref a)) := rfl
  have e1 : (L2.start ps [V.ref a, v1])[1]? = some (some v1) := rfl
  refine ⟨_, e0, a, C, [.str m], rfl, by simp, T, ha, ?_⟩
  refine ⟨_, e1, _, e0, a, C, rfl, T, h1, .inl ⟨ha, fun dx hd ne => ?_⟩⟩
  exact hq dx hd ne
end
/-! ### raise C(e, ..) -/
def mRaiseO (k np : Nat) (n : MA) : MS := fun sl => (n sl).bind fun ds s => if ds.length = np then .exc k ds.reverse s else .err
section
variable {c : CI} {X : Cx} {μ : Ms} {ρ : Bool} {W : WX}
theorem del_none {H : Hp} {a : Addr} (h : H a = none) : L2.del H a = H := by
  funext b
  unfold L2.del
  split
  · rename_i e
    rw [e, h]
  · rfl
/-- the new exception's fields -/
theorem exo_end {k : Nat} {F H : Hp} {σ : St} {sl : Sl} {O : Os} {E : Ends} {ds : List D} {fs : List (Str × V)} {d : Addr} (re : Re c μ F H σ sl O) (hd : H d = none) (hn : fs.map (·.1) = (c.nm k).take ds.reverse.length) (rs : Rps c F (fs.map (·.2)) ds.reverse)
    (g : GS c μ ρ W F H O σ E (.exc k ds.reverse sl)) : W (.ref (c.C k)) (some d) σ (upd H d (.xd fs)) :=
  g (some d) σ (upd F d (.xd fs)) (upd H d (.xd fs)) O (Stp.add _ re.ag hd) (re.add _ hd) (Pin.refl _ _) (.inr ⟨d, fs, rfl, upd_same, hn, rs.mono (Le.new _ (re.ag.non hd))⟩)
theorem xs_raise2 (k : Nat) {f1 f2 x : Str} {C fI : Addr} {fd : FuncData} {ps : List Str} {kk : Nat} {e : Expr} {es : List Expr} {t : TA} {n : MA} {p pos pos' : Pos} (T : OexC X.K C) (M : Meth X.K C "__init__" fI) (F1 : FnOk X.prog X.w X.K X.mg X.base CX0 kk fI fd ps (spE2 C f1 f2)) (hr : Room (kk + 1) X.A) (hb : Binds X.K fd ps [])
    (gC : X.mg x = some (.ref C)) (ha : XA X c μ W (e :: es) t n) (hc : X.calm = true) (tk : L2N.Takes X W) (hC : c.C k = C := by rfl) (hnm : c.nm k = [f2, f1] := by rfl) (hg : Gl X x := by rfl) (hdb : (x == ("__debug__" : Str)) = false := by decide)
    (he : starEach (e :: es) X.env = (false, eval e X.env) :: starEach es X.env := by rfl) (hpl : (backTo pos (starEach es X.env)).any (·.1) = false := by rfl) :
    XS X c μ ρ W (.Raise (some (.Call (.Name x p) (e :: es) [] pos)) none pos') (fun _ σ H => tMkO C (spE2 C f1 f2) [] t σ H fun cls d H' => W cls d σ H') (mRaiseO k 2 n) :=
  ⟨L2N.ps_raise hc tk (L2N.pmk_oex T M.at_ (beq_iff_eq.mp M.fn) F1 hr hb .nil pass0 hg gC ha.pa hdb he hpl), fun σ H F O sl E re g => by
    have g : GS c μ ρ W F H O σ E ((n sl).bind fun ds s => if ds.length = 2 then .exc k ds.reverse s else .err) := g
    refine ha.ev σ H F O sl _ re ?_
    revert g
    cases en : n sl with
    | err => exact fun g => g
    | exc k2 fs2 s => exact fun g dd F' H' O' st re' x => g dd σ F' H' O' st re' (Pin.refl _ _) x
    | ok ds s =>
      intro g vs F' H' O' st re' rs
      have g : GS c μ ρ W F H O σ E (if ds.length = 2 then .exc k ds.reverse s else .err) := g
      split at g
      · rename_i h2
        match ds, h2, rs, g with
        | [d1, d2], _, .cons (v := v1) r1 (.cons (v := v2) r2 .nil), g =>
          refine ⟨by simp, fun a hna => ⟨a, v1, v2, rfl, upd_same, fun d hd ne => ⟨rfl, d, [(f2, v2), (f1, v1)], ?_, upd_same, ?_, ?_⟩⟩⟩
          · rw [upd_ne (Ne.symm ne)]
            exact upd_same
          · rw [upd_ne ne] at hd
            exact hd
          · rw [upd_ne ne] at hd
            have e : upd (L2.del (upd (upd (upd (upd H' a (exo a C none)) d (exd d [(f1, v1)])) a (exo a C (some d))) d (exd d [(f2, v2), (f1, v1)])) a) d (.xd [(f2, v2), (f1, v1)]) = upd H' d (.xd [(f2, v2), (f1, v1)]) := by
              funext b
              by_cases h1 : b = d
              · rw [h1, upd_same, upd_same]
              · rw [upd_ne h1, upd_ne h1]
                by_cases h2 : b = a
                · rw [h2, L2.del_same, hna]
                · rw [L2.del_ne h2, upd_ne h1, upd_ne h2, upd_ne h1, upd_ne h2]
            rw [e, ← hC]
            exact exo_end (ds := [d1, d2]) re' hd (by rw [hnm]; rfl) (.cons r2 (.cons r1 .nil)) (GS.from st (Pin.refl _ _) g)
      · exact g.elim⟩
theorem xs_raise1 (k : Nat) {f1 x : Str} {C fI : Addr} {fd : FuncData} {ps : List Str} {kk : Nat} {e : Expr} {es : List Expr} {t : TA} {n : MA} {p pos pos' : Pos} (T : OexC X.K C) (M : Meth X.K C "__init__" fI) (F1 : FnOk X.prog X.w X.K X.mg X.base CX0 kk fI fd ps (spE1 C f1)) (hr : Room (kk + 1) X.A) (hb : Binds X.K fd ps [])
    (gC : X.mg x = some (.ref C)) (ha : XA X c μ W (e :: es) t n) (hc : X.calm = true) (tk : L2N.Takes X W) (hC : c.C k = C := by rfl) (hnm : c.nm k = [f1] := by rfl) (hg : Gl X x := by rfl) (hdb : (x == ("__debug__" : Str)) = false := by decide)
    (he : starEach (e :: es) X.env = (false, eval e X.env) :: starEach es X.env := by rfl) (hpl : (backTo pos (starEach es X.env)).any (·.1) = false := by rfl) :
    XS X c μ ρ W (.Raise (some (.Call (.Name x p) (e :: es) [] pos)) none pos') (fun _ σ H => tMkO C (spE1 C f1) [] t σ H fun cls d H' => W cls d σ H') (mRaiseO k 1 n) :=
  ⟨L2N.ps_raise hc tk (L2N.pmk_oex T M.at_ (beq_iff_eq.mp M.fn) F1 hr hb .nil pass0 hg gC ha.pa hdb he hpl), fun σ H F O sl E re g => by
    have g : GS c μ ρ W F H O σ E ((n sl).bind fun ds s => if ds.length = 1 then .exc k ds.reverse s else .err) := g
    refine ha.ev σ H F O sl _ re ?_
    revert g
    cases en : n sl with
    | err => exact fun g => g
    | exc k2 fs2 s => exact fun g dd F' H' O' st re' x => g dd σ F' H' O' st re' (Pin.refl _ _) x
    | ok ds s =>
      intro g vs F' H' O' st re' rs
      have g : GS c μ ρ W F H O σ E (if ds.length = 1 then .exc k ds.reverse s else .err) := g
      split at g
      · rename_i h2
        match ds, h2, rs, g with
        | [d1], _, .cons (v := v1) r1 .nil, g =>
          refine ⟨by simp, fun a hna => ⟨a, v1, rfl, upd_same, fun d hd ne => ⟨rfl, d, [(f1, v1)], upd_same, ?_, ?_, ?_⟩⟩⟩
          · rw [upd_ne ne]
            exact upd_same
          · rw [upd_ne ne] at hd
            exact hd
          · rw [upd_ne ne] at hd
            have e : upd (L2.del (upd (upd (upd H' a (exo a C none)) d (exd d [(f1, v1)])) a (exo a C (some d))) a) d (.xd [(f1, v1)]) = upd H' d (.xd [(f1, v1)]) := by
              funext b
              by_cases h1 : b = d
              · rw [h1, upd_same, upd_same]
              · rw [upd_ne h1, upd_ne h1]
                by_cases h2 : b = a
                · rw [h2, L2.del_same, hna]
                · rw [L2.del_ne h2, upd_ne h2, upd_ne h1, upd_ne h2]
            rw [e, ← hC]
            exact exo_end (ds := [d1]) re' hd (by rw [hnm]; rfl) (.cons r1 .nil) (GS.from st (Pin.refl _ _) g)
      · exact g.elim⟩
end
end MM

set_option Elab.async false
set_option linter.all false
set_option maxRecDepth 100000
set_option maxHeartbeats 4000000
/-! The value layer: a maker that may raise. -/
namespace MM
open PySem PySem.Spec PyProof.Rows L2
section
variable {c : CI} {X : Cx} {μ pm : Ms} {W : WX} {f : Sl → R D} {kc k : Nat} {fa : Addr} {fd : FuncData} {ps : List Str} {x : Str} {p pos : Pos} {e : Expr} {es : List Expr} {t : TA} {n : MA}
def mMakeX (kc np : Nat) (f : Sl → R D) (n : MA) : ME := fun sl => (n sl).bind fun ds s => if ds.length + 1 = np then (match f ((.ins kc [] :: ds).map some) with
  | .ok .non s2 => (match s2[0]? with
    | some (some d1) => .ok d1 s
    | _ => .err)
  | .exc k fs _ => .exc k fs s
  | _ => .err) else .err
theorem evo_makeX (h0 : mdOf pm 0 = .pin) (hp : ∀ j, j < pm.length → j ≠ 0 → mdOf pm j = .frz) (h : EvA c μ W t n) : EvO c μ W (L2N.tMakeS (c.C kc) (SpM c pm false f) (WE W) t) (mMakeX kc pm.length f n) := by
  refine Evm.bindO (κ := fun vs σ H1 (Q : VK) => ∀ x dx, H1 x = none → H1 dx = none → dx ≠ x → SpM c pm false f (.ref x :: (vs ++ [])) (upd (upd H1 dx (.own x)) x (.ins (c.C kc) dx [])) (fun v H2 => v = .non ∧ Q (.ref x) H2) (WE W σ)) h fun σ H F O sl vs ds Q re rs g => ?_
  intro x dx hx hdx hne
  rw [List.append_nil]
  have hx2 : upd (upd H dx (.own x)) x (.ins (c.C kc) dx []) x = some (.ins (c.C kc) dx []) := upd_same
  have hdx2 : upd (upd H dx (.own x)) x (.ins (c.C kc) dx []) dx = some (.own x) := by rw [upd_ne hne]; exact upd_same
  have old : ∀ a o, H a = some o → upd (upd H dx (.own x)) x (.ins (c.C kc) dx []) a = some o := fun a o e => by rw [upd_ne (ne_of_none e hx), upd_ne (ne_of_none e hdx)]; exact e
  have al2 : ∀ a, upd (upd H dx (.own x)) x (.ins (c.C kc) dx []) a = none → H a = none := fun a e => upd_al a (upd_al a e)
  have ag2 : Ag c.lk F (upd (upd H dx (.own x)) x (.ins (c.C kc) dx [])) := fun a o e => by
    rcases re.ag a o e with z | ⟨l, kvs, ob, e1, z⟩
    · exact .inl (old a _ z)
    · exact .inr ⟨l, kvs, ob, e1, old a _ z⟩
  have ow : Ow c c.md F (upd (upd H dx (.own x)) x (.ins (c.C kc) dx [])) (.ref x) (.ins kc []) [x, dx] :=
    .ins hx2 hdx2 rfl (.nil _) (List.nodup_cons.mpr ⟨by simpa using Ne.symm hne, by simp⟩)
  have fr : ∀ a, a ∈ [x, dx] → F a = none := fun a ha => by
    rcases List.mem_cons.mp ha with e | e
    · rw [e]; exact re.ag.non hx
    · rw [List.mem_singleton.mp e]; exact re.ag.non hdx
  by_cases hl : ds.length + 1 = pm.length
  · rw [if_pos hl] at g
    refine ⟨by rw [List.length_cons, rs.length]; exact hl, F, _, .ins kc [] :: ds, hl, args_own ag2 ow fr rs h0 hp hl, ?_⟩
    cases e : f ((D.ins kc [] :: ds).map some) with
    | err => rw [e] at g; exact g.elim
    | exc k fs s =>
      rw [e] at g
      intro dd F' H' O' st re' xr
      have in2 : ∀ a, a ∈ [x, dx] → H a = none := fun a ha => by
        rcases List.mem_cons.mp ha with e | e
        · rw [e]; exact hx
        · rw [List.mem_singleton.mp e]; exact hdx
      have stH : Stp F H O F' H' O := ⟨st.ff, fun a o ho n => st.kp a o (old a o ho) (fun l hl => (by rw [in2 a (oc_mem hl)] at ho; cases ho)), fun a o q => by
        rcases st.fo a o q with z | z | ⟨l, z⟩
        · exact .inl z
        · exact .inr (.inl (al2 a z))
        · exact .inr (.inl (in2 a (oc_mem z)))
        , fun i a ha => .inr ⟨i, ha⟩, fun a q => al2 a (st.al a q), fun _ => pk_refl _⟩
      have reH : Re c μ F' H' σ sl O := re.mono st.ff re'.ag (fun i a ha o ho => st.kp a o (old a o ho) (fun l hl => (by rw [in2 a (oc_mem hl)] at ho; cases ho))) fun i a ha => by
        cases q : F' a with
        | none => rfl
        | some o =>
          obtain ⟨u, hu⟩ := re.there ha
          rcases stH.fo a o q with z | z | ⟨l, z⟩
          · rw [re.fre i a ha] at z; cases z
          · rw [hu] at z; cases z
          · rcases st.fo a o q with y | y | ⟨l, y⟩
            · rw [re.fre i a ha] at y; cases y
            · rw [al2 a y] at hu; cases hu
            · rw [in2 a (oc_mem y)] at hu; cases hu
      exact g dd F' H' O stH reH xr
    | ok d s2 =>
      rw [e] at g
      intro v F' H' O' Or st re' hf
      cases d with
      | non =>
        dsimp only at g
        have ev : v = .non := by
          have := hf.1
          cases this
          rfl
        refine ⟨ev, ?_⟩
        split at g
        · rename_i d1 e1
          obtain ⟨v1, g1, ow1⟩ := re'.at_ 0 d1 e1
          have ev1 : v1 = .ref x := by
            have z : some (some (V.ref x)) = some (some v1) := g1
            exact (Option.some.inj (Option.some.inj z)).symm
          subst ev1
          rw [h0] at ow1
          have in2 : ∀ a, a ∈ [x, dx] → H a = none := fun a ha => by
            rcases List.mem_cons.mp ha with e | e
            · rw [e]; exact hx
            · rw [List.mem_singleton.mp e]; exact hdx
          have stH : Stp F H O F' H' O := ⟨st.ff, fun a o ho n => st.kp a o (old a o ho) (fun l hl => (by rw [in2 a (oc_mem hl)] at ho; cases ho)), fun a o q => by
            rcases st.fo a o q with z | z | ⟨l, z⟩
            · exact .inl z
            · exact .inr (.inl (al2 a z))
            · exact .inr (.inl (in2 a (oc_mem z)))
            , fun i a ha => .inr ⟨i, ha⟩, fun a q => al2 a (st.al a q), fun _ => pk_refl _⟩
          have reH : Re c μ F' H' σ sl O := re.mono st.ff re'.ag (fun i a ha o ho => st.kp a o (old a o ho) (fun l hl => (by rw [in2 a (oc_mem hl)] at ho; cases ho))) fun i a ha => by
            cases q : F' a with
            | none => rfl
            | some o =>
              obtain ⟨u, hu⟩ := re.there ha
              rcases stH.fo a o q with z | z | ⟨l, z⟩
              · rw [re.fre i a ha] at z; cases z
              · rw [hu] at z; cases z
              · rcases st.fo a o q with y | y | ⟨l, y⟩
                · rw [re.fre i a ha] at y; cases y
                · rw [al2 a y] at hu; cases hu
                · rw [in2 a (oc_mem y)] at hu; cases hu
          refine g (.ref x) F' H' O (O' 0) stH reH ow1 fun a ha => ?_
          have nH : H a = none := by
            rcases st.ow 0 a ha with z | ⟨l, z⟩
            · exact al2 a z
            · exact in2 a (oc_mem z)
          exact ⟨re'.fre 0 a ha, re.new nH, nH⟩
        · exact g.elim
      | _ => exact g.elim
  · rw [if_neg hl] at g
    exact g.elim
theorem xn_makeX (M : L2.Mk X.K (c.C kc) fa) (F : FnOk X.prog X.w X.K X.mg X.base (L2N.CX X.prog X.w) k fa fd ps (SpM c pm false f)) (hr : Room (k + 1) X.A) (hm : X.mg x = some (.ref (c.C kc))) (hb : Binds X.K fd ps []) (ha : XA X c μ W (e :: es) t n) (tk : L2N.Takes X W)
    (h0 : mdOf pm 0 = .pin := by rfl) (hp : ∀ j, j < pm.length → j ≠ 0 → mdOf pm j = .frz := by decide) (hg : Gl X x := by rfl) (hdb : (x == ("__debug__" : Str)) = false := by decide) (he : starEach (e :: es) X.env = (false, eval e X.env) :: starEach es X.env := by rfl) (hpl : (backTo pos (starEach es X.env)).any (·.1) = false := by rfl) :
    XN X c μ W (.Call (.Name x p) (e :: es) [] pos) (L2N.tMakeS (c.C kc) (SpM c pm false f) (WE W) t) (mMakeX kc pm.length f n) := ⟨L2N.pe_makeS M F hr hg hm hb (L2N.passAt tk) ha.pa hdb he hpl, evo_makeX h0 hp ha.ev⟩
end
end MM

set_option Elab.async false
set_option linter.all false
set_option maxRecDepth 100000
set_option maxHeartbeats 4000000
/-! The value layer: list + list as a new owned list; a new list made of lent things. -/
namespace MM
open PySem PySem.Spec PyProof.Rows L2
section
variable {c : CI} {X : Cx} {μ : Ms} {W : WX} {ta tb : TE} {ma mb : ME} {a b : Expr} {pos : Pos}
def fAddL (x y : D) : Option D := match x, y with
  | .lst xs, .lst ys => if xs.length + ys.length ≤ LB then some (.lst (xs ++ ys)) else none
  | _, _ => none
theorem evo_addL {K : PySem.W.Frag} (ha : EvE c μ W ta ma) (hb : EvE c μ W tb mb) : EvO c μ W (tOp (rAddU K) ta tb) (mOp fAddL ma mb) := by
  refine Evm.bindO (κ := fun x σ H1 (Q : VK) => tb σ H1 fun y H2 => rAddU K x y H2 Q) ha fun σ H F O sl x dx Q re rx g => ?_
  refine hb σ H F O sl _ re ?_
  revert g
  cases e : mb sl with
  | exc k fs sl' => exact fun g => g
  | err => exact fun g => g
  | ok dy s2 =>
    intro g y F' H' O' s re' ry
    have g2 : GO c μ W F H O σ Q (R.ofO (fAddL dx dy) s2) := g
    cases ef : fAddL dx dy with
    | none => rw [ef] at g2; exact g2.elim
    | some d =>
      rw [ef] at g2
      unfold fAddL at ef
      split at ef
      · split at ef
        · rename_i hl
          cases ef
          cases rx with
          | lst h1 z1 r1 =>
            cases ry with
            | lst h2 z2 r2 =>
              refine .inr (.inr (.inl ⟨_, _, _, _, rfl, rfl, re'.ag.lst (s.ff _ _ h1), re'.ag.lst h2, by rw [r1.length, r2.length]; exact Nat.le_of_lt (LB_line hl), ?_⟩))
              exact GO.new re' (GX.toGO s g2) fun p hp => .lst upd_same (by rw [List.length_append]; exact hl) ((r1.mono s.ff).append r2)
        · cases ef
      · cases ef
theorem xn_addLK (K0 : PySem.W.Frag) (ha : XE X c μ W a ta ma) (hb : XE X c μ W b tb mb) (hK : X.K = K0 := by rfl) : XN X c μ W (.BinOp a .Add b pos) (tOp (rAddU K0) ta tb) (mOp fAddL ma mb) := by
  subst hK
  exact ⟨pe_op op_addU ha.pe hb.pe, evo_addL ha.ev hb.ev⟩
/-- a new list of plain things, made while slot i is lent -/
def mBorO (μ : Ms) (i : Nat) (m : ME) : ME := fun sl => match sl[i]? with
  | some (some _) => (match m (mskFrom μ i 0 sl) with
    | .ok (.lst ds) _ => if flatTs ds = true then .ok (.lst ds) sl else .err
    | _ => .err)
  | _ => .err
open Classical in
theorem evo_bor {i : Nat} {t : TE} {m : ME} (hi : i < μ.length) (hm : mdOf μ i = .own ∨ mdOf μ i = .pin) (h : EvO c (μ.set i .frz) W0 t m) : EvO c μ W t (mBorO μ i m) := by
  intro σ H F O sl Q re g
  unfold mBorO at g
  split at g
  · rename_i d0 e0
    refine h σ H _ _ _ Q (re.lent hi hm e0) ?_
    revert g
    cases e : m (mskFrom μ i 0 sl) with
    | err => exact fun g => g.elim
    | exc k fs s => exact fun g => g.elim
    | ok d s =>
      cases d with
      | lst ds =>
        dsimp only
        intro g
        by_cases hf : flatTs ds = true
        · rw [if_pos hf] at g
          intro v F' H' O' Or st re' ow q
          obtain ⟨re2, st2⟩ := re.back st re'.ag
          have rep : ∀ {vs : List V}, Rps c F' vs ds → Rps c (fun b => if ∃ j, b ∈ O j then none else F' b) vs ds := fun rv =>
            flatTs_rep re'.ag (fun a vs ha e => by
              have n : ¬ ∃ j, a ∈ O j := fun ⟨j, hj⟩ => notTup re (fun b o e => st.kp b o e fun j hj => nomatch hj) hj ha
              exact (if_neg n).trans e) rv hf
          cases ow with
          | one ow1 =>
            cases ow1 with
            | lst h1 z r =>
              refine g _ _ H' O _ st2 re2 (.one (.lst h1 z (rep r))) fun a ha => ?_
              obtain ⟨q1, q2, q3⟩ := q a ha
              refine ⟨?_, re.new q3, q3⟩
              show (if ∃ j, a ∈ O j then none else F' a) = none
              split
              · rfl
              · exact q1
        · rw [if_neg hf] at g
          exact g.elim
      | _ => exact fun g => g.elim
  · exact g.elim
/-- text * int -/
def rMulS : R2 := fun x y H Q => ∃ (l : T) (n : Int), x = .str (tS l) ∧ y = .int n ∧ 2 ≤ n ∧ n ≤ 1000 ∧ 1 ≤ l.length ∧ l.length ≤ 1000 ∧ Q (.str (tS (List.replicate n.toNat l).flatten)) H
theorem rep_text (l : T) : ∀ (n : Nat) (acc : Array Nat), (List.replicate n l.toArray).foldl (· ++ ·) acc = acc ++ (List.replicate n l).flatten.toArray
  | 0, acc => by simp
  | n + 1, acc => by
    rw [List.replicate_succ, List.foldl_cons, rep_text l n, List.replicate_succ, List.flatten_cons]
    simp
theorem rep_len (l : T) : ∀ n : Nat, ((List.replicate n l).flatten).length = n * l.length
  | 0 => by simp
  | n + 1 => by
    rw [List.replicate_succ, List.flatten_cons, List.length_append, rep_len l n, Nat.succ_mul, Nat.add_comm]
theorem op_mulS : OpR X (binaryOp .Mult) rMulS := by
  intro pins s σ H x y v u Q I rx ry h
  obtain ⟨l, n, rfl, rfl, h1, h2, h3, h4, q⟩ := h
  obtain ⟨t, rfl⟩ := rx
  obtain ⟨t', rfl⟩ := ry
  have hlen : (tS l).length = l.length := tS_len l
  have hle : l.length * n.toNat ≤ 1000000 := Nat.le_trans (Nat.mul_le_mul h4 (show n.toNat ≤ 1000 by omega)) (by decide)
  have hbig : ¬ n < 1 := by omega
  have hone : ((n == 1) || ((tS l).length == 0)) = false := by
    rw [hlen]
    have a1 : (n == 1) = false := beq_eq_false_iff_ne.mpr (by omega)
    have a2 : (l.length == 0) = false := beq_eq_false_iff_ne.mpr (by omega)
    rw [a1, a2]; rfl
  refine PySem.P.mul_str (by
      have g1 : ¬ n < -(2 ^ 63 : Int) := by omega
      have g2 : ¬ n ≥ 2 ^ 63 := by omega
      rw [decide_eq_false g1, decide_eq_false g2]; rfl) (fun _ _ => by
      rw [hlen]
      have : (1000 : Int) ≤ (2 ^ 63 - 1) / n := by
        rw [Int.le_ediv_iff_mul_le (by omega)]
        have : 1000 * n ≤ 1000 * 1000 := by omega
        omega
      have h4' : (l.length : Int) ≤ 1000 := by omega
      exact Int.not_lt.mpr (Int.le_trans h4' this)) (fun _ _ => by
      rw [hlen]
      unfold PySem.Builtin.Str.tooLong
      simp
      have : (1000000 : Nat) ≤ sizeLine := by rw [sizeLine_eq]; decide
      omega) ?_
  rw [if_neg hbig, if_neg (by rw [hone]; exact Bool.false_ne_true)]
  have e : (⟨(List.replicate n.toNat (tS l).cps).foldl (· ++ ·) #[]⟩ : Str) = tS (List.replicate n.toNat l).flatten := by
    have := rep_text l n.toNat #[]
    show (⟨(List.replicate n.toNat l.toArray).foldl (· ++ ·) #[]⟩ : Str) = _
    rw [this]
    simp [tS]
  rw [e]
  refine ⟨?_, ⟨.str (tS (List.replicate n.toNat l).flatten), H, I.tok _, ⟨_, rfl⟩, q⟩⟩
  rw [tS_len, rep_len, Nat.mul_comm]
  have : (1000000 : Nat) ≤ sizeLine := by rw [sizeLine_eq]; decide
  omega
def fMulS (x y : D) : Option D := match x, y with
  | .str l, .int n => if 2 ≤ n ∧ n ≤ 1000 ∧ 1 ≤ l.length ∧ l.length ≤ 1000 then some (.str (List.replicate n.toNat l).flatten) else none
  | _, _ => none
theorem rv_mulS : Rv2 c rMulS fMulS := by
  intro μ σ H F O sl x y dx dy d Q re rx ry e g
  unfold fMulS at e
  split at e
  · rename_i l n
    split at e
    · rename_i hl
      cases rx; cases ry; cases e
      refine ⟨_, _, rfl, rfl, hl.1, hl.2.1, hl.2.2.1, hl.2.2.2, g _ F H (Stp.refl _ _ _) re (.str _ ?_)⟩
      rw [rep_len]
      exact Nat.le_trans (Nat.mul_le_mul (show n.toNat ≤ 1000 by omega) hl.2.2.2) (by decide)
    · cases e
  · cases e
theorem xn_bor (i : Nat) {e : Expr} {t : TE} {m : ME} (h : XN X c (μ.set i .frz) W0 e t m) (hi : i < μ.length := by decide) (hm : mdOf μ i = .own ∨ mdOf μ i = .pin := by decide) : XN X c μ W e t (mBorO μ i m) := ⟨h.pe, evo_bor hi hm h.ev⟩
end
end MM

set_option Elab.async false
set_option linter.all false
set_option maxRecDepth 100000
set_option maxHeartbeats 2000000
/-! The value layer: further facts of the top, about exceptions. -/
namespace MM
open PySem PySem.Spec PyProof.Rows L2
inductive Fx where
  | isi (x : Str)
  | kitG (x y : Str) (b : Bool)
  | kitT (x : Str) (t : String) (b : Bool)
  | oex (x : Str)
  | sei (x : Str)
  | xf (x : Str)
def Fx.ok (K : PySem.W.Frag) : Fx → Bool
  | .isi x => He.eqO (PySem.W.findIn K (.ref (He.ga K x)) "__getattribute__") (some (some (.builtin "BaseException.__getattribute__"))) && (He.eqO (PySem.W.findIn K (.ref (He.ga K x)) "__getattr__") (some none) && (decide (PySem.W.subIn K (.ref (He.ga K x)) (.type "BaseException") = some true) &&
      (PySem.W.hasDictIn K (He.ga K x) && (He.eqO (PySem.W.findIn K (.ref (He.ga K x)) "__class__") (some (some (.builtin "object.__class__"))) && (He.eqO (PySem.W.specialIn K (.builtin "object.__class__") "__get__") (some (some (.builtin "getset_descriptor.__get__"))) &&
      (decide (PySem.W.takesIn K (.builtin "object.__class__") = some true) && decide (PySem.W.mroIn K (He.ga K x) (.type "object") = some true)))))))
  | .kitG x y b => decide (PySem.W.kitOne K (.ref (He.ga K x)) (.ref (He.ga K y)) = some b)
  | .kitT x t b => decide (PySem.W.kitOne K (.ref (He.ga K x)) (.type t) = some b)
  | .oex x => oexB K (He.ga K x)
  | .sei x => seiB K (He.ga K x)
  | .xf x => xfB K (He.ga K x)
structure Yc (fx : List Fx) (K : PySem.W.Frag) : Prop where
  all : (fx.all fun f => f.ok K) = true
section
variable {fx : List Fx} {K : PySem.W.Frag}
theorem Yc.at (Y : Yc fx K) (i : Nat) {f : Fx} (e : fx[i]? = some f) : f.ok K = true := List.all_eq_true.mp Y.all f (List.mem_of_getElem? e)
theorem Yc.isi (Y : Yc fx K) (i : Nat) {x : Str} (e : fx[i]? = some (.isi x) := by rfl) : ExcC K (He.ga K x) := by
  obtain ⟨h1, h⟩ := He.ba (Y.at i e)
  obtain ⟨h2, h⟩ := He.ba h
  obtain ⟨h3, h⟩ := He.ba h
  obtain ⟨h4, h⟩ := He.ba h
  obtain ⟨h5, h⟩ := He.ba h
  obtain ⟨h6, h⟩ := He.ba h
  obtain ⟨h7, h8⟩ := He.ba h
  exact ⟨He.eqO_ok h1, He.eqO_ok h2, of_decide_eq_true h3, h4, He.eqO_ok h5, He.eqO_ok h6, of_decide_eq_true h7, of_decide_eq_true h8⟩
theorem Yc.kitG (Y : Yc fx K) (i : Nat) {x y : Str} {b : Bool} (e : fx[i]? = some (.kitG x y b) := by rfl) : PySem.W.kitOne K (.ref (He.ga K x)) (.ref (He.ga K y)) = some b := of_decide_eq_true (Y.at i e)
theorem Yc.kitT (Y : Yc fx K) (i : Nat) {x : Str} {t : String} {b : Bool} (e : fx[i]? = some (.kitT x t b) := by rfl) : PySem.W.kitOne K (.ref (He.ga K x)) (.type t) = some b := of_decide_eq_true (Y.at i e)
theorem Yc.oex (Y : Yc fx K) (i : Nat) {x : Str} (e : fx[i]? = some (.oex x) := by rfl) : OexC K (He.ga K x) := oexB_ok (Y.at i e)
theorem Yc.sei (Y : Yc fx K) (i : Nat) {x : Str} (e : fx[i]? = some (.sei x) := by rfl) : Sei K (He.ga K x) := seiB_ok (Y.at i e)
theorem Yc.xf (Y : Yc fx K) (i : Nat) {x : Str} (e : fx[i]? = some (.xf x) := by rfl) : XfC K (He.ga K x) := xfB_ok (Y.at i e)
end
/-- an exception's __init__ -/
structure HasE (P : Program) (w : World) (K : PySem.W.Frag) (mg : Str → Option Value) (base : Heap) (a : Addr) (k : Nat) (ps : List Str) (sp : Sp) (fd : FuncData) : Prop where
  ok : FnOk P w K mg base CX0 k a fd ps sp
  bd : Binds K fd ps []
  kp : PySem.W.keepIn K (.ref a) = true
abbrev AlX : Type := He.AlD × Bool
def asX (g : Addr → Option Obj) (n : Nat) : List Addr := He.asD g n ++ [cStatics]
def obsX (n : Nat) (fa : List He.Fa) (fn : List He.DefD) (fx : List Fx) (g : Addr → Option Obj) : AlX := (He.obsD fa fn (He.frG g (asX g n)), fx.all fun f => f.ok (He.frG g (asX g n)))
def hookX (n : Nat) (fa : List He.Fa) (fn : List He.DefD) (fx : List Fx) : PySem.W.Hook where
  α := AlX
  obs := fun s => obsX n fa fn fx s.heap.get?
  val := fun _ => (He.valD fn, true)
  says := fun _ h => ∃ K : PySem.W.Frag, K.In h ∧ He.SaysD fa fn K ∧ Yc fx K
  of := fun _ _ e => ⟨_, He.frG_in, congrArg (fun z : AlX => z.1) e, ⟨congrArg (fun z : AlX => z.2) e⟩⟩
  keeps := fun _ _ _ ⟨K, hK, c, y⟩ k => ⟨K, PySem.W.Frag.In.keeps hK k, c, y⟩
theorem obsX_eq {n : Nat} {fa : List He.Fa} {fn : List He.DefD} {fx : List Fx} {g : Addr → Option Obj} {s : Shared} (h : ∀ a, g a = s.heap.get? a) : obsX n fa fn fx g = (hookX n fa fn fx).obs s := by
  have e : g = s.heap.get? := funext h
  rw [e] <;> rfl
end MM

set_option Elab.async false
set_option linter.all false
set_option maxRecDepth 100000
set_option maxHeartbeats 4000000
/-! The value layer: a list walked while an exception is handled. -/
namespace PySem
open PySem PySem.Spec PyProof.Rows
section
variable {prog : Program} {w : World} {A : Around} {E : Value → Shared → Prop} {s : Shared}
theorem pyNext_list_end_hot {it l : Addr} {i : Nat} {items} {Q : Option Value → Shared → Prop} {x1 : Addr} (hot : HotX.HotAt A x1 s.heap) (hni : x1 ≠ it)
    (hit : s.heap.IsListIter it l i) (hl : s.heap.IsList l items) (hx : items[i]? = none)
    (hQ : ∀ h', Heap.ExtBut it s.heap h' → Q none { s with heap := h' }) : wpAny (model prog w) A (pyNext (.ref it)) Q E s := by
  obtain ⟨o, ho, hc, hd⟩ := id hit
  obtain ⟨ol, hol, _, nl, hdl⟩ := hl
  unfold pyNext
  refine wpAny_bind (wpAny_attempt (wpAny_callSpecial?_slot (name := Str.ofString "__next__") hit.typeIs slot_listiter_next
    (wpAny_call_entry slot_listiter_next hit.typeIs entry_listiter_next ?_ (args_listiter_next _))))
  show wpAny _ _ (field (.ref it) 0 >>= _) _ _ s
  refine wpAny_bind (wpAny_field ho hd (x := .ref l) rfl ?_)
  show wpAny _ _ (if (Value.ref l == Value.none) = true then _ else _) _ _ s
  rw [if_neg (show ¬ ((Value.ref l == Value.none) = true) from Bool.false_ne_true)]
  show wpAny _ _ (field (.ref it) 1 >>= _) _ _ s
  refine wpAny_bind (wpAny_field ho hd (x := .int i 0) rfl ?_)
  show wpAny _ _ (seqItems? (.ref l) >>= _) _ _ s
  refine wpAny_bind (wpAny_seqItems hol hdl ?_)
  simp only [Int.toNat_natCast, hx]
  refine wpAny_bind (wpAny_rule (wpAny_bind (wpAny_setField ho hd (by simp) ?_)))
  show wpAny _ _ (newExc (.type "StopIteration") [] >>= _) _ _ _
  refine wpAny_bind ?_
  simp only [newExc, newTuple]
  refine wpAny_bind (wpAny_newObj_type ?_ (by size_fits))
  refine wpAny_bind (m := firstArgMember _ _) (wpAny_of_eq (a := Value.none) (by first | rfl | (simp only [firstArgMember]; rfl)) ?_)
  refine wpAny_newObj_type ?_ (by size_fits)
  obtain ⟨hh, o1, vs1, g1, d1, c1⟩ := hot
  refine HotX.raiseNew_hot ⟨hh, o1, vs1, Heap.get?_push_of_some _ (Heap.get?_push_of_some _ ((Heap.get?_update_other _ _ (Ne.symm hni)).trans g1)), d1, c1⟩ (Nat.ne_of_lt (Heap.lt_size (Heap.get?_push_of_some _ ((Heap.get?_update_other _ _ (Ne.symm hni)).trans g1)))) (Heap.get?_push_size _ rfl) rfl (by first | (simp; done) | (simp; omega) | (simp only [Array.size_append]; simp; omega)) ?_
  refine wpAny_bind (wpAny_isInstance (T := "StopIteration") (b := true) ⟨_, Heap.get?_update_self _ (Heap.get?_push_size _ rfl) rfl, rfl⟩ isSubtype_stop ?_)
  refine wpAny_pure (hQ _ fun b o hb e => ?_)
  rw [Heap.get?_update_other _ _ (Nat.ne_of_gt (Heap.lt_size (Heap.get?_push_of_some _ ((Heap.get?_update_other _ _ (Ne.symm hb)).trans e))))]
  exact Heap.get?_push_of_some _ (Heap.get?_push_of_some _ ((Heap.get?_update_other _ _ (Ne.symm hb)).trans e))
end
end PySem

set_option Elab.async false
set_option linter.all false
set_option maxRecDepth 100000
set_option maxHeartbeats 4000000
/-! The value layer: a comprehension over a list while an exception is handled. -/
namespace L2T
open PySem PySem.Spec PyProof.Rows L2
abbrev St := L2.St
structure TurnT (P : Program) (w : World) (K : PySem.W.Frag) (tg : Expr) (J : It) (fp : List Addr) (it : Addr) (tn : Nat → Heap → Prop) : Prop where
  mem : it ∈ fp
  obj : ∀ i h, tn i h → ∀ b ∈ fp, ∃ o, h.get? b = some o ∧ ∀ v, o.data ≠ .cell v
  keep : ∀ i h h', tn i h → (∀ b ∈ fp, ∀ o, h.get? b = some o → h'.get? b = some o) → tn i h'
  item : ∀ (X : Cx), X.prog = P → X.w = w → X.K = K → ∀ (i : Nat) (pins : List (Addr × Obj)) (s : Shared) (σ : St) (H : Hp) (E : Value → Shared → Prop), Inv X pins σ H s → (∀ b ∈ fp, FpOk X pins H b) → tn i s.heap → J.go i H →
    wpAny (model P w) X.A (pyNext (.ref it)) (fun r s1 => ∃ u, r = some u ∧
      wpAny (model P w) X.A (letOwnedTupleGo tg (.ref it) u) (fun _ s2 => ∃ x H', Inv X pins σ H' s2 ∧ RelV x u ∧ J.yld i H x H' ∧ tn (i + 1) s2.heap ∧ ∀ b ∈ fp, H' b = none) E s1) E s
  done : ∀ (X : Cx), X.prog = P → X.w = w → X.K = K → ∀ (i : Nat) (pins : List (Addr × Obj)) (s : Shared) (σ : St) (H : Hp) (E : Value → Shared → Prop), (∃ x1, HotX.HotAt X.A x1 s.heap ∧ x1 ∉ fp) → Inv X pins σ H s → (∀ b ∈ fp, FpOk X pins H b) → tn i s.heap → J.stop i H →
    wpAny (model P w) X.A (pyNext (.ref it)) (fun r s1 => r = none ∧ Inv X pins σ H s1) E s
  self : ∀ (A : Around) (i : Nat) (s : Shared) (Q : Value → Shared → Prop) (E : Value → Shared → Prop), tn i s.heap → Q (.ref it) s → wpAny (model P w) A (pyIter (.ref it)) Q E s
def PIET (X : Cx) (pins : List (Addr × Obj)) (σ : St) (tg : Expr) (R : It → Hp → Prop) (itv : Value) (s2 : Shared) : Prop :=
  ∃ (it : Addr) (fp : List Addr) (tn : Nat → Heap → Prop) (J : It) (H' : Hp), itv = .ref it ∧ Inv X pins σ H' s2 ∧ TurnT X.prog X.w X.K tg J fp it tn ∧ tn 0 s2.heap ∧ (∀ b ∈ fp, FpOk X pins H' b) ∧ R J H'
structure PIT (X : Cx) (tg iter : Expr) (wi : TI) : Prop where
  run : ∀ (pins : List (Addr × Obj)) (s : Shared) (σ : St) (H : Hp) (R : It → Hp → Prop), Inv X pins σ H s → wi σ H R →
    wpAny (model X.prog X.w) X.A (eval iter X.env) (fun v s1 => wpAny (model X.prog X.w) X.A (pyIter v) (PIET X pins σ tg R) X.xe s1) X.xe s
theorem turn_listT {P : Program} {w : World} {K : PySem.W.Frag} {tg : Expr} (a it : Addr) : TurnT P w K tg (Itl K a) [it] it (fun i h => h.IsListIter it a i) where
  mem := by simp
  obj := fun i h st b hb => by
    have e : b = it := by simpa using hb
    subst e
    obtain ⟨o, e, c, d⟩ := st
    exact ⟨o, e, fun v z => by rw [d] at z; cases z⟩
  keep := fun i h h' st k => st.at fun o e => k it (by simp) o e
  item := by
    intro X hP hw hK i pins s σ H E I hf st hg
    subst hP hw hK
    obtain ⟨xs, x, hq, hx⟩ := hg
    obtain ⟨its, rv, p, hz⟩ := I.list hq
    obtain ⟨u, hu, ru⟩ := rv.get hx
    obtain ⟨f0, f1, f2, f3, f4, f5⟩ := hf it (by simp)
    refine wpAny_pyNext_list_item st p.isList (x := u) (by simpa using hu) fun h' st' sb => ?_
    have I1 : Inv X pins σ H { s with heap := h' } := I.turned (t' := s.toks) (fun b o hb e => (sb.2 b hb).trans e) f0 f1 f3 f4 f5
    obtain ⟨o, e, c, d⟩ := id st'
    exact ⟨u, rfl, go_of (s := { s with heap := h' }) e c d (by decide) ⟨x, H, I1, ru, ⟨rfl, fun ys hy => by rw [I.list_inj hy hq]; exact hx⟩, st', fun b hb => (hf b hb).1⟩⟩
  done := by
    intro X hP hw hK i pins s σ H E hot I hf st hg
    subst hP hw hK
    obtain ⟨x1, hot, hni⟩ := hot
    obtain ⟨xs, hq, hx⟩ := hg
    obtain ⟨its, rv, p, hz⟩ := I.list hq
    obtain ⟨f0, f1, f2, f3, f4, f5⟩ := hf it (by simp)
    have hl := rv.length
    exact pyNext_list_end_hot hot (fun z => hni (by simp [z])) st p.isList (by simp; omega) fun h' eb => ⟨rfl, I.turned (t' := s.toks) (fun b o hb e => eb b o hb e) f0 f1 f3 f4 f5⟩
  self := fun _ _ _ _ _ st h => wpAny_pyIter_listiter st h
def iSeqL (K : PySem.W.Frag) (te : TE) : TI := fun σ H R => te σ H fun x H1 => ∃ a, x = .ref a ∧ (∃ xs, SqL K H1 a xs) ∧ R (Itl K a) H1
theorem pit_seqL {X : Cx} {tg l : Expr} {tl : TE} (hl : PE X l tl) : PIT X tg l (iSeqL X.K tl) := by
  refine ⟨fun pins s σ H R I h => ?_⟩
  refine thn (hl.run pins s σ H _ I h) fun v s1 ⟨x, H1, I1, r1, q1⟩ => ?_
  obtain ⟨a, e, ⟨xs, hq⟩, q⟩ := q1
  subst e
  cases r1
  obtain ⟨its, rv, p, hz⟩ := I1.list hq
  refine wpAny_pyIter_list p.isList ?_
  refine ⟨s1.heap.objs.size, [s1.heap.objs.size], _, _, H1, rfl, I1.kept (t' := s1.toks) fun b o e => Heap.get?_push_of_some _ e, turn_listT a _, ⟨_, Heap.get?_push_size _ rfl, rfl, rfl⟩, fun b hb => ?_, q⟩
  have e : b = s1.heap.objs.size := by simpa using hb
  subst e
  exact I1.fpOk (Nat.le_refl _) (I1.hok.fresh (Nat.le_refl _))
section
variable {X : Cx}
theorem lc_coreH {pins : List (Addr × Obj)} {s : Shared} {σ : St} {H : Hp} {Q : VK} {elt tg iter : Expr} {ifs : List Expr} {scope : Scope} {own : List (Str × Nat)} {pos pos' : Pos} {wi : TI} {g : TG} {tt : TT} {te : TE} {use : Option (Value → Sem Unit)} {Qf : Value → Shared → Prop}
    (hc : L2H.HotC X) (hN : X.N.Nodup) (I : Inv X pins σ H s) (hi : PIT X tg iter wi) (ok : BlkOk X.N X.env.scope scope own)
    (hg : ∀ (s : Shared) (H : Hp) (C : Addr) (cl : List (Str × Addr)) (fp : List Addr), PG (X.blk s H scope (compEnvC scope cl C X.env) fp) tg g) (ht : ∀ (s : Shared) (H : Hp) (C : Addr) (cl : List (Str × Addr)) (fp : List Addr), PTs (X.blk s H scope (compEnvC scope cl C X.env) fp) ifs tt)
    (he : ∀ (s : Shared) (H : Hp) (C : Addr) (cl : List (Str × Addr)) (fp : List Addr), PE (X.blk s H scope (compEnvC scope cl C X.env) fp) elt te) (hs : ∀ x, foldedSetIterable iter X.env x = pure x)
    (h : tLc wi g tt te (own.map (·.2)) σ H Q)
    (hRR : ∀ D C s' m H', Inv X pins σ H' s' → Q (.ref D) H' → s'.heap.Ns C m → FpOk X pins H' C → compPost (model X.prog X.w) X.A X.xe use Qf (.ref D) C (.ok .next) s') :
    wpAny (model X.prog X.w) X.A (comprehension (.ListComp elt [⟨tg, iter, ifs, 0⟩] scope pos) scope X.env pos' (newList []) false (eval iter X.env) use) Qf X.xe s := by
  have hfree : ∀ y ∈ scope.names, y.2 = .free → ∃ c, X.env.cells.lookup y.1 = some c := fun y hy e => by
    rcases ok.free y hy e with k | k
    · exact I.ok.has _ (.inl k)
    · exact I.ok.has _ (.inr k)
  refine wpAny_comprehension_free (use := use) rfl hs (closure_ok hfree) ok.kind (fun y hy e => by rw [ok.uniq y hy, e])
    (thn (hi.run pins s σ H _ I h) fun xv s1 hx => thn hx fun itv s2 h2 => ?_)
  obtain ⟨it, fp, tn, J, H2, e, I2, T, st2, f2, q⟩ := h2
  subst e
  refine wpAny_newObj_type (newEnv_comp ?_) (by show 0 ≤ sizeLine; decide)
  generalize hD : s2.heap.objs.size = D
  have hDn : H2 D = none := I2.hok.fresh (Nat.le_of_eq hD)
  obtain ⟨W, ⟨m0, w0⟩, turn⟩ := q D hDn
  -- the new list
  generalize hs3 : ({ s2 with heap := s2.heap.push { cls := .type "list", data := .seq ([] : List Value).toArray } } : Shared) = s3
  have I3 : Inv X pins σ (upd H2 D (.lst [])) s3 := by
    rw [← hs3]
    refine I2.laid (t' := s2.toks) (fun b o e => Heap.get?_push_of_some _ e) (Nat.le_of_eq hD) ⟨Nat.zero_le _, [], 0, .nil, ?_⟩
    rw [← hD]
    exact Heap.get?_push_size _ rfl
  have h3 : s3.heap = s2.heap.push { cls := .type "list", data := .seq ([] : List Value).toArray } := by rw [← hs3]
  have sz : ∀ b ∈ fp, b < s2.heap.objs.size := fun b hb => by
    obtain ⟨o, e, _⟩ := T.obj _ _ st2 b hb
    exact Heap.lt_size e
  have f3 : ∀ b ∈ fp, FpOk X pins (upd H2 D (.lst [])) b ∧ b < s3.heap.objs.size := fun b hb => by
    have hlt := sz b hb
    refine ⟨⟨?_, (f2 b hb).2⟩, by rw [h3, Heap.size_push]; exact Nat.lt_succ_of_lt hlt⟩
    rw [upd_ne (by rw [← hD]; exact Nat.ne_of_lt hlt)]
    exact (f2 b hb).1
  have st3 : tn 0 s3.heap := T.keep _ _ _ st2 fun b _ o e => by rw [h3]; exact Heap.get?_push_of_some _ e
  have I4 := block_start I3 ok hN f3
  have pg := hg s3 (upd H2 D (.lst [])) s3.heap.objs.size (cellsFrom (s3.heap.objs.size + 1) scope.names (cloFrom X.env.cells scope.names [])) fp
  have pt := ht s3 (upd H2 D (.lst [])) s3.heap.objs.size (cellsFrom (s3.heap.objs.size + 1) scope.names (cloFrom X.env.cells scope.names [])) fp
  have pe := he s3 (upd H2 D (.lst [])) s3.heap.objs.size (cellsFrom (s3.heap.objs.size + 1) scope.names (cloFrom X.env.cells scope.names [])) fp
  show codeAny _ _ (.compStart (.ListComp elt [⟨tg, iter, ifs, 0⟩] scope pos) 0 (.ref it) (.ref D) (compEnvC scope (cellsFrom (s3.heap.objs.size + 1) scope.names (cloFrom X.env.cells scope.names [])) s3.heap.objs.size X.env)) (compPost (model X.prog X.w) X.A X.xe use Qf (.ref D) s3.heap.objs.size) { s3 with heap := pushCells (s3.heap.push { cls := .type "dict", data := .dict #[] }) scope.names }
  have nfp : ∀ b ∈ fp, (upd H2 D (.lst [])) b = none := fun b hb => (f3 b hb).1.1
  generalize hce : compEnvC scope (cellsFrom (s3.heap.objs.size + 1) scope.names (cloFrom X.env.cells scope.names [])) s3.heap.objs.size X.env = ce at I4 pg pt pe ⊢
  have cL : ce.locals = s3.heap.objs.size := by subst hce; rfl
  generalize hH3 : upd H2 D (.lst []) = H3 at I3 I4 pg pt pe w0 nfp f3
  generalize hs4 : ({ s3 with heap := pushCells (s3.heap.push { cls := .type "dict", data := .dict #[] }) scope.names } : Shared) = s4 at I4 ⊢
  have st4 : tn 0 s4.heap := T.keep _ _ _ st3 fun b _ o e => by rw [← hs4]; exact pushCells_keeps _ _ _ _ (Heap.get?_push_of_some _ e)
  have stat : ∀ {σ' : St} {H' : Hp} {s' : Shared}, Inv (X.blk s3 H3 scope ce fp) [] σ' H' s' → (∀ b ∈ fp, H' b = none) → ∀ b ∈ fp, FpOk (X.blk s3 H3 scope ce fp) [] H' b := fun {σ' H' s'} I' hn b hb =>
    ⟨hn b hb, (I'.ok.exf b hb).1, I'.ok.exfs b hb, .inl hb, fun x c e => (I'.ok.exf b hb).2 x c e, fun p hp => absurd (show p ∈ ([] : List (Addr × Obj)) ++ [] from hp) (by simp)⟩
  have hotB : ∀ {σ' : St} {H' : Hp} {s' : Shared}, Inv (X.blk s3 H3 scope ce fp) [] σ' H' s' → ∃ x1, HotX.HotAt (X.blk s3 H3 scope ce fp).A x1 s'.heap ∧ x1 ∉ fp := fun {σ' H' s'} I' => by
    obtain ⟨p, ⟨hh, v1, e1, c1⟩, hp⟩ := hc
    have P1 := I3.pin p (List.mem_append_left _ hp)
    have nfp : p.1 ∉ fp := fun hm => (f3 p.1 hm).1.2.2.2.2.2 p (List.mem_append_left _ hp) rfl
    exact ⟨p.1, ⟨hh, p.2, v1, I'.base.keep p.1 p.2 P1.1 P1.2.1 (fun hm => (List.mem_cons.mp (I3.stkSub p.1 hm)).elim P1.2.2.1 P1.2.2.2.1) nfp, e1, c1⟩, nfp⟩
  have loop : codeAny (model X.prog X.w) X.A (.compLoop (.ListComp elt [⟨tg, iter, ifs, 0⟩] scope pos) 0 (.ref it) (.ref D) ce) (compPost (model X.prog X.w) X.A X.xe use Qf (.ref D) s3.heap.objs.size) s4 := by
    refine compLoop_any (fun n s' => ∃ i H', Inv (X.blk s3 H3 scope ce fp) [] (wipe σ (own.map (·.2))) H' s' ∧ tn i s'.heap ∧ (∀ b ∈ fp, H' b = none) ∧ W i n H') ?_ m0 ⟨0, H3, I4, st4, nfp, w0⟩
    rintro n s5 ⟨i, H5, I5, st5, n5, w5⟩
    rcases turn i n H5 w5 with ⟨stop, qq⟩ | ⟨go, Nx, hNx, step⟩
    · have td := T.done (X.blk s3 H3 scope ce fp) rfl rfl rfl i [] s5 _ H5 (fun _ _ => False) (hotB I5) I5 (stat I5 n5) st5 stop
      refine thnF td fun r s6 ⟨hr, I6⟩ => ?_
      subst hr
      -- back in the def's context
      have I7 : Inv X pins σ H5 s6 := I3.call' (ch := fp) I6.os I6.base I6.hok I6.bare fun b hb => ⟨(f3 b hb).1.2.2.2.1, (f3 b hb).1.2.1, (f3 b hb).1.2.2.2.2.1, (f3 b hb).1.2.2.2.2.2⟩
      have nC : H5 s3.heap.objs.size = none := by
        have z : H5 ce.locals = none := I6.free
        rw [cL] at z
        exact z
      obtain ⟨m, hn, _⟩ := I6.loc
      have hn : s6.heap.Ns ce.locals m := hn
      rw [cL] at hn
      exact hRR D s3.heap.objs.size s6 m H5 I7 qq hn (I3.fpOk (Nat.le_refl _) nC)
    · have ti := T.item (X.blk s3 H3 scope ce fp) rfl rfl rfl i [] s5 _ H5 (fun _ _ => False) I5 (stat I5 n5) st5 go
      refine thnF ti fun r s6 ⟨u, hr, h6⟩ => ?_
      subst hr
      refine thnF h6 fun _ s7 ⟨x, H7, I7, r7, y7, st7, n7⟩ => ?_
      have I7' := I7.pinned (stat I7 n7) (T.obj _ _ st7)
      refine thnF (pg.run _ s7 _ H7 x u _ I7' r7 (step x H7 y7)) fun _ s8 ⟨σ8, H8, I8, hw8, q8⟩ => ?_
      refine thnF (pt.run _ s8 σ8 H8 _ I8 q8) fun b s9 ⟨H9, I9, q9⟩ => ?_
      -- the turn's end
      have fin : ∀ {s' : Shared} {H' : Hp}, Inv (X.blk s3 H3 scope ce fp) ([] ++ pinsAt fp s7.heap) σ8 H' s' → Nx H' → ∃ m, m < n ∧ ∃ i H', Inv (X.blk s3 H3 scope ce fp) [] (wipe σ (own.map (·.2))) H' s' ∧ tn i s'.heap ∧ (∀ b ∈ fp, H' b = none) ∧ W i m H' := fun {s' H'} I' nx => by
        obtain ⟨m', hm, w'⟩ := hNx H' nx
        have pin' : ∀ b ∈ fp, ∀ o, s7.heap.get? b = some o → s'.heap.get? b = some o ∧ H' b = none := fun b hb o e =>
          let z := I'.pin (b, o) (List.mem_append_right _ (List.mem_append_right _ (mem_pinsAt hb e)))
          ⟨z.1, z.2.1⟩
        have hl : (wipe σ (own.map (·.2))).length = σ8.length := by rw [← hw8, wipe_length]
        refine ⟨m', hm, i + 1, H', (I'.unpinned (pins := [])).weak hl (fun j v e => ?_), T.keep _ _ _ st7 fun b hb o e => (pin' b hb o e).1, fun b hb => ?_, w'⟩
        · rw [← hw8] at e
          exact (wipe_some e).1
        · obtain ⟨o, e, _⟩ := T.obj _ _ st7 b hb
          exact (pin' b hb o e).2
      cases b with
      | false =>
        simp only [Bool.false_eq_true, if_false] at q9 ⊢
        exact fin I9 q9
      | true =>
        simp only [if_true] at q9 ⊢
        refine thnF (pe.run _ s9 σ8 H9 _ I9 q9) fun z s10 ⟨yv, H10, I10, r10, acc, hD10, hz10, nx⟩ => ?_
        exact app_ok (X := X.blk s3 H3 scope ce fp) I10 hD10 hz10 r10 fun s11 I11 => fin I11 nx
  exact codeAny_compStart_list loop (T.self X.A 0 _ _ _ st4 loop)
/-- as a value -/
theorem pe_lcH {elt tg iter : Expr} {ifs : List Expr} {scope : Scope} {own : List (Str × Nat)} {pos : Pos} {wi : TI} {g : TG} {tt : TT} {te : TE} (hc : L2H.HotC X) (hN : X.N.Nodup) (hi : PIT X tg iter wi) (ok : BlkOk X.N X.env.scope scope own)
    (hg : ∀ (s : Shared) (H : Hp) (C : Addr) (cl : List (Str × Addr)) (fp : List Addr), PG (X.blk s H scope (compEnvC scope cl C X.env) fp) tg g) (ht : ∀ (s : Shared) (H : Hp) (C : Addr) (cl : List (Str × Addr)) (fp : List Addr), PTs (X.blk s H scope (compEnvC scope cl C X.env) fp) ifs tt)
    (he : ∀ (s : Shared) (H : Hp) (C : Addr) (cl : List (Str × Addr)) (fp : List Addr), PE (X.blk s H scope (compEnvC scope cl C X.env) fp) elt te) (hs : ∀ x, foldedSetIterable iter X.env x = pure x := by intro _; rfl) :
    PE X (.ListComp elt [⟨tg, iter, ifs, 0⟩] scope pos) (tLc wi g tt te (own.map (·.2))) := by
  refine ⟨fun pins s σ H Q I h => ?_⟩
  rw [eval_ListComp]
  refine lc_coreH hc hN I hi ok hg ht he hs h fun D C s' m H' I' q hn f => ⟨m, hn, fun h'' sb => ?_⟩
  obtain ⟨f0, f1, f2, f3, f4, f5⟩ := f
  exact ⟨.ref D, H', I'.turned (t' := s'.toks) (fun b o hb e => (sb.2 b hb).trans e) f0 f1 f3 f4 f5, rfl, q⟩
end
end L2T

set_option Elab.async false
set_option linter.all false
set_option maxRecDepth 100000
set_option maxHeartbeats 4000000
/-! The value layer: defs called within an except suite, the exception told. -/
namespace L2H
open PySem PySem.Spec PyProof.Rows L2 HotX
structure FnP (P : Program) (w : World) (K : PySem.W.Frag) (mg : Str → Option Value) (base : Heap) (CX : CXT) (k : Nat) (f : Addr) (fd : FuncData) (ps : List Str) (C : Nat → Addr) (sp : Addr → Nat → Option Addr → Sp) : Prop where
  len : ∀ a kx dx vs H Q E, sp a kx dx vs H Q E → vs.length = ps.length
  run : ∀ (A : Around) (outer : List Env) (s : Shared) (H : Hp) (args : Args) (us : List Value) (vs : List V) (Q : VK) (E : XK) (p : Addr × Obj) (kx : Nat) (dx : Option Addr), RoomH k A → Hot1 A p → L2N.Zn (.ref (C kx)) dx p.2 → PinOk outer H s p → Env0 P w K mg base A outer s H → BindsTo s fd args (ps.zip us) → Vals vs us → sp p.1 kx dx vs H Q E →
    codeAny (model P w) A (.call (.ref f) args) (CR CX outer P w H s Q E) s
theorem fn_ofP {CX : CXT} {P : Program} {w : World} {K : PySem.W.Frag} {mg : Str → Option Value} {base : Heap} {k : Nat} {f : Addr} {name qual : Str} {params : Arguments} {body : List Stmt} {scope : Scope} {dV kV doc pm cdv ct oc : Value} {an od : Option Addr}
    {osl : Array (Option Value)} {N ps : List Str} {C : Nat → Addr} {sp : Addr → Nat → Option Addr → Sp} (lk : K.lookup f = some ⟨oc, od, .func (PySem.W.fnOf name qual params body scope dV kV doc pm an cdv ct), osl⟩) (hcd : PySem.W.codeIn K cdv qual = true) (S : FnScope N ps scope)
    (len : ∀ a kx dx vs H Q E, sp a kx dx vs H Q E → vs.length = ps.length)
    (hbody : ∀ (A : Around) (outer : List Env) (s : Shared) (H : Hp) (vs : List V) (Q : VK) (E : XK) (p : Addr × Obj) (kx : Nat) (dx : Option Addr), Hot1 A p → L2N.Zn (.ref (C kx)) dx p.2 → RoomH k (A.deeper (envOfC qual scope s.heap.objs.size f cdv)) → sp p.1 kx dx vs H Q E →
      ∃ t, PSs (cxH CX P w K mg base N qual scope f cdv A outer s H E p) body t ∧ t { nx := fun _ H' => Q .non H', rt := Q } (L2.start N vs) H) :
    FnP P w K mg base CX (k + 1) f (PySem.W.fnOf name qual params body scope dV kV doc pm an cdv ct) ps C sp := by
  refine ⟨len, fun A outer s H args us vs Q E p kx dx hr hot hz hpin e0 hb r hsp => ?_⟩
  have hl := len _ _ _ _ _ _ _ hsp
  have KX : K.In s.heap := e0.mod.kin.keeps fun b o e => (e0.bs b o e).1
  have lim : s.heap.NoLimit := e0.mod.nolimit.keeps fun b o e => (e0.bs b o e).1
  have hkind : ∀ y ∈ ps.zip us, scope.names.lookup y.1 = some .local ∨ (scope.names.lookup y.1 = some .cell ∧ ((cellsFrom (s.heap.objs.size + 1) scope.names []).lookup y.1).isSome = true) := fun ⟨n, v⟩ hy => by
    rcases S.par n (List.of_mem_zip hy).1 with q | q
    · exact .inl q
    · exact .inr ⟨q, PySem.W.cellsFrom_some _ _ _ (.inl q)⟩
  refine codeAny_call_function hr.depth (KX _ _ lk) rfl S.co S.gen rfl (PySem.W.codeRec_of KX hcd) (hb _ _ _ _ ?_)
  refine wpAny_newFunctionEnv_cells S.kind hkind fun env he s1 x => ?_
  subst he
  refine ⟨lim.keeps x.toInCall.keep, codeAny_func ?_⟩
  obtain ⟨t, ht, hq⟩ := hbody A outer s H vs Q E p kx dx hot hz (hr.deeper _) hsp
  have I : Inv (cxH CX P w K mg base N qual scope f cdv A outer s H E p) [] (L2.start N vs) H s1 := inv_startH S hpin e0 hl r x
  refine wpAny_mono (ht.run [] s1 (L2.start N vs) H _ I hq) (fun fl s' hs => ?_) fun e s' hs => hs
  have fin : ∀ {σ' : St} {H' : Hp} {v : V} {u : Value}, Inv (cxH CX P w K mg base N qual scope f cdv A outer s H E p) [] σ' H' s' → RelV v u → Q v H' → CE outer P w H s Q u s' :=
    fun {σ' H' v u} J rv q => ⟨v, H', J.os, J.bare, J.base, J.hok, rv, q⟩
  cases fl with
  | ret u =>
    obtain ⟨v, σ', H', J, rv, q⟩ := hs
    exact fin J rv q
  | next =>
    obtain ⟨σ', H', J, q⟩ := hs
    exact fin (v := V.non) (u := Value.none) J rfl q
  | brk =>
    obtain ⟨_, _, _, q⟩ := hs
    exact False.elim q
  | cont =>
    obtain ⟨_, _, _, q⟩ := hs
    exact False.elim q

section
variable {X : Cx} {CX : CXT} {k : Nat} {f : Addr} {C : Nat → Addr} {fd : FuncData} {ps : List Str} {sp : Addr → Nat → Option Addr → Sp} {E : XK} {x : Str} {q pos : Pos} {e : Expr} {es : List Expr} {t : TA} {a : Addr} {kx : Nat} {dx : Option Addr}
theorem run_fnP {pins : List (Addr × Obj)} {σ : St} {H : Hp} {s : Shared} {Q : VK} {us : List Value} {vs : List V} (F : FnP X.prog X.w X.K X.mg X.base CX k f fd ps C sp) (hr : RoomH k X.A) (hc : ∃ oe, Hot1 X.A (a, oe) ∧ (a, oe) ∈ X.pn ∧ L2N.Zn (.ref (C kx)) dx oe) (hb : Binds X.K fd ps []) (hx : Passes CX X E)
    (I : Inv X pins σ H s) (r : Vals vs us) (h : sp a kx dx vs H Q E) : wpAny (model X.prog X.w) X.A (call (.ref f) us) (EP X pins σ Q) X.xe s := by
  obtain ⟨oe, hot, hp, hz⟩ := hc
  have hl : us.length = ps.length := by rw [← r.length]; exact F.len _ _ _ _ _ _ _ h
  have b := hb s us I.kIn (by rw [List.append_nil]; exact hl)
  rw [List.append_nil] at b
  have P1 := I.pin (a, oe) (List.mem_append_left _ hp)
  have hpin : PinOk X.stack H s (a, oe) := ⟨P1.1, P1.2.1, fun hm => (List.mem_cons.mp (I.stkSub a hm)).elim P1.2.2.1 P1.2.2.2.1, P1.2.2.2.2⟩
  refine wpAny_call (codeAny_mono (F.run X.A X.stack s H ⟨us, []⟩ us vs Q E (a, oe) kx dx hr hot hz hpin I.env0 b r h) fun r s' hq => ?_)
  cases r with
  | error e => exact hx pins σ H s e s' I hq
  | ok fl =>
    cases fl with
    | ret u => exact I.after hq
    | next => exact False.elim hq
    | brk => exact False.elim hq
    | cont => exact False.elim hq
theorem pe_callP (F : FnP X.prog X.w X.K X.mg X.base CX k f fd ps C sp) (hr : RoomH k X.A) (hc : ∃ oe, Hot1 X.A (a, oe) ∧ (a, oe) ∈ X.pn ∧ L2N.Zn (.ref (C kx)) dx oe) (hg : Gl X x) (hm : X.mg x = some (.ref f)) (hk : PySem.W.keepIn X.K (.ref f) = true) (hb : Binds X.K fd ps []) (hx : Passes CX X E)
    (ha : PA X (e :: es) t) (hdb : (x == ("__debug__" : Str)) = false := by decide) (he : starEach (e :: es) X.env = (false, eval e X.env) :: starEach es X.env := by rfl) (hpl : (backTo pos (starEach es X.env)).any (·.1) = false := by rfl) :
    PE X (.Call (.Name x q) (e :: es) [] pos) (tCall (sp a kx dx) [] E t) := by
  refine ⟨fun pins s σ H Q I h => ?_⟩
  refine wpAny_Call_Name_kw (ld_glob I hg hm ?_ hdb)
  refine PySem.W.callWith_K (h₀ := X.base) I.ok.mod.kin hk (thn (ha.run pos pins s σ H _ I h) fun us s1 ⟨vs, H1, I1, r, q⟩ => ⟨I1.kIn, ?_⟩) he hpl
  have q : sp a kx dx (vs ++ []) H1 Q E := q
  rw [List.append_nil] at q
  exact run_fnP F hr hc hb hx I1 r q
end
end L2H
namespace MM
open PySem PySem.Spec PyProof.Rows L2
/-! ### a comprehension over a list, hot -/
def mItemsL (m : ME) : MA := fun sl => (m sl).bind fun d s => match d with
  | .lst ds => .ok ds s
  | _ => .err
section
variable {c : CI} {X : Cx} {μ : Ms} {ρ : Bool} {W : WX}
theorem ev_seqL {K : PySem.W.Frag} (hK : K = c.K) {te : TE} {m : ME} (h : EvE c μ W te m) : Evm (rW c) c μ W (L2T.iSeqL K te) (mItemsL m) := by
  refine Evm.bind (κ := fun x σ H1 (R : It → Hp → Prop) => ∃ a, x = .ref a ∧ (∃ xs, SqL K H1 a xs) ∧ R (Itl K a) H1) h fun σ H F O sl x d Q re rx g => ?_
  subst hK
  cases rx with
  | lst h1 z r => exact ⟨_, rfl, ⟨_, .inl (.inl (re.ag.lst h1))⟩, g _ F H O (Stp.refl _ _ _) re (wk_list (fun F2 H2 le ag => .inl (.inl (ag.lst (le _ _ h1)))) r z fun _ _ _ _ => trivial)⟩
  | _ => exact g.elim
theorem xn_lcH {S : List Nat} {elt tg l : Expr} {ifs : List Expr} {scope : Scope} (own : List (Str × Nat)) {vs : List Nat} {pos : Pos} (K0 : PySem.W.Frag) {tl : TE} {ml : ME} {g : TG} {mg : MG} {tt : TT} {mt : MT} {te : TE} {me : ME} (hc : L2H.HotC X) (hN : X.N.Nodup) (hi : XE X c μ W l tl ml) (ok : BlkOk X.N X.env.scope scope own)
    (hg : ∀ (s : Shared) (H : Hp) (C : Addr) (cl : List (Str × Addr)) (fp : List Addr), XG (X.blk s H scope (compEnvC scope cl C X.env) fp) c μ S tg g mg)
    (ht : ∀ (s : Shared) (H : Hp) (C : Addr) (cl : List (Str × Addr)) (fp : List Addr), XTs (X.blk s H scope (compEnvC scope cl C X.env) fp) c μ W0 ifs tt mt)
    (he : ∀ (s : Shared) (H : Hp) (C : Addr) (cl : List (Str × Addr)) (fp : List Addr), XE (X.blk s H scope (compEnvC scope cl C X.env) fp) c μ W0 elt te me)
    (hK : X.K = K0 := by rfl) (hK2 : K0 = c.K := by rfl) (hv : ∀ i, i ∈ vs → mdOf μ i = .frz := by decide) (hS : ∀ i, i ∈ S → i ∈ vs := by decide) (hs : ∀ x, foldedSetIterable l X.env x = pure x := by intro _; rfl) (hvs : own.map (·.2) = vs := by rfl) :
    XN X c μ W (.ListComp elt [⟨tg, l, ifs, 0⟩] scope pos) (tLc (L2T.iSeqL K0 tl) g tt te vs) (mLc (mItemsL ml) vs mg mt me) := by
  subst hvs
  subst hK
  exact ⟨L2T.pe_lcH hc hN (L2T.pit_seqL hi.pe) ok (fun s H C cl fp => (hg s H C cl fp).pg) (fun s H C cl fp => (ht s H C cl fp).pts) (fun s H C cl fp => (he s H C cl fp).pe) hs,
    evo_lcI (ev_seqL hK2 hi.ev) hv hS (hg X.s_0 X.H_0 0 [] []).ev (ht X.s_0 X.H_0 0 [] []).ev (he X.s_0 X.H_0 0 [] []).ev⟩
end
/-! ### hot defs -/
structure HasP (P : Program) (w : World) (K : PySem.W.Frag) (mg : Str → Option Value) (base : Heap) (c : CI) (a : Addr) (k : Nat) (ps : List Str) (pm : Ms) (ρ : Bool) (f : Sl → R D) (fd : FuncData) : Prop where
  ok : L2H.FnP P w K mg base CX0 k a fd ps c.C (fun x kx dx => SpM (xaC c x kx dx) pm ρ f)
  bd : Binds K fd ps []
  kp : PySem.W.keepIn K (.ref a) = true
theorem bears_of {X : Cx} {c : CI} {p : Addr × Obj} {kx : Nat} {dx : Option Addr} (hp : p ∈ X.pn) (h : L2H.Hot1 X.A p) (hz : L2N.Zn (.ref (c.C kx)) dx p.2) : Bears X (xaC c p.1 kx dx) p.1 kx dx :=
  ⟨rfl, p.2, hp, hz, by obtain ⟨_, vs, e, _⟩ := h; exact ⟨vs, e⟩⟩
section
variable {P : Program} {w : World} {K : PySem.W.Frag} {mg : Str → Option Value} {base : Heap} {c : CI} {pm μ : Ms} {ρ : Bool}
theorem hasP {x qual : Str} {params : Arguments} {body : List Stmt} {scope : Scope} {f : Addr} {N ps : List Str} {k n : Nat} {m : MS} {fd : FuncData} (F : FunD K x qual params body scope [] [] f fd) (S : FnScope N ps scope) (hps : ps.length = pm.length) (hp : ∀ i, i < pm.length → mdOf μ i = mdOf pm i) (hN : N.length = pm.length + n)
    (hbi : ∀ (kV doc pm : Value) (an : Option Addr) (cdv ct : Value) (us : List Value), us.length = ps.length → bindArgs (PySem.W.fnOf x qual params body scope .none kV doc pm an cdv ct) ⟨us, []⟩ = pure (ps.zip us))
    (hb : ∀ (cdv : Value) (A : Around) (outer : List Env) (s : Shared) (H : Hp) (E : XK) (p : Addr × Obj) (kx : Nat) (dx : Option Addr), L2H.Hot1 A p → L2N.Zn (.ref (c.C kx)) dx p.2 → L2H.RoomH k (A.deeper (envOfC qual scope s.heap.objs.size f cdv)) →
      ∃ t, XSs (L2H.cxH CX0 P w K mg base N qual scope f cdv A outer s H E p).nox (xaC c p.1 kx dx) μ ρ W0 body t m) :
    HasP P w K mg base c f (k + 1) ps pm ρ (fnB pm ρ n m) fd := by
  refine ⟨?_, F.bindsN hbi, F.kp⟩
  obtain ⟨oc, od, dV, kV, doc, pm', an, cdv, ct, osl, rfl, lk, hcd, _, _⟩ := F.ex
  refine L2H.fn_ofP lk hcd S (fun a kx dx vs H Q E h => by rw [h.1, hps]) fun A outer s H vs Q E p kx dx hot hz hr h => ?_
  obtain ⟨t, xs⟩ := hb cdv A outer s H E p kx dx hot hz hr
  obtain ⟨hv, F0, O0, ds, hd, re0, g⟩ := h
  exact ⟨t, xs.ps.nox, xs.ev _ _ _ _ _ _ (re0.start hp hv hd hN) (GS_of hp hv re0 g)⟩
end
section
variable {c : CI} {X : Cx} {μ pm : Ms} {W : WX} {f : Sl → R D} {k : Nat} {fa : Addr} {fd : FuncData} {ps : List Str} {x : Str} {p pos : Pos} {e : Expr} {es : List Expr} {t : TA} {n : MA} {a : Addr} {kx : Nat} {dx : Option Addr}
theorem xe_callP (F : L2H.FnP X.prog X.w X.K X.mg X.base CX0 k fa fd ps c.C (fun x kx dx => SpM (xaC c x kx dx) pm false f)) (hr : L2H.RoomH k X.A) (hc : ∃ oe, L2H.Hot1 X.A (a, oe) ∧ (a, oe) ∈ X.pn ∧ L2N.Zn (.ref (c.C kx)) dx oe) (hm : X.mg x = some (.ref fa)) (hk : PySem.W.keepIn X.K (.ref fa) = true) (hb : Binds X.K fd ps []) (ha : XA X (xaC c a kx dx) μ W (e :: es) t n)
    (hp : ∀ i, i < pm.length → mdOf pm i = .frz := by decide) (hg : Gl X x := by rfl) (hdb : (x == ("__debug__" : Str)) = false := by decide) (he : starEach (e :: es) X.env = (false, eval e X.env) :: starEach es X.env := by rfl) (hpl : (backTo pos (starEach es X.env)).any (·.1) = false := by rfl) :
    XE X (xaC c a kx dx) μ W (.Call (.Name x p) (e :: es) [] pos) (tCall (SpM (xaC c a kx dx) pm false f) [] E0 t) (mCallF pm.length f n) := ⟨L2H.pe_callP (sp := fun x kx dx => SpM (xaC c x kx dx) pm false f) F hr hc hg hm hk hb pass0 ha.pa hdb he hpl, ev_call hp ha.ev⟩
end
theorem hu_ofH {A : Around} {k : Nat} (hr : L2H.RoomH k A) : A.units + 1 < cLine := by have := hr.un; omega
end MM
namespace L2H
theorem RoomH.units {k : Nat} {A : PySem.Around} (r : RoomH k A) : A.units + 64 < PySem.cLine := by have := r.un; omega
theorem RoomH.units0 {k : Nat} {A : PySem.Around} (r : RoomH k A) : A.units < PySem.cLine := by have := r.un; omega
end L2H

set_option Elab.async false
set_option linter.all false
set_option maxRecDepth 100000
set_option maxHeartbeats 4000000
/-! The value layer: the suite of one class; what a suite, a hot def has. -/
namespace MM
open PySem PySem.Spec PyProof.Rows L2
theorem roomH_mark {k : Nat} {A : Around} {v : Option Value} (r : Room k A) : L2H.RoomH k (A.mark v) := ⟨r.dp, r.un⟩
section
variable {c : CI} {X : Cx} {μ : Ms} {ρ : Bool} {W : WX} {cv : Value} {a : Addr} {oe : Obj} {k : Nat} {d : Option Addr} {pn : List (Addr × Obj)}
theorem suite_hc (hz : L2N.Zn (.ref (c.C k)) d oe) (hd : ∃ vs, oe.data = .fields vs) : ∃ oe', L2H.Hot1 (X.suite a ((a, oe) :: pn)).A (a, oe') ∧ (a, oe') ∈ (X.suite a ((a, oe) :: pn)).pn ∧ L2N.Zn (.ref (c.C k)) d oe' := by
  obtain ⟨vs, e⟩ := hd
  exact ⟨oe, ⟨rfl, vs, e, hz.2.2 vs e⟩, List.mem_cons_self, hz⟩
theorem suite_bears (hz : L2N.Zn (.ref (c.C k)) d oe) (hd : ∃ vs, oe.data = .fields vs) : Bears (X.suite a ((a, oe) :: pn)) (xaC c a k d) a k d := ⟨rfl, oe, List.mem_cons_self, hz, hd⟩
theorem hot_hc {p : Addr × Obj} (hp : p ∈ X.pn) (h : L2H.Hot1 X.A p) (hz : L2N.Zn (.ref (c.C k)) d p.2) : ∃ oe', L2H.Hot1 X.A (p.1, oe') ∧ (p.1, oe') ∈ X.pn ∧ L2N.Zn (.ref (c.C k)) d oe' := ⟨p.2, h, hp, hz⟩
theorem xs_tryAs1 (i : Nat) (k : Nat) {x n : Str} {body suite : List Stmt} {b₀ : Stmt} {np pos pos' : Pos} {tb : WX → TS} {ts : Addr → Option Addr → TS} {mb mh : MS} (hN : X.N.Nodup) (hc : Names X x cv) (tk : L2N.Takes X W) (hk : Exm X.K c cv [k])
    (hb : ∀ (W' : WX) (pn : List (Addr × Obj)) (xe : Value → Shared → Prop), L2N.Takes (X.tr pn xe) W' → PassesOwn (model X.prog X.w) X.A X.env xe → XSs (X.tr pn xe) c μ false W' body (tb W') mb)
    (hsu : ∀ (a : Addr) (oe : Obj) (d : Option Addr) (pn : List (Addr × Obj)), L2N.Zn (.ref (c.C k)) d oe → (∃ vs, oe.data = .fields vs) → XSs (X.suite a ((a, oe) :: pn)) (xaC c a k d) μ false W0 (b₀ :: suite) (ts a d) mh)
    (h0 : c.xa = none := by rfl) (hm : mdOf μ i = .frz := by rfl) (hi : X.N[i]? = some n := by rfl) (hln : X.env.kindOf n = some .local := by rfl) (hs : X.stack = X.env :: X.outer := by rfl) (hf : X.env.frame = some X.env.locals := by rfl) :
    XS X c μ false W (.Try body [.ExceptHandler (some (.Name x np)) (some n) (b₀ :: suite) pos'] [] [] pos) (fun D σ H => tb (wAs X.K cv i (tEx c [k] fun a _ d => ts a d) W D) D σ H) (mTryAs i [k] mb mh) :=
  xs_tryAs i [k] (ts := fun a _ d => ts a d) hN hc tk hk hb (fun a oe k' d pn hk' hz hd => by
    obtain rfl := List.mem_singleton.mp hk'
    exact hsu a oe d pn hz hd) h0 hm hi hln hs hf
theorem xs_try1 (k : Nat) {x : Str} {body suite : List Stmt} {b₀ : Stmt} {np pos pos' : Pos} {tb : WX → TS} {ts : Addr → Option Addr → TS} {mb mh : MS} (hc : Names X x cv) (tk : L2N.Takes X W) (hk : Exm X.K c cv [k])
    (hb : ∀ (W' : WX) (pn : List (Addr × Obj)) (xe : Value → Shared → Prop), L2N.Takes (X.tr pn xe) W' → PassesOwn (model X.prog X.w) X.A X.env xe → XSs (X.tr pn xe) c μ false W' body (tb W') mb)
    (hsu : ∀ (a : Addr) (oe : Obj) (d : Option Addr) (pn : List (Addr × Obj)), L2N.Zn (.ref (c.C k)) d oe → (∃ vs, oe.data = .fields vs) → XSs (X.suite a ((a, oe) :: pn)) (xaC c a k d) μ false W0 (b₀ :: suite) (ts a d) mh)
    (h0 : c.xa = none := by rfl) (hs : X.stack = X.env :: X.outer := by rfl) (hf : X.env.frame = some X.env.locals := by rfl) :
    XS X c μ false W (.Try body [.ExceptHandler (some (.Name x np)) none (b₀ :: suite) pos'] [] [] pos) (fun D σ H => tb (wMany X.K W D [(cv, tEx c [k] fun a _ d => ts a d)]) D σ H) (mTry [k] mb mh) :=
  xs_try [k] (ts := fun a _ d => ts a d) hc tk hk hb (fun a oe k' d pn hk' hz hd => by
    obtain rfl := List.mem_singleton.mp hk'
    exact hsu a oe d pn hz hd) h0 hs hf
end
end MM

set_option Elab.async false
set_option linter.all false
set_option maxRecDepth 100000
set_option maxHeartbeats 4000000
/-! The value layer: x[::-1] of a list; isinstance(x, dict). -/
namespace MM
open PySem PySem.Spec PyProof.Rows L2
section
variable {c : CI} {X : Cx} {μ : Ms} {W : WX}
def mRevL (m : ME) : ME := fun sl => (m sl).bind fun x s => match x with
  | .lst ds => .ok (.lst ds.reverse) s
  | _ => .err
theorem ev_revL {K : PySem.W.Frag} {te : TE} {m : ME} (h : EvE c μ W te m) : EvE c μ W (tRevL K te) (mRevL m) := by
  refine Evm.bind (κ := fun x σ H1 (Q : VK) => ∃ a xs, x = .ref a ∧ SqL K H1 a xs ∧ ∀ p, H1 p = none → Q (.ref p) (upd H1 p (.lst xs.reverse))) h fun σ H F O sl x d Q re rx g => ?_
  cases rx with
  | @lst a vs ds h1 z r =>
    have g : GX (rD c) c μ W F H O σ Q (.ok (.lst ds.reverse) sl) := g
    refine ⟨a, vs, rfl, .inl (.inl (re.ag.lst h1)), fun p hp => ?_⟩
    exact g (.ref p) _ _ O (Stp.add _ re.ag hp) (re.add _ hp) (.lst upd_same (by rw [List.length_reverse]; exact z) ((r.mono (Le.new _ (re.ag.non hp))).reverse))
  | _ => exact g.elim
theorem xe_revLK (K0 : PySem.W.Frag) {e : Expr} {te : TE} {m : ME} {k : Nat} {p1 p2 p3 pos : Pos} (h : XE X c μ W e te m) (hK : X.K = K0 := by rfl) : XE X c μ W (.Subscript e (.Slice none none (some (.UnaryOp .USub (.Constant (.int 1) k p1) p2)) p3) pos) (tRevL K0 te) (mRevL m) := by
  subst hK
  exact ⟨pe_revL h.pe, ev_revL h.ev⟩
end
end MM

set_option Elab.async false
set_option linter.all false
set_option maxRecDepth 100000
set_option maxHeartbeats 4000000
/-! The value layer: the runner's classes for what may raise (where it does not), lemmas where it does. -/
namespace MM
open PySem PySem.Spec PyProof.Rows L2
section
variable {m : ME} {n : MA} {ms ms2 mb mh : MS} {i k np : Nat} {ks : List Nat} {F : Sl → R D} {μ : Ms}
inductive P_mCallFX (np : Nat) (F : Sl → R D) (n : MA) : Sl → R D → Prop
  | mk {sl s r l : Sl} {ds : List D} {d : D} : n sl = .ok ds s → ds.length = np → Ms2 ds l → F l = .ok d r → P_mCallFX np F n sl (.ok d s)
instance {np : Nat} {F : Sl → R D} {n : MA} : Sp1 (mCallFX np F n) (P_mCallFX np F n) := ⟨fun _ _ h => by
  cases h with
  | mk h1 h2 h3 h4 =>
    unfold Ms2 at h3
    unfold mCallFX
    rw [h1, bind_ok, if_pos h2, h3, h4]⟩
inductive P_mMakeX (k : Nat) (np : Nat) (F : Sl → R D) (n : MA) : Sl → R D → Prop
  | mk {sl s r l : Sl} {ds : List D} {d1 : D} : n sl = .ok ds s → ds.length + 1 = np → Ms2 (.ins k [] :: ds) l → F l = .ok .non (some d1 :: r) → P_mMakeX k np F n sl (.ok d1 s)
instance {k : Nat} {np : Nat} {F : Sl → R D} {n : MA} : Sp1 (mMakeX k np F n) (P_mMakeX k np F n) := ⟨fun _ _ h => by
  cases h with
  | mk h1 h2 h3 h4 =>
    unfold Ms2 at h3
    unfold mMakeX
    rw [h1, bind_ok, if_pos h2, h3, h4]
    rfl⟩
inductive P_mRevL (m : ME) : Sl → R D → Prop
  | mk {sl s : Sl} {ds : List D} : m sl = .ok (.lst ds) s → P_mRevL m sl (.ok (.lst ds.reverse) s)
instance {m : ME} : Sp1 (mRevL m) (P_mRevL m) := ⟨fun _ _ h => by
  cases h with
  | mk h1 =>
    unfold mRevL
    rw [h1, bind_ok]⟩
inductive P_mItemsL (m : ME) : Sl → R (List D) → Prop
  | mk {sl s : Sl} {ds : List D} : m sl = .ok (.lst ds) s → P_mItemsL m sl (.ok ds s)
instance {m : ME} : Sp1 (mItemsL m) (P_mItemsL m) := ⟨fun _ _ h => by
  cases h with
  | mk h1 =>
    unfold mItemsL
    rw [h1, bind_ok]⟩
inductive P_mBorO (μ : Ms) (i : Nat) (m : ME) : Sl → R D → Prop
  | mk {sl s1 s2 : Sl} {x : D} {ds : List D} [_h : Gi sl i (some x)] [_k : Ki μ (some i) sl s1] : m s1 = .ok (.lst ds) s2 → flatTs ds = true → P_mBorO μ i m sl (.ok (.lst ds) sl)
instance {μ : Ms} {i : Nat} {m : ME} : Sp1 (mBorO μ i m) (P_mBorO μ i m) := ⟨fun sl _ h => by
  cases h with
  | @mk s1 s2 x ds _h _k h1 h2 =>
    have hm := mkC (μ := μ) (i := i) (l := sl) (l' := s1)
    unfold Mk at hm
    have hg := _h.go
    unfold mBorO
    rw [hg]
    dsimp only
    rw [hm, h1]
    dsimp only
    rw [if_pos h2]⟩
inductive P_mTry (ks : List Nat) (mb mh : MS) : Sl → R Fl → Prop
  | mk {sl s : Sl} {f : Fl} : mb sl = .ok f s → P_mTry ks mb mh sl (.ok f s)
instance {ks : List Nat} {mb mh : MS} : Sp1 (mTry ks mb mh) (P_mTry ks mb mh) := ⟨fun _ _ h => by
  cases h with
  | mk h1 =>
    unfold mTry
    rw [h1]⟩
inductive P_mTryAs (i : Nat) (ks : List Nat) (mb mh : MS) : Sl → R Fl → Prop
  | mk {sl s : Sl} {f : Fl} : mb sl = .ok f s → P_mTryAs i ks mb mh sl (.ok f s)
instance {i : Nat} {ks : List Nat} {mb mh : MS} : Sp1 (mTryAs i ks mb mh) (P_mTryAs i ks mb mh) := ⟨fun _ _ h => by
  cases h with
  | mk h1 =>
    unfold mTryAs
    rw [h1]⟩
end
/-! ### where it raises -/
theorem tryAs_exc {i k : Nat} {ks : List Nat} {mb mh : MS} {sl s s2 : Sl} {fs : List D} {d : D} (h1 : mb sl = .exc k fs s) (h2 : ks.contains k = true) (h3 : mh (s.set i (some (.exn k fs))) = .ok (.rt d) s2) (h4 : noE d = true) : mTryAs i ks mb mh sl = .ok (.rt d) (s2.map fun _ => none) := by
  unfold mTryAs
  rw [h1]
  dsimp only
  rw [if_pos h2, h3]
  dsimp only
  rw [if_pos h4]
theorem try_exc {k : Nat} {ks : List Nat} {mb mh : MS} {sl s s2 : Sl} {fs : List D} {d : D} (h1 : mb sl = .exc k fs s) (h2 : ks.contains k = true) (h3 : mh s = .ok (.rt d) s2) (h4 : noE d = true) : mTry ks mb mh sl = .ok (.rt d) (s2.map fun _ => none) := by
  unfold mTry
  rw [h1]
  dsimp only
  rw [if_pos h2, h3]
  dsimp only
  rw [if_pos h4]
theorem callFX_exc {np k : Nat} {f : Sl → R D} {n : MA} {sl s r : Sl} {ds fs : List D} (h2 : n sl = .ok ds s) (hl : ds.length = np) (h3 : f (ds.map some) = .exc k fs r) : mCallFX np f n sl = .exc k fs s := by
  unfold mCallFX
  rw [h2, bind_ok, if_pos hl, h3]
theorem makeX_exc {kc np k : Nat} {f : Sl → R D} {n : MA} {sl s r : Sl} {ds fs : List D} (h2 : n sl = .ok ds s) (hl : ds.length + 1 = np) (h3 : f ((.ins kc [] :: ds).map some) = .exc k fs r) : mMakeX kc np f n sl = .exc k fs s := by
  unfold mMakeX
  rw [h2, bind_ok, if_pos hl, h3]
theorem drop_exc {m : ME} {sl s : Sl} {k : Nat} {fs : List D} (h : m sl = .exc k fs s) : mDrop m sl = .exc k fs s := by
  rw [ap_mDrop, h]
  rfl
theorem asg_exc {m : ME} {g : MG} {sl s : Sl} {k : Nat} {fs : List D} (h : m sl = .exc k fs s) : mAsg m g sl = .exc k fs s := by
  rw [ap_mAsg, h]
  rfl
theorem setO_exc {m : ME} {i : Nat} {sl s : Sl} {k : Nat} {fs : List D} (h : m sl = .exc k fs s) : mSetO m i sl = .exc k fs s := by
  rw [ap_mSetO, h]
  rfl
theorem fz_exc {m : ME} {sl s : Sl} {k : Nat} {fs : List D} (h : m sl = .exc k fs s) : mFz m sl = .exc k fs s := by
  rw [ap_mFz, h]
  rfl
theorem fzI_exc {m : ME} {c : Nat} {sl s : Sl} {k : Nat} {fs : List D} (h : m sl = .exc k fs s) : mFzI c m sl = .exc k fs s := by
  rw [ap_mFzI, h]
  rfl
theorem ret_exc {m : ME} {sl s : Sl} {k : Nat} {fs : List D} (h : m sl = .exc k fs s) : mRet m sl = .exc k fs s := by
  rw [ap_mRet, h]
  rfl
theorem seq_exc {m1 m2 : MS} {sl s : Sl} {k : Nat} {fs : List D} (h : m1 sl = .exc k fs s) : mSeq m1 m2 sl = .exc k fs s := by
  rw [ap_mSeq, h]
theorem fnX_ok {pm : Ms} {ρ : Bool} {n : Nat} {m : MS} {ps r : Sl} {d : D} (h : fnB pm ρ n m ps = .ok d r) : fnX pm ρ n m ps = .ok d r := by
  unfold fnB at h
  unfold fnX
  cases e : m (ps ++ List.replicate n none) with
  | err => rw [e] at h; cases h
  | exc k fs s => rw [e] at h; cases h
  | ok fl s =>
    rw [e] at h
    cases fl with
    | nx => exact h
    | rt d => exact h
    | bk => cases h
    | ct => cases h
theorem fnX_exc {pm : Ms} {ρ : Bool} {n : Nat} {m : MS} {ps s r : Sl} {k : Nat} {fs : List D} (h : m (ps ++ List.replicate n none) = .exc k fs s) (h2 : mskP pm s = some r) : fnX pm ρ n m ps = .exc k fs r := by
  unfold fnX
  rw [h]
  dsimp only
  rw [h2]
end MM

set_option Elab.async false
set_option linter.all false
set_option maxRecDepth 100000
set_option maxHeartbeats 4000000
/-! The value layer: a call within a walk over a dict (the dict is locked there). -/
namespace MM
open PySem PySem.Spec PyProof.Rows L2
def SpL (c : CI) (pm : Ms) (ρ : Bool) (f : Sl → R D) : Sp := fun vs H Q E => ∃ l, SpM { c with lk := l } pm ρ f vs H Q E
structure HasL (P : Program) (w : World) (K : PySem.W.Frag) (mg : Str → Option Value) (base : Heap) (c : CI) (a : Addr) (k : Nat) (ps : List Str) (pm : Ms) (ρ : Bool) (f : Sl → R D) (fd : FuncData) : Prop where
  ok : FnOk P w K mg base CX0 k a fd ps (SpL c pm ρ f)
  bd : Binds K fd ps []
  kp : PySem.W.keepIn K (.ref a) = true
theorem hasL {P : Program} {w : World} {K : PySem.W.Frag} {mg : Str → Option Value} {base : Heap} {c : CI} {a : Addr} {k : Nat} {ps : List Str} {pm : Ms} {ρ : Bool} {f : Sl → R D} {fd : FuncData} (h : ∀ l, Has P w K mg base { c with lk := l } a k ps pm ρ f fd) : HasL P w K mg base c a k ps pm ρ f fd :=
  ⟨⟨fun vs H Q E q => by
    obtain ⟨l, q⟩ := q
    exact (h l).ok.len vs H Q E q, fun A outer s H args us vs Q E hr he hb hv q => by
    obtain ⟨l, q⟩ := q
    exact (h l).ok.run A outer s H args us vs Q E hr he hb hv q⟩, (h none).bd, (h none).kp⟩
section
variable {c : CI} {X : Cx} {μ pm : Ms} {W : WX} {f : Sl → R D} {k : Nat} {fa a : Addr} {fd : FuncData} {ps : List Str} {x : Str} {p pos : Pos} {e : Expr} {es : List Expr} {t : TA} {n : MA}
theorem ev_callW (hp : ∀ i, i < pm.length → mdOf pm i = .frz) (h : EvA (lkC c a) μ W t n) : EvE (lkC c a) μ W (tCall (SpL c pm false f) [] E0 t) (mCallF pm.length f n) := by
  refine Evm.bind (κ := fun vs σ H1 (Q : VK) => SpL c pm false f (vs ++ []) H1 Q E0) h fun σ H F O sl vs ds Q re rs g => ?_
  show SpL c pm false f (vs ++ []) H Q E0
  rw [List.append_nil]
  by_cases hl : ds.length = pm.length
  · rw [if_pos hl] at g
    refine ⟨some a, by rw [rs.length, hl], F, _, ds, hl, re.args rs hp hl, ?_⟩
    cases e : f (ds.map some) with
    | err => rw [e] at g; exact g.elim
    | exc k fs s => rw [e] at g; exact g.elim
    | ok d s =>
      rw [e] at g
      intro v F' H' O' Or st re' hf
      obtain ⟨r1, r2⟩ := re.behind st re'
      exact g v F' H' O r2 r1 hf.1
  · rw [if_neg hl] at g
    exact g.elim
theorem xe_callW (F : FnOk X.prog X.w X.K X.mg X.base CX0 k fa fd ps (SpL c pm false f)) (hr : Room k X.A) (hm : X.mg x = some (.ref fa)) (hk : PySem.W.keepIn X.K (.ref fa) = true) (hb : Binds X.K fd ps []) (ha : XA X (lkC c a) μ W (e :: es) t n) (hx : Passes CX0 X E0) (hp : ∀ i, i < pm.length → mdOf pm i = .frz := by decide)
    (hg : Gl X x := by rfl) (hdb : (x == ("__debug__" : Str)) = false := by decide) (he : starEach (e :: es) X.env = (false, eval e X.env) :: starEach es X.env := by rfl) (hpl : (backTo pos (starEach es X.env)).any (·.1) = false := by rfl) :
    XE X (lkC c a) μ W (.Call (.Name x p) (e :: es) [] pos) (tCall (SpL c pm false f) [] E0 t) (mCallF pm.length f n) := ⟨pe_call F hr hg hm hk hb .nil hx ha.pa hdb he hpl, ev_callW hp ha.ev⟩
end
end MM

set_option Elab.async false
set_option linter.all false
set_option maxRecDepth 100000
set_option maxHeartbeats 4000000
/-! The value layer: list(range(n)), list.pop(i) as a value, a name that is owned for a while. -/
namespace MM
open PySem PySem.Spec PyProof.Rows L2
section
variable {c : CI} {X : Cx} {μ μ' : Ms} {ρ : Bool} {W : WX} {to te tp : TE} {mo me m : ME} {o e : Expr}
/-! ### list(range(n)) -/
def mLstRg (m : ME) : ME := fun sl => (m sl).bind fun d s => match d with
  | .int j => if 0 ≤ j ∧ j ≤ 1000000 then .ok (.lst (rangeD 0 j.toNat)) s else .err
  | _ => .err
theorem evo_lstRg (h : EvE c μ W te m) : EvO c μ W (tLstRg (tRg1 te)) (mLstRg m) := by
  refine Evm.bindO (κ := fun x σ H1 (Q : VK) => ∃ n, x = .int n ∧ (RgOk 0 n ∧ ∀ q, H1 q = none → Q (.ref q) (upd H1 q (.lst (rgV 0 n))))) h fun σ H F O sl x d Q re rx g => ?_
  cases rx with
  | int j =>
    dsimp only at g
    by_cases hj : 0 ≤ j ∧ j ≤ 1000000
    · rw [if_pos hj] at g
      refine ⟨j, rfl, RgOk.of_le (by omega) (by omega) (by omega) (by omega), GO.new re g fun p hp => .lst upd_same ?_ ?_⟩
      · have hl : (rangeD 0 j.toNat).length = j.toNat := by simp [rangeD]
        rw [hl]
        show j.toNat ≤ 1000000
        omega
      · have e1 : rgV 0 j = ((List.range j.toNat).map fun (k : Nat) => (0 : Int) + (k : Int)).map V.int := by
          unfold rgV
          rw [List.map_map, Int.sub_zero]
          rfl
        have e2 : rangeD 0 j.toNat = ((List.range j.toNat).map fun (k : Nat) => (0 : Int) + (k : Int)).map D.int := by
          unfold rangeD
          rw [List.map_map]
          rfl
        rw [e1, e2]
        exact Rps.of_ints _
    · rw [if_neg hj] at g
      exact g.elim
  | _ => exact g.elim
theorem xn_lstRg {p p2 pos pos2 : Pos} {a : Expr} (hc : X.calm = true) (hm : X.mg "list" = none) (hm2 : X.mg "range" = none) (h : XE X c μ W a te m) (hg : Gl X "list" := by rfl) (hg2 : Gl X "range" := by rfl)
    (na : starEach [.Call (.Name "range" p2) [a] [] pos2] X.env = (false, eval (.Call (.Name "range" p2) [a] [] pos2) X.env) :: starEach [] X.env := by rfl) (nb : starEach [a] X.env = (false, eval a X.env) :: starEach [] X.env := by rfl) :
    XN X c μ W (.Call (.Name "list" p) [.Call (.Name "range" p2) [a] [] pos2] [] pos) (tLstRg (tRg1 te)) (mLstRg m) :=
  ⟨pe_listRg hc hg hm (prg_1 hg2 hm2 h.pe nb) na, evo_lstRg h.ev⟩
/-! ### place.pop(i), as a value -/
def popAt (get : Sl → Option D) (set : Sl → D → Sl) (k : D) (s : Sl) : R D := match get s, k with
  | some (.lst ds), .int i => if 0 ≤ i ∧ i < ds.length then (match ds[i.toNat]? with
    | some d => .ok d (set s (.lst (ds.eraseIdx i.toNat)))
    | none => .err) else .err
  | _, _ => .err
def mPopAt (get : Sl → Option D) (set : Sl → D → Sl) (m : ME) : ME := fun sl => match get sl with
  | some (.lst _) => (m sl).bind fun k s => popAt get set k s
  | _ => .err
variable {get : Sl → Option D} {set : Sl → D → Sl}
theorem seqIx {i : Int} {n : Nat} (h : 0 ≤ i ∧ i < n) : seqIndex? i n = some i.toNat := by
  unfold seqIndex?
  have h1 : ¬ i < 0 := by omega
  simp [h1, h.1, h.2]
theorem ev_popAt (K : PySem.W.Frag) (pl : Pl c μ tp get set) (h : EvE c μ W te m) : EvE c μ W (tBM K "list" rPopAt tp (tCons te tNil)) (mPopAt get set m) := by
  intro σ H F O sl Q re g
  unfold mPopAt at g
  split at g
  · rename_i ds0 e0
    obtain ⟨b, i0, h1, h2⟩ := pl σ H F O sl _ re e0
    obtain ⟨ow0, _, _⟩ := h2 H F O sl _ (Stp.refl _ _ _) re e0
    refine h1 _ ⟨?_, ?_⟩
    · cases ow0 with
      | lst hH z r => exact .inl ⟨rfl, _, .inl (.inl hH)⟩
    · refine h σ H F O sl _ re ?_
      revert g
      cases em : m sl with
      | err => exact fun g => g
      | exc k fs s => exact fun g => g
      | ok dk s =>
        intro g y F' H' O' st re' ry
        have g : GX (rD c) c μ W F H O σ Q (popAt get set dk s) := g
        unfold popAt at g
        split at g
        · rename_i ds i e1 ek
          by_cases hi : 0 ≤ i ∧ i < ds.length
          · rw [if_pos hi] at g
            obtain ⟨ow, hb, up⟩ := h2 H' F' O' s _ st re' e1
            first | subst ek | skip
            cases ry
            cases ow with
            | @lst a vs ds hH z r =>
              have hlt : i.toNat < ds.length := by omega
              rw [List.getElem?_eq_getElem hlt] at g
              obtain ⟨v, q1, q2⟩ := r.get (List.getElem?_eq_getElem hlt)
              have hlb : ds.length ≤ 1000000 := z
              have hvl := r.length
              refine ⟨_, vs, i, i.toNat, v, rfl, rfl, hH, by omega, by omega, ?_, q1, ?_⟩
              · rw [hvl]
                exact seqIx hi
              · exact g v F' _ O' (st.trans (Stp.wr hb)) (up _ _ (.lst upd_same (by rw [List.length_eraseIdx]; split <;> omega) (r.erase _))) q2
          · rw [if_neg hi] at g
            exact g.elim
        · exact g.elim
  · exact g.elim
theorem xe_popAt (K0 : PySem.W.Frag) {apos cpos : Pos} (hp : XP X c μ o tp get set) (h : XE X c μ W e te m) (hK : X.K = K0 := by rfl)
    (hbase : attributeBase o "pop" X.env (eval o X.env) = eval o X.env := by rfl)
    (hfew : ((backTo cpos (starEach [e] X.env)).all (fun x => !x.1) && (backToKw cpos (keywordEach [] X.env)).all (fun x => x.1.isSome)
      && decide (([e] : List Expr).length + ([] : List Keyword).length + (if ([] : List Keyword).isEmpty then 0 else 1) < 30)) = true := by rfl)
    (hline : (apos.endLine == cpos.line) = true := by rfl) (hs : starEach [e] X.env = (false, eval e X.env) :: starEach [] X.env := by rfl) (hplain : (backTo cpos (starEach [] X.env)).any (·.1) = false := by rfl) :
    XE X c μ W (.Call (.Attribute o "pop" apos) [e] [] cpos) (tBM K0 "list" rPopAt tp (tCons te tNil)) (mPopAt get set m) := by
  subst hK
  exact ⟨pe_bm PySem.F.plainAttrs_list PySem.F.slot_list_pop PySem.F.type_list_pop mt_popAt hp.pe (pa_cons h.pe pa_nil hs) hbase hfew hline hs hplain, ev_popAt _ hp.pl h.ev⟩
/-! ### owned for a while -/
def mThaw (i : Nat) (m : MS) : MS := fun sl => match m (sl.set i none) with
  | .ok .nx s => (match s[i]? with
    | some (some d) => if isLD d = true then .ok .nx s else .err
    | _ => .err)
  | _ => .err
theorem Pin.toFrz {σ σ' : St} {i : Nat} (hm : MdF μ μ' i) (ho : mdOf μ i = .own) (p : Pin μ σ σ') : Pin μ' σ σ' := fun j h1 h2 => by
  have q : j ≠ i := fun z => h1 (by rw [z]; exact hm.1)
  exact p j (by rw [← hm.2 j q]; exact h1) (by rw [← hm.2 j q]; exact h2)
theorem st_thaw {i : Nat} {t : TS} {mb : MS} (hm : MdF μ μ' i) (ho : mdOf μ i = .own) (h : StM c μ ρ W t mb) : StM c μ' ρ W t (mThaw i mb) := by
  intro σ H F O sl E re g
  refine h σ H F O (sl.set i none) E (re.thaw hm) ?_
  unfold mThaw at g
  revert g
  cases mb (sl.set i none) with
  | err => exact fun g => g.elim
  | exc k fs s => exact fun g => g.elim
  | ok fl s =>
    cases fl with
    | bk => exact fun g => g.elim
    | ct => exact fun g => g.elim
    | rt d => exact fun g => g.elim
    | nx =>
      intro g σ' F' H' O' st re' p
      have g : GS c μ' ρ W F H O σ E (match s[i]? with
        | some (some d) => if isLD d = true then .ok .nx s else .err
        | _ => .err) := g
      split at g
      · rename_i d e
        by_cases hd : isLD d = true
        · rw [if_pos hd] at g
          obtain ⟨v, h1, ow⟩ := re'.own (.inl ho) e
          have own : ∃ a, O' i = [a] ∧ Ow1 c F' H' v d a := by
            generalize O' i = L at ow
            cases ow with
            | one h => exact ⟨_, rfl, h⟩
            | ins _ _ _ _ _ => cases hd
          obtain ⟨a, eO, hw⟩ := own
          obtain ⟨o, e1, q⟩ := hw.freeze
          have ha : a ∈ O' i := by rw [eO]; exact List.mem_singleton.mpr rfl
          have hf := re'.fre i a ha
          have re2 := re'.emptied (i := i)
          have n : ∀ j, a ∉ (if j = i then [] else O' j) := fun j hj => by
            by_cases q : j = i
            · rw [if_pos q] at hj; exact nomatch hj
            · rw [if_neg q] at hj
              exact q (re'.dis j i a hj ha)
          have st2 : Stp F' H' O' (upd F' a o) H' (fun j => if j = i then [] else O' j) := (Stp.emptied (i := i)).put hf (.inr ⟨i, ha⟩)
          have re3 := re2.put e1 hf n
          have re4 : Re c μ' (upd F' a o) H' σ' s (fun j => if j = i then [] else O' j) := re3.freeze hm e h1 (q _ (Le.new o hf) upd_same) (if_pos rfl)
          exact g σ' _ H' _ (st.trans st2) re4 (p.toFrz hm ho)
        · rw [if_neg hd] at g
          exact g.elim
      · exact g.elim
theorem mdF_own {μ : Ms} {i : Nat} (h : i < μ.length) (hm : mdOf μ i = .frz) : MdF (μ.set i .own) μ i ∧ mdOf (μ.set i .own) i = .own := by
  refine ⟨⟨hm, fun j hj => ?_⟩, ?_⟩
  · unfold mdOf
    rw [List.getD_eq_getElem?_getD, List.getD_eq_getElem?_getD, List.getElem?_set_ne (Ne.symm hj)]
  · unfold mdOf
    rw [List.getD_eq_getElem?_getD, List.getElem?_set_self h]
    rfl
theorem xss_thaw (i : Nat) {st : List Stmt} {t : TS} {mb : MS} (h : XSs X c (μ.set i .own) ρ W st t mb) (hi : i < μ.length := by decide) (hm : mdOf μ i = .frz := by rfl) : XSs X c μ ρ W st t (mThaw i mb) :=
  ⟨h.ps, st_thaw (mdF_own hi hm).1 (mdF_own hi hm).2 h.ev⟩
/-! ### xs * n -/
def fRep (x y : D) : Option D := match x, y with
  | .lst xs, .int k => if 0 ≤ k ∧ k ≤ 1000 ∧ xs.length ≤ 100 then some (.lst (List.replicate k.toNat xs).flatten) else none
  | .tup xs, .int k => if 2 ≤ k ∧ k ≤ 1000 ∧ xs.length ≤ 100 ∧ xs ≠ [] then some (.tup (List.replicate k.toNat xs).flatten) else none
  | _, _ => none
theorem rps_rep {F : Hp} {vs : List V} {ds : List D} (h : Rps c F vs ds) : ∀ n : Nat, Rps c F (List.replicate n vs).flatten (List.replicate n ds).flatten
  | 0 => .nil
  | n + 1 => by
    rw [List.replicate_succ, List.replicate_succ, List.flatten_cons, List.flatten_cons]
    exact h.append (rps_rep h n)
end
theorem ap_mPopAt {get : Sl → Option D} {set : Sl → D → Sl} {m : ME} {sl s : Sl} {ds0 ds : List D} {i : Int} {d : D} (h0 : get sl = some (.lst ds0)) (h1 : m sl = .ok (.int i) s) (h2 : get s = some (.lst ds)) (hi : 0 ≤ i ∧ i < ds.length) (hd : ds[i.toNat]? = some d) : mPopAt get set m sl = .ok d (set s (.lst (ds.eraseIdx i.toNat))) := by
  unfold mPopAt
  rw [h0]
  dsimp only
  rw [h1, bind_ok]
  unfold popAt
  rw [h2]
  dsimp only
  rw [if_pos hi, hd]
theorem ap_mThaw {i : Nat} {m : MS} {sl s : Sl} {d : D} (h : m (sl.set i none) = .ok .nx s) (h2 : s[i]? = some (some d)) (h3 : isLD d = true) : mThaw i m sl = .ok .nx s := by
  unfold mThaw
  rw [h]
  dsimp only
  rw [h2]
  dsimp only
  rw [if_pos h3]
inductive P_mLstRg (m : ME) : Sl → R D → Prop
  | mk {sl s : Sl} {j : Int} : m sl = .ok (.int j) s → 0 ≤ j ∧ j ≤ 1000000 → P_mLstRg m sl (.ok (.lst (rangeD 0 j.toNat)) s)
instance {m : ME} : Sp1 (mLstRg m) (P_mLstRg m) := ⟨fun _ _ h => by
  cases h with
  | mk h1 h2 =>
    unfold mLstRg
    rw [h1, bind_ok]
    dsimp only
    rw [if_pos h2]⟩
end MM

set_option Elab.async false
set_option linter.all false
set_option maxRecDepth 100000
set_option maxHeartbeats 4000000
/-! The value layer: a comprehension over an owned dict, lent. -/
namespace MM
open PySem PySem.Spec PyProof.Rows L2
section
variable {c : CI} {X : Cx} {μ : Ms} {W : WX}
theorem xs_setLcKB {ρ : Bool} {S : List Nat} (j : Nat) {y : Str} {py : Pos} (i : Nat) {x : Str} {px : Pos} {elt tg : Expr} {ifs : List Expr} {scope : Scope} (own : List (Str × Nat)) {vs : List Nat} {pos spos : Pos} {g : TG} {mg : MG} {tt : TT} {mt : MT} {te : TE} {me : ME} (hc : X.calm = true) (hN : X.N.Nodup)
    (hsw : swapsWith (.ListComp elt [⟨tg, .Name x px, ifs, 0⟩] scope pos) (some (.Name y py)) spos.line X.env = pure true) (ok : BlkOk X.N X.env.scope scope own)
    (hg : ∀ (a : Addr) (s : Shared) (H : Hp) (C : Addr) (cl : List (Str × Addr)) (fp : List Addr), XG (X.blk s H scope (compEnvC scope cl C X.env) fp) (lkC c a) (μ.set i .frz) S tg g mg)
    (ht : ∀ (a : Addr) (s : Shared) (H : Hp) (C : Addr) (cl : List (Str × Addr)) (fp : List Addr), XTs (X.blk s H scope (compEnvC scope cl C X.env) fp) (lkC c a) (μ.set i .frz) W0 ifs tt mt)
    (he : ∀ (a : Addr) (s : Shared) (H : Hp) (C : Addr) (cl : List (Str × Addr)) (fp : List Addr), XE (X.blk s H scope (compEnvC scope cl C X.env) fp) (lkC c a) (μ.set i .frz) W0 elt te me)
    (hlk : c.lk = none := by rfl) (hl : i < μ.length := by decide) (hm : mdOf μ i = .own ∨ mdOf μ i = .pin := by decide) (hmj : mdOf μ j = .frz := by rfl) (hy : X.N[j]? = some y := by rfl) (hyl : X.env.scope.names.lookup y = some .local := by rfl)
    (hX : X.N[i]? = some x := by rfl) (hvis : Vis X.env.scope x := by first | exact Or.inl rfl | exact Or.inr (Or.inl rfl) | exact Or.inr (Or.inr rfl)) (hd : (x == ("__debug__" : Str)) = false := by decide) (hcd : (x == ("__classdict__" : Str)) = false := by decide)
    (hv : ∀ k, k ∈ vs → mdOf (μ.set i .frz) k = .frz := by decide) (hS : ∀ i, i ∈ S → i ∈ vs := by decide) (hs : ∀ z, foldedSetIterable (.Name x px) X.env z = pure z := by intro _; rfl) (hvs : own.map (·.2) = vs := by rfl) :
    XS X c μ ρ W (.Assign [.Name y py] (.ListComp elt [⟨tg, .Name x px, ifs, 0⟩] scope pos) spos) (tLock (tAsg (tLc (iKeys (tVar i)) g tt te vs) (gName j))) (mAsg (mFz (mBorO μ i (mLcK i vs mg mt me))) (gmName j)) := by
  subst hvs
  exact ⟨ps_lock (ps_setLc hc hN hy hyl hsw (pi_keys (pe_var hX hvis hd hcd)) ok (fun s H C cl fp => (hg 0 s H C cl fp).pg) (fun s H C cl fp => (ht 0 s H C cl fp).pts) (fun s H C cl fp => (he 0 s H C cl fp).pe) hs),
    st_asgK hmj (ev_fz (evo_bor hl hm (evo_lcK hlk mdF_set.1 hv hS (fun a => (hg a X.s_0 X.H_0 0 [] []).ev) (fun a => (ht a X.s_0 X.H_0 0 [] []).ev) (fun a => (he a X.s_0 X.H_0 0 [] []).ev))))⟩
end
end MM

set_option Elab.async false
set_option linter.all false
set_option maxRecDepth 100000
set_option maxHeartbeats 4000000
/-! The value layer: list(x), x[i] of an owned list; a maker whose last argument is an owned thing. -/
namespace MM
open PySem PySem.Spec PyProof.Rows L2
section
variable {c : CI} {X : Cx} {μ pm : Ms} {ρ : Bool} {W : WX} {te : TE} {m : ME} {e : Expr}
def mListO (i : Nat) : ME := fun sl => match sl[i]? with
  | some (some (.lst ds)) => .ok (.lst ds) sl
  | _ => .err
theorem evo_listO {K : PySem.W.Frag} {i : Nat} (hm : mdOf μ i = .own ∨ mdOf μ i = .pin) : EvO c μ W (tCB (rListC K) (tCons (tVar i) tNil)) (mListO i) := by
  intro σ H F O sl Q re g
  unfold mListO at g
  split at g
  · rename_i ds e0
    obtain ⟨v, hv, ow⟩ := re.own hm e0
    refine ⟨v, hv, ?_⟩
    generalize O i = L at ow
    cases ow with
    | one h =>
      cases h with
      | lst hH z r => exact ⟨_, _, rfl, .inl (.inl (.inl hH)), GO.new re g fun p hp => .lst upd_same z r⟩
  · exact g.elim
theorem xn_listO (K0 : PySem.W.Frag) (i : Nat) {y : Str} {py p pos : Pos} (hm : X.mg "list" = none) (hmi : mdOf μ i = .own ∨ mdOf μ i = .pin := by decide) (hK : X.K = K0 := by rfl) (hN : X.N[i]? = some y := by rfl) (hv : Vis X.env.scope y := by first | exact Or.inl rfl | exact Or.inr (Or.inl rfl) | exact Or.inr (Or.inr rfl))
    (hd : (y == ("__debug__" : Str)) = false := by decide) (hcd : (y == ("__classdict__" : Str)) = false := by decide) (hg : Gl X "list" := by rfl) (hs : starEach [.Name y py] X.env = (false, eval (.Name y py) X.env) :: starEach [] X.env := by rfl) (hpl : (backTo pos (starEach [] X.env)).any (·.1) = false := by rfl) :
    XN X c μ W (.Call (.Name "list" p) [.Name y py] [] pos) (tCB (rListC K0) (tCons (tVar i) tNil)) (mListO i) := by
  subst hK
  exact ⟨pe_callTy call_listU hg hm (by decide +kernel) (pa_cons (pe_var hN hv hd hcd) pa_nil hs) (by decide) (by decide) hs hpl, evo_listO hmi⟩
def ixK (o : Option (Option D)) (k : D) (s : Sl) : R D := match o, k with
  | some (some (.lst ds)), .int j => R.ofO (atI ds j) s
  | _, _ => .err
def mIxO (i : Nat) (m : ME) : ME := fun sl => match sl[i]? with
  | some (some _) => (m sl).bind fun k s => ixK s[i]? k s
  | _ => .err
theorem ev_ixO {K : PySem.W.Frag} {i : Nat} (hm : mdOf μ i = .own ∨ mdOf μ i = .pin) (h : EvE c μ W te m) : EvE c μ W (tOp (rIxU K) (tVar i) te) (mIxO i m) := by
  intro σ H F O sl Q re g
  unfold mIxO at g
  split at g
  · rename_i d0 e0
    obtain ⟨v0, hv0, _⟩ := re.own hm e0
    refine ⟨v0, hv0, ?_⟩
    refine h σ H F O sl _ re ?_
    revert g
    cases em : m sl with
    | err => exact fun g => g
    | exc k fs s => exact fun g => g
    | ok k s =>
      intro g y F' H' O' st re'
      have g : GX (rD c) c μ W F H O σ Q (ixK s[i]? k s) := g
      intro ry
      unfold ixK at g
      split at g
      · rename_i ds j e1 ek
        obtain ⟨v0', h1, _, ow⟩ := own_at hm re e0 re' e1
        have ev : v0' = v0 := by rw [hv0] at h1; exact (Option.some.inj (Option.some.inj h1)).symm
        subst ev
        generalize O' i = L at ow
        cases ow with
        | one hh =>
          cases hh with
          | lst hH z r =>
            cases hx : atI ds j with
            | none => rw [hx] at g; exact g.elim
            | some d =>
              rw [hx] at g
              obtain ⟨v, q1, q2⟩ := atI_rep r hx
              cases ry
              exact .inl (.inl ⟨_, _, _, v, rfl, rfl, .inl (.inl hH), q1, g v F' H' O' st re' q2⟩)
      · exact g.elim
  · exact g.elim
theorem xe_ixO (K0 : PySem.W.Frag) (i : Nat) {y : Str} {py pos : Pos} (hu : X.A.units + 1 < cLine) (hb : XE X c μ W e te m) (hs : PlainIx e := by exact fun _ _ => rfl) (hmi : mdOf μ i = .own ∨ mdOf μ i = .pin := by decide) (hK : X.K = K0 := by rfl) (hN : X.N[i]? = some y := by rfl) (hv : Vis X.env.scope y := by first | exact Or.inl rfl | exact Or.inr (Or.inl rfl) | exact Or.inr (Or.inr rfl))
    (hd : (y == ("__debug__" : Str)) = false := by decide) (hcd : (y == ("__classdict__" : Str)) = false := by decide) :
    XE X c μ W (.Subscript (.Name y py) e pos) (tOp (rIxU K0) (tVar i) te) (mIxO i m) := by
  subst hK
  exact ⟨pe_ix (ix_U hu) (pe_var hN hv hd hcd) hb.pe hs, ev_ixO hmi hb.ev⟩
/-! ### xs * n -/
def rRepU (K : PySem.W.Frag) : R2 := fun x y H Q => rRep x y H Q ∨ rRepT K x y H Q
theorem op_repU : OpR X (binaryOp .Mult) (rRepU X.K) := op_rep.or op_repT
theorem rep_lenL {α : Type} (l : List α) : ∀ n : Nat, ((List.replicate n l).flatten).length = n * l.length
  | 0 => by simp
  | n + 1 => by
    rw [List.replicate_succ, List.flatten_cons, List.length_append, rep_lenL l n, Nat.succ_mul, Nat.add_comm]
theorem rv_rep {K : PySem.W.Frag} : Rv2 c (rRepU K) fRep := by
  intro μ σ H F O sl x y dx dy d Q re rx ry e g
  unfold fRep at e
  split at e
  · rename_i xs k
    split at e
    · rename_i hk
      cases rx with
      | lst h1 z1 r1 =>
        cases ry
        cases e
        have hz : xs.length * k.toNat ≤ 100000 := Nat.le_trans (Nat.mul_le_mul hk.2.2 (show k.toNat ≤ 1000 by omega)) (by decide)
        refine .inl ⟨_, _, _, rfl, rfl, re.ag.lst h1, by omega, by omega, by rw [r1.length, sizeLine_eq]; exact Nat.le_trans hz (by decide), ?_⟩
        exact fresh re g fun p F' _ le hp => .lst hp (by rw [rep_lenL, Nat.mul_comm]; exact Nat.le_trans hz (by decide)) (rps_rep (r1.mono le) _)
    · cases e
  · rename_i xs k
    split at e
    · rename_i hk
      cases rx with
      | tup h1 z1 r1 =>
        cases ry
        cases e
        have hz : xs.length * k.toNat ≤ 100000 := Nat.le_trans (Nat.mul_le_mul hk.2.2.1 (show k.toNat ≤ 1000 by omega)) (by decide)
        refine .inr ⟨_, _, _, rfl, rfl, SqT.of (re.ag.tup h1), fun z => hk.2.2.2 ?_, by omega, by omega, by rw [r1.length]; omega, ?_⟩
        · subst z
          cases r1
          rfl
        exact fresh re g fun p F' _ le hp => .tup hp (by rw [rep_lenL, Nat.mul_comm]; exact Nat.le_trans hz (by decide)) (rps_rep (r1.mono le) _)
    · cases e
  · cases e
/-! ### a maker with an owned last argument -/
def ocT (k : Nat) (L0 L1 : List Addr) : Os := fun j => if j = 0 then L0 else if j = k then L1 else []
theorem ocT_mem {k : Nat} {L0 L1 : List Addr} {j : Nat} {a : Addr} (h : a ∈ ocT k L0 L1 j) : (a ∈ L0 ∧ j = 0) ∨ (a ∈ L1 ∧ j = k) := by
  unfold ocT at h
  split at h
  · exact .inl ⟨h, by assumption⟩
  · split at h
    · exact .inr ⟨h, by assumption⟩
    · exact nomatch h
theorem args_two {F H : Hp} {us : List V} {ds : List D} {v0 v1 : V} {d0 d1 : D} {L0 L1 : List Addr} (ag : Ag c.lk F H) (ow0 : Ow c c.md F H v0 d0 L0) (ow1 : Ow c c.md F H v1 d1 L1) (fr0 : ∀ a, a ∈ L0 → F a = none) (fr1 : ∀ a, a ∈ L1 → F a = none) (dj : ∀ a, a ∈ L0 → a ∉ L1)
    (rs : Rps c F us ds) (h0 : mdOf pm 0 = .pin) (hk : mdOf pm (ds.length + 1) = .pin) (hp : ∀ i, i < ds.length → mdOf pm (i + 1) = .frz) :
    Re c pm F H ((v0 :: (us ++ [v1])).map some) ((d0 :: (ds ++ [d1])).map some) (ocT (ds.length + 1) L0 L1) := by
  have hl := rs.length
  refine ⟨ag, by simp [hl], fun i d h => ?_, fun i h => ?_, fun i j a h1 h2 => ?_, fun i a h => ?_⟩
  · cases i with
    | zero =>
      have e : d0 = d := by simpa using h
      subst e
      refine ⟨v0, rfl, ?_⟩
      rw [h0]
      exact ow0
    | succ i =>
      have h : ((ds ++ [d1]).map some)[i]? = some (some d) := h
      show ∃ v, ((us ++ [v1]).map some)[i]? = some (some v) ∧ _
      rcases Nat.lt_trichotomy i ds.length with hi | hi | hi
      · have h : some ds[i] = some d := by
          rw [List.map_append, List.getElem?_append_left (by rw [List.length_map]; exact hi), List.getElem?_map, List.getElem?_eq_getElem hi] at h
          exact Option.some.inj h
        have e : ds[i]? = some d := by rw [List.getElem?_eq_getElem hi]; exact h
        obtain ⟨v, h1, h2⟩ := rs.get e
        refine ⟨v, ?_, ?_⟩
        · rw [List.map_append, List.getElem?_append_left (by rw [List.length_map, hl]; exact hi), List.getElem?_map, h1]
          rfl
        · rw [hp i hi]
          refine ⟨h2, ?_⟩
          unfold ocT
          rw [if_neg (by omega), if_neg (by omega)]
      · subst hi
        have e : d1 = d := by
          rw [List.map_append, List.getElem?_append_right (by rw [List.length_map]; exact Nat.le_refl _), List.length_map, Nat.sub_self] at h
          exact Option.some.inj (Option.some.inj h)
        subst e
        refine ⟨v1, ?_, ?_⟩
        · rw [List.map_append, List.getElem?_append_right (by rw [List.length_map, hl]; exact Nat.le_refl _), List.length_map, hl, Nat.sub_self]
          rfl
        · rw [hk]
          show Ow c c.md F H v1 d1 (ocT (ds.length + 1) L0 L1 (ds.length + 1))
          unfold ocT
          rw [if_neg (by omega), if_pos rfl]
          exact ow1
      · have : ((ds ++ [d1]).map some)[i]? = none := List.getElem?_eq_none (by simp; omega)
        rw [this] at h
        cases h
  · unfold ocT
    split
    · rename_i e
      subst e
      exact absurd rfl (h d0)
    · split
      · rename_i e
        refine absurd ?_ (h d1)
        rw [e]
        show ((ds ++ [d1]).map some)[ds.length]? = _
        rw [List.map_append, List.getElem?_append_right (by rw [List.length_map]; exact Nat.le_refl _), List.length_map, Nat.sub_self]
        rfl
      · rfl
  · rcases ocT_mem h1 with ⟨m1, e1⟩ | ⟨m1, e1⟩
    · rcases ocT_mem h2 with ⟨m2, e2⟩ | ⟨m2, e2⟩
      · omega
      · exact absurd m2 (dj a m1)
    · rcases ocT_mem h2 with ⟨m2, e2⟩ | ⟨m2, e2⟩
      · exact absurd m1 (dj a m2)
      · omega
  · rcases ocT_mem h with ⟨m1, _⟩ | ⟨m1, _⟩
    · exact fr0 a m1
    · exact fr1 a m1
/-- behind the making -/
theorem behind_two {F H H2 F' H' : Hp} {σ : St} {sl s2 : Sl} {O O2 : Os} {i k : Nat} {x dx : Addr} {v0 : V} {ws : List V} {d0 d1 dI : D} (re : Re c μ F H σ sl O) (hm : mdOf μ i = .own ∨ mdOf μ i = .pin) (hs : sl[i]? = some (some d0)) (hv : σ[i]? = some (some v0))
    (hx : H x = none) (hdx : H dx = none) (old : ∀ a o, H a = some o → H2 a = some o) (al2 : ∀ a, H2 a = none → H a = none)
    (h0 : mdOf pm 0 = .pin) (hk0 : mdOf pm k = .pin) (hkne : k ≠ 0) (hw0 : (ws.map some)[0]? = some (some (.ref x))) (hw : (ws.map some)[k]? = some (some v0)) (st : Stp F H2 (ocT k [x, dx] (O i)) F' H' O2) (re2 : Re c pm F' H' (ws.map some) s2 O2) (hdI : s2[0]? = some (some dI)) (hd1 : s2[k]? = some (some d1)) :
    Re c μ F' H' σ (sl.set i (some d1)) (fun j => if j = i then O2 k else O j) ∧ Stp F H O F' H' (fun j => if j = i then O2 k else O j) ∧ Ow c c.md F' H' (.ref x) dI (O2 0) ∧
      ∀ a, a ∈ O2 0 → F' a = none ∧ (∀ j, a ∉ (fun j => if j = i then O2 k else O j) j) ∧ H a = none := by
  have hi : i < sl.length := (List.getElem?_eq_some_iff.mp hs).1
  obtain ⟨v1, e1, ow⟩ := re2.at_ k d1 hd1
  have ev : v1 = v0 := by
    rw [hw] at e1
    exact (Option.some.inj (Option.some.inj e1)).symm
  subst ev
  rw [hk0] at ow
  obtain ⟨vI, eI, owI⟩ := re2.at_ 0 dI hdI
  have evI : vI = .ref x := by
    rw [hw0] at eI
    exact (Option.some.inj (Option.some.inj eI)).symm
  subst evI
  rw [h0] at owI
  have in2 : ∀ a, a ∈ [x, dx] → H a = none := fun a ha => by
    rcases List.mem_cons.mp ha with e | e
    · rw [e]; exact hx
    · rw [List.mem_singleton.mp e]; exact hdx
  have keep : ∀ j a, j ≠ i → a ∈ O j → ∀ o, H a = some o → H' a = some o := fun j a hj ha o ho => st.kp a o (old a o ho) fun l hl => by
    rcases ocT_mem hl with ⟨z, _⟩ | ⟨z, _⟩
    · rw [in2 a z] at ho; cases ho
    · exact hj (re.dis j i a ha z)
  have foH : ∀ a o, F' a = some o → F a = some o ∨ H a = none ∨ a ∈ O i := fun a o q => by
    rcases st.fo a o q with z | z | ⟨l, z⟩
    · exact .inl z
    · exact .inr (.inl (al2 a z))
    · rcases ocT_mem z with ⟨z, _⟩ | ⟨z, _⟩
      · exact .inr (.inl (in2 a z))
      · exact .inr (.inr z)
  have frO : ∀ j a, j ≠ i → a ∈ O j → F' a = none := fun j a hj ha => by
    cases q : F' a with
    | none => rfl
    | some o =>
      obtain ⟨u, hu⟩ := re.there ha
      rcases foH a o q with z | z | z
      · rw [re.fre j a ha] at z; cases z
      · rw [hu] at z; cases z
      · exact absurd (re.dis j i a ha z) hj
  have owk : ∀ l a, a ∈ O2 l → H a = none ∨ a ∈ O i := fun l a ha => by
    rcases st.ow l a ha with z | ⟨j, z⟩
    · exact .inl (al2 a z)
    · rcases ocT_mem z with ⟨z, _⟩ | ⟨z, _⟩
      · exact .inl (in2 a z)
      · exact .inr z
  have new0 : ∀ a, a ∈ O2 0 → H a = none := fun a ha => by
    have h := st.pk 0
    unfold ocT at h
    rw [if_pos rfl] at h
    rcases h with ⟨N, e, hN⟩ | e | hN
    · rw [e] at ha
      rcases List.mem_append.mp ha with z | z
      · exact in2 a z
      · exact al2 a (hN a z)
    · rw [e] at ha; exact nomatch ha
    · exact al2 a (hN a ha)
  have key : ∀ j a, j ≠ i → a ∈ O2 k → a ∈ O j → False := fun j a hj ha hb => by
    rcases owk k a ha with z | z
    · obtain ⟨u, hu⟩ := re.there hb
      rw [z] at hu; cases hu
    · exact hj (re.dis j i a hb z)
  refine ⟨⟨re2.ag, by rw [List.length_set]; exact re.len, fun j d h => ?_, fun j h => ?_, fun j l a h1 h2 => ?_, fun j a h => ?_⟩, ⟨st.ff, fun a o ho n => st.kp a o (old a o ho) fun l hl => ?_, fun a o q => ?_, fun j a h => ?_, fun a q => al2 a (st.al a q), fun j => ?_⟩, owI, fun a ha => ⟨re2.fre 0 a ha, fun j hj => ?_, new0 a ha⟩⟩
  · by_cases q : i = j
    · subst q
      rw [List.getElem?_set_self hi] at h
      cases h
      rw [if_pos rfl]
      refine ⟨v1, hv, ?_⟩
      rcases hm with e | e <;> (rw [e]; exact ow)
    · rw [List.getElem?_set_ne q] at h
      rw [if_neg (Ne.symm q)]
      obtain ⟨v2, q1, q2⟩ := re.at_ j d h
      exact ⟨v2, q1, q2.mono st.ff fun a ha o ho => keep j a (Ne.symm q) ha o ho⟩
  · by_cases q : i = j
    · subst q
      exact absurd (List.getElem?_set_self hi) (h d1)
    · rw [if_neg (Ne.symm q)]
      exact re.emp j fun d2 w1 => h d2 (by rw [List.getElem?_set_ne q]; exact w1)
  · by_cases q1 : j = i
    · by_cases q2 : l = i
      · rw [q1, q2]
      · rw [if_pos q1] at h1
        rw [if_neg q2] at h2
        exact (key l a q2 h1 h2).elim
    · by_cases q2 : l = i
      · rw [if_neg q1] at h1
        rw [if_pos q2] at h2
        exact (key j a q1 h2 h1).elim
      · rw [if_neg q1] at h1
        rw [if_neg q2] at h2
        exact re.dis j l a h1 h2
  · by_cases q : j = i
    · rw [if_pos q] at h
      exact re2.fre k a h
    · rw [if_neg q] at h
      exact frO j a q h
  · rcases ocT_mem hl with ⟨z, _⟩ | ⟨z, _⟩
    · rw [in2 a z] at ho; cases ho
    · exact n i z
  · rcases foH a o q with z | z | z
    · exact .inl z
    · exact .inr (.inl z)
    · exact .inr (.inr ⟨i, z⟩)
  · by_cases q : j = i
    · have h : a ∈ (if j = i then O2 k else O j) := h
      rw [if_pos q] at h
      rcases owk k a h with z | z
      · exact .inl z
      · exact .inr ⟨i, z⟩
    · have h : a ∈ (if j = i then O2 k else O j) := h
      rw [if_neg q] at h
      exact .inr ⟨j, h⟩
  · show (∃ N, (if j = i then O2 k else O j) = O j ++ N ∧ _) ∨ (if j = i then O2 k else O j) = [] ∨ ∀ a, a ∈ (if j = i then O2 k else O j) → H a = none
    by_cases q : j = i
    · subst q
      rw [if_pos rfl]
      have := st.pk k
      unfold ocT at this
      rw [if_neg hkne, if_pos rfl] at this
      rcases this with ⟨N, e, hN⟩ | e | hN
      · exact .inl ⟨N, e, fun a ha => al2 a (hN a ha)⟩
      · exact .inr (.inl e)
      · exact .inr (.inr fun a ha => al2 a (hN a ha))
    · rw [if_neg q]
      exact pk_refl _
  · by_cases q : j = i
    · have hj : a ∈ (if j = i then O2 k else O j) := hj
      rw [if_pos q] at hj
      exact hkne (re2.dis k 0 a hj ha)
    · have hj : a ∈ (if j = i then O2 k else O j) := hj
      rw [if_neg q] at hj
      obtain ⟨u, hu⟩ := re.there hj
      rw [new0 a ha] at hu; cases hu
def mMakeXL (i kc np : Nat) (f : Sl → R D) (n : MA) : ME := fun sl => match sl[i]? with
  | some (some _) => (n sl).bind fun ds s => (match s[i]? with
    | some (some d0) => if ds.length + 2 = np then (match f ((.ins kc [] :: (ds ++ [d0])).map some) with
      | .ok .non s2 => (match s2[0]?, s2[ds.length + 1]? with
        | some (some dI), some (some d1) => .ok dI (s.set i (some d1))
        | _, _ => .err)
      | _ => .err) else .err
    | _ => .err)
  | _ => .err
theorem evo_makeXL {f : Sl → R D} {kc i : Nat} {t : TA} {n : MA} (hm : mdOf μ i = .own ∨ mdOf μ i = .pin) (h0 : mdOf pm 0 = .pin) (hk : mdOf pm (pm.length - 1) = .pin) (hp : ∀ j, j + 1 < pm.length → j ≠ 0 → mdOf pm j = .frz) (h : EvL c μ W i t n) :
    EvO c μ W (L2N.tMakeS (c.C kc) (SpM c pm false f) (WE W) t) (mMakeXL i kc pm.length f n) := by
  intro σ H F O sl Q re g
  unfold mMakeXL at g
  split at g
  · rename_i d00 e00
    obtain ⟨v0, hv0, _⟩ := re.own hm e00
    refine h σ H F O sl _ v0 hv0 re ?_
    revert g
    cases en : n sl with
    | err => exact fun g => g
    | exc k fs s => exact fun g => g
    | ok ds s =>
      rintro g vs F1 H1 O1 st1 re1 ⟨us, rfl, rs⟩
      intro x dx hx hdx hne
      rw [List.append_nil]
      have g : GO c μ W F H O σ Q (match s[i]? with
        | some (some d0) => if ds.length + 2 = pm.length then (match f ((.ins kc [] :: (ds ++ [d0])).map some) with
          | .ok .non s2 => (match s2[0]?, s2[ds.length + 1]? with
            | some (some dI), some (some d1) => .ok dI (s.set i (some d1))
            | _, _ => .err)
          | _ => .err) else .err
        | _ => .err) := g
      split at g
      · rename_i d0 e0
        obtain ⟨v0', h1, _, ow⟩ := own_at hm re e00 re1 e0
        have ev : v0' = v0 := by rw [hv0] at h1; exact (Option.some.inj (Option.some.inj h1)).symm
        subst ev
        have hx2 : upd (upd H1 dx (.own x)) x (.ins (c.C kc) dx []) x = some (.ins (c.C kc) dx []) := upd_same
        have hdx2 : upd (upd H1 dx (.own x)) x (.ins (c.C kc) dx []) dx = some (.own x) := by rw [upd_ne hne]; exact upd_same
        have old : ∀ a o, H1 a = some o → upd (upd H1 dx (.own x)) x (.ins (c.C kc) dx []) a = some o := fun a o e => by rw [upd_ne (ne_of_none e hx), upd_ne (ne_of_none e hdx)]; exact e
        have al2 : ∀ a, upd (upd H1 dx (.own x)) x (.ins (c.C kc) dx []) a = none → H1 a = none := fun a e => upd_al a (upd_al a e)
        have ag2 : Ag c.lk F1 (upd (upd H1 dx (.own x)) x (.ins (c.C kc) dx [])) := fun a o e => by
          rcases re1.ag a o e with z | ⟨l, kvs, ob, e1, z⟩
          · exact .inl (old a _ z)
          · exact .inr ⟨l, kvs, ob, e1, old a _ z⟩
        have owI : Ow c c.md F1 (upd (upd H1 dx (.own x)) x (.ins (c.C kc) dx [])) (.ref x) (.ins kc []) [x, dx] :=
          .ins hx2 hdx2 rfl (.nil _) (List.nodup_cons.mpr ⟨by simpa using Ne.symm hne, by simp⟩)
        have in2 : ∀ a, a ∈ [x, dx] → H1 a = none := fun a ha => by
          rcases List.mem_cons.mp ha with e | e
          · rw [e]; exact hx
          · rw [List.mem_singleton.mp e]; exact hdx
        have fr : ∀ a, a ∈ [x, dx] → F1 a = none := fun a ha => re1.ag.non (in2 a ha)
        have dj : ∀ a, a ∈ [x, dx] → a ∉ O1 i := fun a ha hb => by
          obtain ⟨u, hu⟩ := re1.there hb
          rw [in2 a ha] at hu; cases hu
        have ow2 : Ow c c.md F1 (upd (upd H1 dx (.own x)) x (.ins (c.C kc) dx [])) v0' d0 (O1 i) := ow.mono (Le.refl _) fun a ha o ho => old a o ho
        by_cases hl : ds.length + 2 = pm.length
        · rw [if_pos hl] at g
          have hk' : mdOf pm (ds.length + 1) = .pin := by
            have : pm.length - 1 = ds.length + 1 := by omega
            rw [← this]
            exact hk
          refine ⟨by rw [List.length_cons, List.length_append, rs.length]; exact hl, F1, _, .ins kc [] :: (ds ++ [d0]), by rw [List.length_cons, List.length_append]; exact hl, args_two ag2 owI ow2 fr (fun a ha => re1.fre i a ha) dj rs h0 hk' (fun j hj => hp (j + 1) (by omega) (by omega)), ?_⟩
          cases e : f ((D.ins kc [] :: (ds ++ [d0])).map some) with
          | err => rw [e] at g; exact g.elim
          | exc k fs s => rw [e] at g; exact g.elim
          | ok d s2 =>
            rw [e] at g
            intro v F' H' O' Or st re' hf
            cases d with
            | non =>
              dsimp only at g
              have ev : v = .non := by
                have := hf.1
                cases this
                rfl
              refine ⟨ev, ?_⟩
              split at g
              · rename_i dI d1 eI e1
                have hw : ((V.ref x :: (us ++ [v0'])).map some)[ds.length + 1]? = some (some v0') := by
                  show ((us ++ [v0']).map some)[ds.length]? = _
                  rw [← rs.length, List.map_append, List.getElem?_append_right (by rw [List.length_map]; exact Nat.le_refl _), List.length_map, Nat.sub_self]
                  rfl
                obtain ⟨r1, r2, r3, r4⟩ := behind_two re1 hm e0 hv0 hx hdx old al2 h0 hk' (by omega) rfl hw st re' eI e1
                exact g (.ref x) F' H' _ (O' 0) (st1.trans r2) r1 r3 fun a ha => ⟨(r4 a ha).1, (r4 a ha).2.1, st1.al a (r4 a ha).2.2⟩
              · exact g.elim
            | _ => exact g.elim
        · rw [if_neg hl] at g
          exact g.elim
      · exact g.elim
  · exact g.elim
variable {k kc : Nat} {fa : Addr} {fd : FuncData} {ps : List Str} {x : Str} {p pos : Pos} {es : List Expr} {t : TA} {n : MA} {f : Sl → R D}
theorem xn_makeXL {i : Nat} (M : L2.Mk X.K (c.C kc) fa) (F : FnOk X.prog X.w X.K X.mg X.base (L2N.CX X.prog X.w) k fa fd ps (SpM c pm false f)) (hr : Room (k + 1) X.A) (hm : X.mg x = some (.ref (c.C kc))) (hb : Binds X.K fd ps []) (ha : XL X c μ W i (e :: es) t n) (tk : L2N.Takes X W)
    (h0 : mdOf pm 0 = .pin := by rfl) (hk : mdOf pm (pm.length - 1) = .pin := by rfl) (hp : ∀ j, j + 1 < pm.length → j ≠ 0 → mdOf pm j = .frz := by intro j hj hn; simp only [List.length_cons, List.length_nil] at hj; repeat (first | omega | (rcases j with _ | j; · first | rfl | omega))) (hmi : mdOf μ i = .own ∨ mdOf μ i = .pin := by decide)
    (hg : Gl X x := by rfl) (hdb : (x == ("__debug__" : Str)) = false := by decide) (he : starEach (e :: es) X.env = (false, eval e X.env) :: starEach es X.env := by rfl) (hpl : (backTo pos (starEach es X.env)).any (·.1) = false := by rfl) :
    XN X c μ W (.Call (.Name x p) (e :: es) [] pos) (L2N.tMakeS (c.C kc) (SpM c pm false f) (WE W) t) (mMakeXL i kc pm.length f n) := ⟨L2N.pe_makeS M F hr hg hm hb (L2N.passAt tk) ha.pa hdb he hpl, evo_makeXL hmi h0 hk hp ha.ev⟩
end
end MM

set_option Elab.async false
set_option linter.all false
set_option maxRecDepth 100000
set_option maxHeartbeats 4000000
/-! the evaluators, printed by gen.py -/
namespace EV
open MM
def law_dice : Sl → R D := fnB [.frz] true 2
  (mSeq (mAsg (mC (.int 0)) (gmName 1))
  (mSeq (mFor (mItems (mVar 0)) (gmName 2) (mAsg (mOp fMod (mOp fAdd (mOp fAdd (mOp fMul (mVar 1) (mC (.int 48271))) (mOp fMul (mOp fMod (mVar 2) (mC (.int 2147483647))) (mC (.int 69621)))) (mC (.int 11))) (mC (.int 2147483647))) (gmName 1)))
  (mRet (mLst (mCons (mVar 0) (mCons (mC (.int 0)) (mCons (mOp fMul (mVar 1) (mCall fInt (mCons (mOp fGt (mCall fLen (mCons (mVar 0) mNil)) (mC (.int 2))) mNil))) (mCons (mC (.int 0)) mNil))))))))
def law_next : Sl → R D := fnB [.pin, .frz] false 2
  (mSeq (mIf (mTest (mOp fGt (mBor [.pin, .frz, .frz, .frz] 0 (mOp fIx (mVar 0) (mC (.int 3)))) (mC (.int 0)))) (mSeq (mAsg (mOp fMod (mBor [.pin, .frz, .frz, .frz] 0 (mOp fIx (mVar 0) (mC (.int 3)))) (mVar 1)) (gmName 2))
  (mSeq (mSetL (getV 0) (setV 0) (mOp fDiv (mBor [.pin, .frz, .frz, .frz] 0 (mOp fIx (mVar 0) (mC (.int 3)))) (mVar 1)) (mC (.int 3)))
  (mRet (mVar 2)))) mSkip)
  (mSeq (mSetL (getV 0) (setV 0) (mOp fAdd (mBor [.pin, .frz, .frz, .frz] 0 (mOp fIx (mVar 0) (mC (.int 1)))) (mC (.int 1))) (mC (.int 1)))
  (mSeq (mIf (mTest (mOp fLe (mBor [.pin, .frz, .frz, .frz] 0 (mOp fIx (mVar 0) (mC (.int 1)))) (mBor [.pin, .frz, .frz, .frz] 0 (mCall fLen (mCons (mOp fIx (mVar 0) (mC (.int 0))) mNil))))) (mSeq (mAsg (mBor [.pin, .frz, .frz, .frz] 0 (mOp fIx (mOp fIx (mVar 0) (mC (.int 0))) (mOp fSub (mOp fIx (mVar 0) (mC (.int 1))) (mC (.int 1))))) (gmName 3))
  (mSeq (mSetL (getV 0) (setV 0) (mIfE (mTest (mOp fGe (mVar 3) (mOp fPow (mC (.int 10)) (mC (.int 18))))) (mOp fDiv (mVar 3) (mVar 1)) (mC (.int 0))) (mC (.int 3)))
  (mRet (mOp fMod (mVar 3) (mVar 1))))) mSkip)
  (mSeq (mSetL (getV 0) (setV 0) (mOp fMod (mOp fMul (mBor [.pin, .frz, .frz, .frz] 0 (mOp fIx (mVar 0) (mC (.int 2)))) (mC (.int 48271))) (mC (.int 2147483647))) (mC (.int 2)))
  (mRet (mOp fMod (mOp fDiv (mBor [.pin, .frz, .frz, .frz] 0 (mOp fIx (mVar 0) (mC (.int 2)))) (mC (.int 7))) (mVar 1)))))))
def law_names : Sl → R D := fnB [.pin, .frz] false 3
  (mSeq (mAsg (mCallI 0 2 law_next (mCons (mC (.int 26)) mNil)) (gmName 2))
  (mSeq (mAsg (mOp fIx (mFz (mLst (mCons (mC (.int 1)) (mCons (mC (.int 3)) (mCons (mC (.int 5)) (mCons (mC (.int 7)) (mCons (mC (.int 9)) (mCons (mC (.int 11)) mNil)))))))) (mCallI 0 2 law_next (mCons (mC (.int 6)) mNil))) (gmName 3))
  (mRet (mFz (mLc (mRng1 (mCons (mVar 1) mNil)) [4] (gmName 4) mYes (mOp fIx (mC (.str [97, 98, 99, 100, 101, 102, 103, 104, 105, 106, 107, 108, 109, 110, 111, 112, 113, 114, 115, 116, 117, 118, 119, 120, 121, 122])) (mOp fMod (mOp fAdd (mVar 2) (mOp fMul (mVar 3) (mVar 4))) (mC (.int 26)))))))))
def law_word : Sl → R D := fnB [.frz, .frz, .frz] false 1
  (mSeq (mAsg (mOp fIx (mVar 2) (mOp fMod (mVar 0) (mVar 1))) (gmName 3))
  (mSeq (mWhile (mTest (mOp fGe (mVar 0) (mVar 1))) (mSeq (mAsg (mOp fDiv (mVar 0) (mVar 1)) (gmName 0))
  (mAsg (mOp fAdd (mOp fIx (mVar 2) (mOp fMod (mVar 0) (mVar 1))) (mVar 3)) (gmName 3))) 64)
  (mRet (mVar 3))))
def law_sum : Sl → R D := fnB [.pin, .frz, .frz] false 8
  (mSeq (mAsg (mOp fMul (mOp fMul (mVar 1) (mVar 1)) (mVar 1)) (gmName 3))
  (mSeq (mIf (mTest (mOp fLt (mVar 1) (mC (.int 5)))) (mAsg (mOp fMul (mVar 3) (mVar 1)) (gmName 3)) mSkip)
  (mSeq (mAsg (mOp fAdd (mC (.int 1)) (mCallI 0 2 law_next (mCons (mC (.int 4)) mNil))) (gmName 4))
  (mSeq (mIf (mTest (mOp fGt (mVar 1) (mC (.int 6)))) (mSeq (mAsg (mVar 1) (gmName 3))
  (mAsg (mC (.int 2)) (gmName 4))) mSkip)
  (mSeq (mIf (mAnd (mTest (mOp fEq (mCallI 0 2 law_next (mCons (mC (.int 4)) mNil)) (mC (.int 3)))) (mTest (mOp fLt (mVar 1) (mC (.int 7))))) (mSeq (mSetO (mLst mNil) 6)
  (mSeq (mFor (mRng1 (mCons (mOp fAdd (mVar 4) (mC (.int 1))) mNil)) (gmName 7) (mSeq (mAsg (mOp fAdd (mC (.int 1)) (mCallI 0 2 law_next (mCons (mC (.int 3)) mNil))) (gmName 8))
  (mSeq (mIf (mAnd (mTest (mOp fLt (mVar 1) (mC (.int 5)))) (mTest (mOp fEq (mCallI 0 2 law_next (mCons (mC (.int 4)) mNil)) (mC (.int 3))))) (mAsg (mOp fAdd (mC (.int 1)) (mCallI 0 2 law_next (mCons (mC (.int 6)) mNil))) (gmName 8)) mSkip)
  (mApp (getV 6) (setV 6) (mMeth isStr fJoin (mC (.str [])) (mCons (mFz (mLc (mRng1 (mCons (mVar 8) mNil)) [10] (gmName 10) mYes (mOp fIx (mVar 2) (mCallI 0 2 law_next (mCons (mVar 1) mNil))))) mNil))))))
  (mRet (mTup (mCons (mBor [.pin, .frz, .frz, .frz, .frz, .frz, .own, .frz, .frz, .frz, .frz] 6 (mCall fTuple (mCons (mSl (mVar 6) (mPart (mC (.int 1))) mNoPart) mNil))) (mCons (mBor [.pin, .frz, .frz, .frz, .frz, .frz, .own, .frz, .frz, .frz, .frz] 6 (mOp fIx (mVar 6) (mC (.int 0)))) mNil)))))) mSkip)
  (mSeq (mAsg (mFz (mLc (mRng1 (mCons (mVar 4) mNil)) [7] (gmName 7) mYes (mCallI 0 2 law_next (mCons (mVar 3) mNil)))) (gmName 5))
  (mRet (mTup (mCons (mCall fTuple (mCons (mFz (mLc (mItems (mVar 5)) [9] (gmName 9) mYes (mCallF 3 law_word (mCons (mVar 9) (mCons (mVar 1) (mCons (mVar 2) mNil)))))) mNil)) (mCons (mCallF 3 law_word (mCons (mCall fSum (mCons (mVar 5) mNil)) (mCons (mVar 1) (mCons (mVar 2) mNil)))) mNil))))))))))
def law_sheet : Sl → R D := fnB [.pin] false 4
  (mSeq (mAsg (mOp fIx (mFz (mLst (mCons (mOp fAdd (mC (.int 2)) (mCallI 0 2 law_next (mCons (mC (.int 5)) mNil))) (mCons (mOp fAdd (mC (.int 7)) (mCallI 0 2 law_next (mCons (mC (.int 6)) mNil))) mNil)))) (mCall fInt (mCons (mOp fEq (mCallI 0 2 law_next (mCons (mC (.int 6)) mNil)) (mC (.int 5))) mNil))) (gmName 1))
  (mSeq (mAsg (mCallI 0 2 law_names (mCons (mVar 1) mNil)) (gmName 2))
  (mSeq (mAsg (mFz (mLst (mCons (mCallI 0 3 law_sum (mCons (mVar 1) (mCons (mVar 2) mNil))) mNil))) (gmName 3))
  (mSeq (mIf (mTest (mOp fLt (mVar 1) (mC (.int 7)))) (mAsg (mOp fAdd (mVar 3) (mFz (mLc (mRng1 (mCons (mOp fIx (mFz (mLst (mCons (mC (.int 0)) (mCons (mC (.int 0)) (mCons (mC (.int 1)) (mCons (mC (.int 2)) mNil)))))) (mCallI 0 2 law_next (mCons (mC (.int 4)) mNil))) mNil)) [4] (gmName 4) mYes (mCallI 0 3 law_sum (mCons (mVar 1) (mCons (mVar 2) mNil)))))) (gmName 3)) mSkip)
  (mRet (mTup (mCons (mVar 1) (mCons (mVar 3) mNil))))))))
def law_wrong : Sl → R D := fnB [.pin, .frz] false 6
  (mSeq (mAsg (mVar 1) (gmTup 2 (gmCons (gmName 6) (gmCons (gmName 7) gmNil))))
  (mSeq (mAsg (mSl (mVar 7) mNoPart (mPart (mC (.int 1)))) (gmName 2))
  (mSeq (mAsg (mFz (mLst (mCons (mTup (mCons (mTup mNil) (mCons (mC (.str [97])) mNil))) (mCons (mTup (mCons (mOp fRep (mTup (mCons (mC (.str [97])) mNil)) (mC (.int 5))) (mCons (mC (.str [98])) mNil))) (mCons (mTup (mCons (mTup (mCons (mC (.str [])) mNil)) (mCons (mC (.str [97])) mNil))) (mCons (mTup (mCons (mTup (mCons (mC (.str [97])) (mCons (mC (.str [98, 99, 100, 101, 102, 103, 104])) mNil))) (mCons (mC (.str [97])) mNil))) (mCons (mTup (mCons (mTup (mCons (mC (.str [65])) mNil)) (mCons (mC (.str [97])) mNil))) (mCons (mTup (mCons (mTup (mCons (mC (.str [97])) mNil)) (mCons (mC (.str [97, 49])) mNil))) mNil)))))))) (gmName 3))
  (mSeq (mAsg (mOp fAdd (mVar 3) (mFz (mLst (mCons (mTup (mCons (mTup (mCons (mC (.str [97, 32, 98])) mNil)) (mCons (mC (.str [97])) mNil))) (mCons (mTup (mCons (mTup (mCons (mC (.str [97])) mNil)) (mCons (mC (.str [98, 45])) mNil))) (mCons (mTup (mCons (mTup (mCons (mC (.str [97, 98, 99, 100, 101, 102, 103])) mNil)) (mCons (mC (.str [97])) mNil))) (mCons (mTup (mCons (mTup (mCons (mC (.str [97])) mNil)) (mCons (mC (.str [])) mNil))) (mCons (mTup (mCons (mTup (mCons (mC (.str [110, 111, 112, 113])) (mCons (mC (.str [114, 115, 116, 117])) (mCons (mC (.str [118, 119, 120, 121])) mNil)))) (mCons (mC (.str [122])) mNil))) mNil)))))))) (gmName 3))
  (mSeq (mAsg (mFz (mLst (mCons (mC (.str [97, 100, 100, 101, 110, 100, 115])) (mCons (mC (.str [97, 100, 100, 101, 110, 100, 115])) (mCons (mC (.str [119, 111, 114, 100])) (mCons (mC (.str [119, 111, 114, 100])) (mCons (mC (.str [119, 111, 114, 100])) (mCons (mC (.str [119, 111, 114, 100])) (mCons (mC (.str [119, 111, 114, 100])) (mCons (mC (.str [119, 111, 114, 100])) (mCons (mC (.str [119, 111, 114, 100])) (mCons (mC (.str [119, 111, 114, 100])) (mCons (mC (.str [108, 101, 116, 116, 101, 114, 115])) mNil))))))))))))) (gmName 4))
  (mSeq (mAsg (mCallI 0 2 law_next (mCons (mC (.int 16)) mNil)) (gmName 5))
  (mSeq (mIf (mTest (mOp fLt (mVar 5) (mC (.int 2)))) (mRet (mTup (mCons (mTup (mCons (mOp fIx (mFz (mLst (mCons (mC (.int 1)) (mCons (mC (.int 13)) mNil)))) (mVar 5)) (mCons (mFz (mLst (mCons (mTup (mCons (mTup mNil) (mCons (mC (.str [])) mNil))) mNil))) mNil))) (mCons (mC (.int 0)) (mCons (mC (.str [98, 97, 115, 101])) mNil))))) mSkip)
  (mSeq (mIf (mTest (mOp fLt (mVar 5) (mC (.int 4)))) (mRet (mTup (mCons (mTup (mCons (mVar 6) (mCons (mOp fIx (mFz (mLst (mCons (mFz (mLst mNil)) (mCons (mOp fRep (mFz (mLst (mCons (mTup (mCons (mTup mNil) (mCons (mC (.str [])) mNil))) mNil))) (mC (.int 4))) mNil)))) (mOp fSub (mVar 5) (mC (.int 2)))) mNil))) (mCons (mC (.int 0)) (mCons (mC (.str [115, 117, 109, 115])) mNil))))) mSkip)
  (mSeq (mIf (mTest (mOp fEq (mVar 5) (mC (.int 4)))) (mRet (mTup (mCons (mTup (mCons (mC (.int 2)) (mCons (mFz (mLst (mCons (mTup (mCons (mTup (mCons (mC (.str [97])) mNil)) (mCons (mC (.str [98])) mNil))) (mCons (mTup (mCons (mTup (mCons (mC (.str [99])) mNil)) (mCons (mC (.str [97])) mNil))) mNil)))) mNil))) (mCons (mC (.int 1)) (mCons (mC (.str [108, 101, 116, 116, 101, 114, 115])) mNil))))) mSkip)
  (mSeq (mIf (mTest (mOp fEq (mCallI 0 2 law_next (mCons (mC (.int 2)) mNil)) (mC (.int 1)))) (mRet (mTup (mCons (mTup (mCons (mVar 6) (mCons (mOp fAdd (mFz (mLst (mCons (mOp fIx (mVar 3) (mOp fSub (mVar 5) (mC (.int 5)))) mNil))) (mFz (mLst (mCons (mTup (mCons (mTup mNil) (mCons (mC (.str [])) mNil))) mNil)))) mNil))) (mCons (mC (.int 0)) (mCons (mOp fIx (mVar 4) (mOp fSub (mVar 5) (mC (.int 5)))) mNil))))) mSkip)
  (mRet (mTup (mCons (mTup (mCons (mVar 6) (mCons (mOp fAdd (mVar 2) (mFz (mLst (mCons (mOp fIx (mVar 3) (mOp fSub (mVar 5) (mC (.int 5)))) mNil)))) mNil))) (mCons (mCall fLen (mCons (mVar 2) mNil)) (mCons (mOp fIx (mVar 4) (mOp fSub (mVar 5) (mC (.int 5)))) mNil)))))))))))))))
def is_word : Sl → R D := fnB [.frz] false 1
  (mSeq (mIf (mOr (mTest (mOp fEq (mVar 0) (mC (.str [])))) (mTest (mOp fGt (mCall fLen (mCons (mVar 0) mNil)) (mC (.int 6))))) (mRet (mC (.bl false))) mSkip)
  (mSeq (mFor (mItems (mVar 0)) (gmName 1) (mIf (mTest (mOp fNotIn (mVar 1) (mC (.str [97, 98, 99, 100, 101, 102, 103, 104, 105, 106, 107, 108, 109, 110, 111, 112, 113, 114, 115, 116, 117, 118, 119, 120, 121, 122])))) (mRet (mC (.bl false))) mSkip))
  (mRet (mC (.bl true)))))
def Sheet_columns : Sl → R D := fnB [.frz, .frz] false 3
  (mSeq (mAsg (mOp fIx (mFld 0 1 (mVar 0)) (mVar 1)) (gmTup 2 (gmCons (gmName 2) (gmCons (gmName 3) gmNil))))
  (mRet (mCall fMax (mCons (mFz (mLc (mItems (mOp fAdd (mVar 2) (mTup (mCons (mVar 3) mNil)))) [4] (gmName 4) mYes (mCall fLen (mCons (mVar 4) mNil)))) mNil))))
def letter_at : Sl → R D := fnB [.frz, .frz] false 0
  (mSeq (mIf (mTest (mOp fGe (mVar 1) (mCall fLen (mCons (mVar 0) mNil)))) (mRet (mC (.str []))) mSkip)
  (mRet (mOp fIx (mVar 0) (mOp fSub (mOp fSub (mCall fLen (mCons (mVar 0) mNil)) (mC (.int 1))) (mVar 1)))))
def Sheet_column : Sl → R D := fnB [.frz, .frz, .frz] false 5
  (mSeq (mAsg (mOp fIx (mFld 0 1 (mVar 0)) (mVar 1)) (gmTup 2 (gmCons (gmName 4) (gmCons (gmName 5) gmNil))))
  (mSeq (mAsg (mFz (mLc (mItems (mVar 4)) [6] (gmName 6) mYes (mCallF 2 letter_at (mCons (mVar 6) (mCons (mVar 2) mNil))))) (gmName 3))
  (mRet (mTup (mCons (mFz (mLc (mItems (mVar 3)) [7] (gmName 7) (mTest (mOp fNe (mVar 7) (mC (.str [])))) (mVar 7))) (mCons (mCallF 2 letter_at (mCons (mVar 5) (mCons (mVar 2) mNil))) mNil))))))
def Sheet_letters_to : Sl → R D := fnB [.frz, .frz] true 6
  (mSeq (mSetO (mLst mNil) 2)
  (mSeq (mFor (mRng1 (mCons (mOp fAdd (mVar 1) (mC (.int 1))) mNil)) (gmName 3) (mFor (mRng1 (mCons (mMethF 0 2 Sheet_columns (mVar 0) (mCons (mVar 3) mNil)) mNil)) (gmName 4) (mSeq (mAsg (mMethF 0 3 Sheet_column (mVar 0) (mCons (mVar 3) (mCons (mVar 4) mNil))) (gmTup 2 (gmCons (gmName 6) (gmCons (gmName 7) gmNil))))
  (mFor (mItems (mOp fAdd (mVar 6) (mFz (mLst (mCons (mVar 7) mNil))))) (gmName 5) (mIf (mAnd (mTest (mOp fNe (mVar 5) (mC (.str [])))) (mBorT [.frz, .frz, .own, .frz, .frz, .frz, .frz, .frz] 2 (mTest (mOp fNotIn (mVar 5) (mVar 2))))) (mApp (getV 2) (setV 2) (mVar 5)) mSkip)))))
  (mRetMove 2)))
def Sheet_init : Sl → R D := fnX [.pin, .frz, .frz] false 4
  (mSeq (mIf (mOr (mTest (mOp fLt (mVar 1) (mC (.int 2)))) (mTest (mOp fGt (mVar 1) (mC (.int 12))))) (mRaiseO 9 2 (mCons (mC (.int 0)) (mCons (mC (.str [98, 97, 115, 101])) mNil))) mSkip)
  (mSeq (mIf (mOr (mTest (mOp fLt (mCall fLen (mCons (mVar 2) mNil)) (mC (.int 1)))) (mTest (mOp fGt (mCall fLen (mCons (mVar 2) mNil)) (mC (.int 3))))) (mRaiseO 9 2 (mCons (mC (.int 0)) (mCons (mC (.str [115, 117, 109, 115])) mNil))) mSkip)
  (mSeq (mSetFld 0 0 0 (mVar 1))
  (mSeq (mSetFld 0 0 1 (mFz (mCall fList (mCons (mVar 2) mNil))))
  (mFor (mRng1 (mCons (mCall fLen (mCons (mVar 2) mNil)) mNil)) (gmName 3) (mSeq (mAsg (mOp fIx (mVar 2) (mVar 3)) (gmTup 2 (gmCons (gmName 5) (gmCons (gmName 6) gmNil))))
  (mSeq (mIf (mOr (mTest (mOp fLt (mCall fLen (mCons (mVar 5) mNil)) (mC (.int 1)))) (mTest (mOp fGt (mCall fLen (mCons (mVar 5) mNil)) (mC (.int 4))))) (mRaiseO 9 2 (mCons (mVar 3) (mCons (mC (.str [97, 100, 100, 101, 110, 100, 115])) mNil))) mSkip)
  (mSeq (mFor (mItems (mOp fAdd (mVar 5) (mTup (mCons (mVar 6) mNil)))) (gmName 4) (mIf (mNot (mTest (mCallF 1 is_word (mCons (mVar 4) mNil)))) (mRaiseO 9 2 (mCons (mVar 3) (mCons (mC (.str [119, 111, 114, 100])) mNil))) mSkip))
  (mIf (mTest (mOp fGt (mBor [.pin, .frz, .frz, .frz, .frz, .frz, .frz] 0 (mCall fLen (mCons (mFz (mMethF 0 2 Sheet_letters_to (mVar 0) (mCons (mVar 3) mNil))) mNil))) (mCall fMin (mCons (mVar 1) (mCons (mC (.int 8)) mNil))))) (mRaiseO 9 2 (mCons (mVar 3) (mCons (mC (.str [108, 101, 116, 116, 101, 114, 115])) mNil))) mSkip)))))))))
def law_is : Sl → R D := fnB [.frz, .frz] false 3
  (mSeq (mSetO (mLst (mCons (mIsX [(9, true)] (mVar 0)) (mCons (mIsX [(9, false)] (mVar 0)) (mCons (mIsX [(9, false)] (mVar 0)) (mCons (mIsX [(9, false)] (mVar 0)) mNil))))) 2)
  (mSeq (mApp (getV 2) (setV 2) (mIsX [(9, false)] (mVar 0)))
  (mSeq (mAsg (mFz (mLst (mCons (mC (.str [115, 104, 101, 101, 116])) (mCons (mC (.str [110, 111, 110, 101])) (mCons (mC (.str [109, 97, 110, 121])) (mCons (mC (.str [110, 111, 116])) (mCons (mC (.str [116, 101, 120, 116])) mNil))))))) (gmName 3))
  (mRet (mAndV (mIsX [(9, true)] (mVar 0)) (mBor [.frz, .frz, .own, .frz, .frz] 2 (mOp fEq (mVar 2) (mFz (mLc (mItemsL (mVar 3)) [4] (gmName 4) mYes (mOp fEq (mVar 1) (mVar 4)))))))))))
def law_whole : Sl → R D := fnB [.frz] false 0
  (mRet (mAndV (mIsi .int (mVar 0)) (mNotV (mIsi .bool (mVar 0)))))
def law_refused : Sl → R D := fnB [.frz, .frz, .frz] false 1
  (mSeq (mTryAs 3 [9]
  (mDrop (mFzI 0 (mMakeX 0 3 Sheet_init (mCons (mOp fIx (mVar 0) (mC (.int 0))) (mCons (mOp fIx (mVar 0) (mC (.int 1))) mNil)))))
  (mRet (mAndV (mCallF 2 law_is (mCons (mVar 3) (mCons (mC (.str [115, 104, 101, 101, 116])) mNil))) (mAndV (mCallF 1 law_whole (mCons (mXf 9 1 (mVar 3)) mNil)) (mAndV (mOp fEq (mXf 9 1 (mVar 3)) (mVar 1)) (mAndV (mIsi .str (mXf 9 0 (mVar 3))) (mOp fEq (mXf 9 0 (mVar 3)) (mVar 2))))))))
  (mRet (mC (.bl false))))
def Sheet_initL : Sl → R D := fnX [.pin, .frz, .pin] false 4
  (mSeq (mIf (mOr (mTest (mOp fLt (mVar 1) (mC (.int 2)))) (mTest (mOp fGt (mVar 1) (mC (.int 12))))) (mRaiseO 9 2 (mCons (mC (.int 0)) (mCons (mC (.str [98, 97, 115, 101])) mNil))) mSkip)
  (mSeq (mIf (mOr (mTest (mOp fLt (mBor [.pin, .frz, .pin, .frz, .frz, .frz, .frz] 2 (mCall fLen (mCons (mVar 2) mNil))) (mC (.int 1)))) (mTest (mOp fGt (mBor [.pin, .frz, .pin, .frz, .frz, .frz, .frz] 2 (mCall fLen (mCons (mVar 2) mNil))) (mC (.int 3))))) (mRaiseO 9 2 (mCons (mC (.int 0)) (mCons (mC (.str [115, 117, 109, 115])) mNil))) mSkip)
  (mSeq (mSetFld 0 0 0 (mVar 1))
  (mSeq (mSetFld 0 0 1 (mFz (mListO 2)))
  (mFor (mRng1 (mCons (mBor [.pin, .frz, .pin, .frz, .frz, .frz, .frz] 2 (mCall fLen (mCons (mVar 2) mNil))) mNil)) (gmName 3) (mSeq (mAsg (mIxO 2 (mVar 3)) (gmTup 2 (gmCons (gmName 5) (gmCons (gmName 6) gmNil))))
  (mSeq (mIf (mOr (mTest (mOp fLt (mCall fLen (mCons (mVar 5) mNil)) (mC (.int 1)))) (mTest (mOp fGt (mCall fLen (mCons (mVar 5) mNil)) (mC (.int 4))))) (mRaiseO 9 2 (mCons (mVar 3) (mCons (mC (.str [97, 100, 100, 101, 110, 100, 115])) mNil))) mSkip)
  (mSeq (mFor (mItems (mOp fAdd (mVar 5) (mTup (mCons (mVar 6) mNil)))) (gmName 4) (mIf (mNot (mTest (mCallF 1 is_word (mCons (mVar 4) mNil)))) (mRaiseO 9 2 (mCons (mVar 3) (mCons (mC (.str [119, 111, 114, 100])) mNil))) mSkip))
  (mIf (mTest (mOp fGt (mBor [.pin, .frz, .pin, .frz, .frz, .frz, .frz] 0 (mCall fLen (mCons (mFz (mMethF 0 2 Sheet_letters_to (mVar 0) (mCons (mVar 3) mNil))) mNil))) (mCall fMin (mCons (mVar 1) (mCons (mC (.int 8)) mNil))))) (mRaiseO 9 2 (mCons (mVar 3) (mCons (mC (.str [108, 101, 116, 116, 101, 114, 115])) mNil))) mSkip)))))))))
def Sheet_sums : Sl → R D := fnB [.frz] true 0
  (mRet (mCall fList (mCons (mFld 0 1 (mVar 0)) mNil)))
def b_law_like (r_law_like : Sl → R D) : Sl → R D := fnB [.frz, .frz] false 1
  (mSeq (mIf (mTest (mIsi .str (mVar 1))) (mRet (mAndV (mIsi .str (mVar 0)) (mOp fEq (mVar 0) (mVar 1)))) mSkip)
  (mSeq (mIf (mTest (mIsi .int (mVar 1))) (mRet (mAndV (mIsi .int (mVar 0)) (mAndV (mNotV (mIsi .bool (mVar 0))) (mOp fEq (mVar 0) (mVar 1))))) mSkip)
  (mSeq (mIf (mTest (mOp fIs (mVar 1) (mC .non))) (mRet (mOp fIs (mVar 0) (mC .non))) mSkip)
  (mSeq (mIf (mOr (mTest (mOp fNe (mIsi .tup (mVar 1)) (mIsi .tup (mVar 0)))) (mTest (mOp fNe (mIsi .lst (mVar 1)) (mIsi .lst (mVar 0))))) (mRet (mC (.bl false))) mSkip)
  (mSeq (mIf (mTest (mOp fNe (mCall fLen (mCons (mVar 0) mNil)) (mCall fLen (mCons (mVar 1) mNil)))) (mRet (mC (.bl false))) mSkip)
  (mSeq (mFor (mRng1 (mCons (mCall fLen (mCons (mVar 1) mNil)) mNil)) (gmName 2) (mIf (mNot (mTest (mCallF 2 r_law_like (mCons (mOp fIx (mVar 0) (mVar 2)) (mCons (mOp fIx (mVar 1) (mVar 2)) mNil))))) (mRet (mC (.bl false))) mSkip))
  (mRet (mC (.bl true)))))))))
def g_law_like : Nat → (Sl → R D)
  | 0 => (fun _ => .err)
  | n + 1 => b_law_like (g_law_like n)
def law : Sl → R D := fnB [.frz] false 10
  (mSeq (mSetO (mCallF 1 law_dice (mCons (mVar 0) mNil)) 1)
  (mSeq (mAsg (mCallI 1 1 law_sheet mNil) (gmTup 2 (gmCons (gmName 5) (gmCons (gmName 6) gmNil))))
  (mSeq (mIf (mTest (mOp fEq (mCallI 1 2 law_next (mCons (mC (.int 2)) mNil)) (mC (.int 1)))) (mSeq (mAsg (mCallI 1 2 law_wrong (mCons (mTup (mCons (mVar 5) (mCons (mVar 6) mNil))) mNil)) (gmTup 3 (gmCons (gmName 8) (gmCons (gmName 9) (gmCons (gmName 10) gmNil)))))
  (mRet (mCallF 3 law_refused (mCons (mVar 8) (mCons (mVar 9) (mCons (mVar 10) mNil)))))) mSkip)
  (mSeq (mSetO (mCall fList (mCons (mVar 6) mNil)) 2)
  (mSeq (mAsg (mFzI 0 (mMakeXL 2 0 3 Sheet_initL (mCons (mVar 5) mNil))) (gmName 3))
  (mSeq (mFor (mRng1 (mCons (mC (.int 2)) mNil)) (gmName 4) (mSeq (mSetO (mMethF 0 1 Sheet_sums (mVar 3) mNil) 7)
  (mSeq (mIf (mOr (mNot (mTest (mBor [.frz, .own, .own, .frz, .frz, .frz, .frz, .own, .frz, .frz, .frz] 7 (mCallF 2 (g_law_like 64) (mCons (mVar 7) (mCons (mVar 6) mNil)))))) (mNot (mTest (mCallF 2 (g_law_like 64) (mCons (mFld 0 0 (mVar 3)) (mCons (mVar 5) mNil)))))) (mRet (mC (.bl false))) mSkip)
  (mSeq (mClear (getV 7) (setV 7))
  (mClear (getV 2) (setV 2))))))
  (mRet (mC (.bl true)))))))))
end EV

set_option Elab.async false
set_option linter.all false
set_option maxRecDepth 100000
set_option maxHeartbeats 4000000
/-! the walk of k01, printed by gen.py -/
namespace Wk01
open PySem PySem.Spec PyProof.Rows L2 MM EV
def top (i : Nat) : Stmt := PySem.Challenge.pw_wordsums_k01_sheets_refused.main.body.getD i (.Pass ⟨0, 0, 0, 0⟩)
def inC (i j : Nat) : Stmt := (match top i with | .ClassDef _ _ _ b _ _ _ _ _ _ _ => b | _ => []).getD j (.Pass ⟨0, 0, 0, 0⟩)
abbrev s_BadSheet_init : Stmt := inC 3 0
abbrev N_BadSheet_init : List Str := ["self", "at", "why"]
def D_BadSheet_init : He.DefD := ⟨("BadSheet", some "__init__"), "__init__", "BadSheet.__init__", defArgs s_BadSheet_init, defBody s_BadSheet_init, defScope s_BadSheet_init, [], []⟩
abbrev s_law_dice : Stmt := top 19
abbrev N_law_dice : List Str := ["_law_script", "_law_mixed", "_law_cell"]
def D_law_dice : He.DefD := ⟨("_law_dice", none), "_law_dice", "_law_dice", defArgs s_law_dice, defBody s_law_dice, defScope s_law_dice, [], []⟩
abbrev s_law_next : Stmt := top 20
abbrev N_law_next : List Str := ["_law_dice_here", "_law_many", "_law_found", "_law_cell"]
def D_law_next : He.DefD := ⟨("_law_next", none), "_law_next", "_law_next", defArgs s_law_next, defBody s_law_next, defScope s_law_next, [], []⟩
abbrev s_law_names : Stmt := top 24
abbrev N_law_names : List Str := ["_law_d", "_law_base", "_law_turn", "_law_step", "_law_k"]
def D_law_names : He.DefD := ⟨("_law_names", none), "_law_names", "_law_names", defArgs s_law_names, defBody s_law_names, defScope s_law_names, [], []⟩
abbrev s_law_word : Stmt := top 23
abbrev N_law_word : List Str := ["_law_number", "_law_base", "_law_names_here", "_law_word_here"]
def D_law_word : He.DefD := ⟨("_law_word", none), "_law_word", "_law_word", defArgs s_law_word, defBody s_law_word, defScope s_law_word, [], []⟩
abbrev s_law_sum : Stmt := top 25
abbrev N_law_sum : List Str := ["_law_d", "_law_base", "_law_names_here", "_law_limit", "_law_many", "_law_numbers", "_law_words", "_law_k", "_law_size", "_law_number", "_law_j"]
def D_law_sum : He.DefD := ⟨("_law_sum", none), "_law_sum", "_law_sum", defArgs s_law_sum, defBody s_law_sum, defScope s_law_sum, [], []⟩
abbrev s_law_sheet : Stmt := top 26
abbrev N_law_sheet : List Str := ["_law_d", "_law_base", "_law_names_here", "_law_sums", "_law_k"]
def D_law_sheet : He.DefD := ⟨("_law_sheet", none), "_law_sheet", "_law_sheet", defArgs s_law_sheet, defBody s_law_sheet, defScope s_law_sheet, [], []⟩
abbrev s_law_wrong : Stmt := top 29
abbrev N_law_wrong : List Str := ["_law_d", "_law_sheet_here", "_law_ahead", "_law_bads", "_law_words", "_law_way", "_law_base", "_law_sums"]
def D_law_wrong : He.DefD := ⟨("_law_wrong", none), "_law_wrong", "_law_wrong", defArgs s_law_wrong, defBody s_law_wrong, defScope s_law_wrong, [], []⟩
abbrev s_is_word : Stmt := top 15
abbrev N_is_word : List Str := ["word", "letter"]
def D_is_word : He.DefD := ⟨("is_word", none), "is_word", "is_word", defArgs s_is_word, defBody s_is_word, defScope s_is_word, [], []⟩
abbrev s_Sheet_columns : Stmt := inC 16 2
abbrev N_Sheet_columns : List Str := ["self", "at", "addends", "total", "word"]
def D_Sheet_columns : He.DefD := ⟨("Sheet", some "columns"), "columns", "Sheet.columns", defArgs s_Sheet_columns, defBody s_Sheet_columns, defScope s_Sheet_columns, [], []⟩
abbrev s_letter_at : Stmt := top 17
abbrev N_letter_at : List Str := ["word", "place"]
def D_letter_at : He.DefD := ⟨("letter_at", none), "letter_at", "letter_at", defArgs s_letter_at, defBody s_letter_at, defScope s_letter_at, [], []⟩
abbrev s_Sheet_column : Stmt := inC 16 3
abbrev N_Sheet_column : List Str := ["self", "at", "place", "letters", "addends", "total", "word", "letter"]
def D_Sheet_column : He.DefD := ⟨("Sheet", some "column"), "column", "Sheet.column", defArgs s_Sheet_column, defBody s_Sheet_column, defScope s_Sheet_column, [], []⟩
abbrev s_Sheet_letters_to : Stmt := inC 16 4
abbrev N_Sheet_letters_to : List Str := ["self", "last", "found", "at", "place", "letter", "above", "below"]
def D_Sheet_letters_to : He.DefD := ⟨("Sheet", some "letters_to"), "letters_to", "Sheet.letters_to", defArgs s_Sheet_letters_to, defBody s_Sheet_letters_to, defScope s_Sheet_letters_to, [], []⟩
abbrev s_Sheet_init : Stmt := inC 16 0
abbrev N_Sheet_init : List Str := ["self", "base", "sums", "at", "word", "addends", "total"]
def D_Sheet_init : He.DefD := ⟨("Sheet", some "__init__"), "__init__", "Sheet.__init__", defArgs s_Sheet_init, defBody s_Sheet_init, defScope s_Sheet_init, [], []⟩
abbrev s_law_is : Stmt := top 28
abbrev N_law_is : List Str := ["_law_e", "_law_word_here", "_law_kinds", "_law_words", "_law_one"]
def D_law_is : He.DefD := ⟨("_law_is", none), "_law_is", "_law_is", defArgs s_law_is, defBody s_law_is, defScope s_law_is, [], []⟩
abbrev s_law_whole : Stmt := top 21
abbrev N_law_whole : List Str := ["_law_found"]
def D_law_whole : He.DefD := ⟨("_law_whole", none), "_law_whole", "_law_whole", defArgs s_law_whole, defBody s_law_whole, defScope s_law_whole, [], []⟩
abbrev s_law_refused : Stmt := top 30
abbrev N_law_refused : List Str := ["_law_sheet_here", "_law_at", "_law_why", "_law_e"]
def D_law_refused : He.DefD := ⟨("_law_refused", none), "_law_refused", "_law_refused", defArgs s_law_refused, defBody s_law_refused, defScope s_law_refused, [], []⟩
abbrev s_Sheet_initL : Stmt := inC 16 0
abbrev N_Sheet_initL : List Str := ["self", "base", "sums", "at", "word", "addends", "total"]
abbrev s_Sheet_sums : Stmt := inC 16 1
abbrev N_Sheet_sums : List Str := ["self"]
def D_Sheet_sums : He.DefD := ⟨("Sheet", some "sums"), "sums", "Sheet.sums", defArgs s_Sheet_sums, defBody s_Sheet_sums, defScope s_Sheet_sums, [], []⟩
abbrev s_law_like : Stmt := top 22
abbrev N_law_like : List Str := ["_law_found", "_law_due", "_law_k"]
def D_law_like : He.DefD := ⟨("_law_like", none), "_law_like", "_law_like", defArgs s_law_like, defBody s_law_like, defScope s_law_like, [], []⟩
abbrev s_law : Stmt := top 31
abbrev N_law : List Str := ["_law_script", "_law_d", "_law_handed", "_law_sheet_here", "_law_turn", "_law_base", "_law_sums", "_law_found", "_law_bad", "_law_at", "_law_why"]
def D_law : He.DefD := ⟨("law", none), "law", "law", defArgs s_law, defBody s_law, defScope s_law, [], []⟩
def fa : List He.Fa := [.free "len",
  .free "int",
  .free "range",
  .glo "_law_next",
  .glo "_law_word",
  .free "tuple",
  .free "sum",
  .glo "_law_sum",
  .glo "_law_names",
  .str "SMALL" "abcdefghijklmnopqrstuvwxyz",
  .int "MOST_LONG" 6,
  .free "max",
  .cls "Sheet",
  .noat "Sheet" "rows",
  .glo "letter_at",
  .meth "Sheet" "columns",
  .meth "Sheet" "column",
  .meth "Sheet" "letters_to",
  .int "MOST_LETTERS" 8,
  .free "min",
  .glo "BadSheet",
  .meth "BadSheet" "__init__",
  .glo "is_word",
  .int "MOST_ADDENDS" 4,
  .free "list",
  .noat "Sheet" "base",
  .int "MOST_SUMS" 3,
  .int "MOST_BASE" 12,
  .free "ValueError",
  .free "isinstance",
  .glo "BadText",
  .glo "NoAnswer",
  .glo "ManyAnswers",
  .glo "NotOne",
  .free "bool",
  .mkr "Sheet",
  .glo "Sheet",
  .glo "_law_is",
  .noat "BadSheet" "at",
  .glo "_law_whole",
  .noat "BadSheet" "why",
  .free "str",
  .exm "BadSheet" "SumError" true,
  .glo "SumError",
  .glo "_law_like",
  .meth "Sheet" "sums",
  .glo "_law_refused",
  .glo "_law_wrong",
  .glo "_law_sheet",
  .glo "_law_dice",
  .glo "law"]
def fn : List He.DefD := [D_law_dice, D_law_next, D_law_names, D_law_word, D_law_sum, D_law_sheet, D_law_wrong, D_is_word, D_Sheet_columns, D_letter_at, D_Sheet_column, D_Sheet_letters_to, D_Sheet_init, D_law_is, D_law_whole, D_law_refused, D_Sheet_sums, D_law_like, D_law, D_BadSheet_init]
def fx : List Fx := [.oex "BadSheet", .kitT "BadSheet" "ValueError" true, .isi "BadSheet", .kitG "BadSheet" "BadText" false, .kitG "BadSheet" "BadSheet" true, .kitG "BadSheet" "NoAnswer" false, .kitG "BadSheet" "ManyAnswers" false, .kitG "BadSheet" "NotOne" false, .xf "BadSheet", .sei "SumError"]
def ci (K : PySem.W.Frag) : CI := ⟨K, fun i => match i with | 0 => He.ga K "Sheet" | 8 => He.ga K "NotOne" | 9 => He.ga K "BadSheet" | 10 => He.ga K "NoAnswer" | 11 => He.ga K "ManyAnswers" | 12 => He.ga K "BadText" | _ => 0, nmT, mdT, none, none⟩
section
variable {P : Program} {w : World} {K : PySem.W.Frag} {h : Heap} {mg : Str → Option Value} {base : Heap} {fd : FuncData}
theorem sc_BadSheet_init : FnScope N_BadSheet_init ["self", "at", "why"] (defScope s_BadSheet_init) := ⟨rfl, rfl, rfl, by decide +kernel, rfl, by decide +kernel, by decide +kernel⟩
theorem has_BadSheet_init (Z : Zc fa fn K h mg) (Y : Yc fx K) (F : FunD K "__init__" "BadSheet.__init__" (defArgs s_BadSheet_init) (defBody s_BadSheet_init) (defScope s_BadSheet_init) [] [] (He.ma K (He.ga K "BadSheet") "__init__") fd) : HasE P w K mg base (He.ma K (He.ga K "BadSheet") "__init__") 1 ["self", "at", "why"] (spE2 (He.ga K "BadSheet") "at" "why") fd := by
  have sc := sc_BadSheet_init
  exact ⟨fn_e2 0 F sc rfl (Y.oex 0) (Z.noat 38) (Z.noat 40) (fun _ _ _ _ _ _ => (pss_cons (ps_expr (L2N.pe_seinit rfl (Z.glo 43) (Y.sei 9).r (Y.sei 9).v (pa_cons (pe_var (i := 0) rfl (Or.inl rfl)) (pa_cons (pe_var (i := 2) rfl (Or.inl rfl)) pa_nil)))) (pss_cons (ps_ost (pe_var (i := 0) rfl (Or.inl rfl)) (pe_var (i := 1) rfl (Or.inl rfl))) (pss_one (ps_ost (pe_var (i := 0) rfl (Or.inl rfl)) (pe_var (i := 2) rfl (Or.inl rfl))))))), F.bindsN (fun _ _ _ _ _ _ us hl => match us, hl with | [_, _, _], _ => rfl), F.kp⟩
theorem sch_law_is : FnScope N_law_is ["_law_e", "_law_word_here"] (defScope s_law_is) := ⟨rfl, rfl, rfl, by decide +kernel, rfl, by decide +kernel, by decide +kernel⟩
theorem hot_law_is (Z : Zc fa fn K h mg) (Y : Yc fx K) (F : FunD K "_law_is" "_law_is" (defArgs s_law_is) (defBody s_law_is) (defScope s_law_is) [] [] (He.ga K "_law_is") fd) : HasP P w K mg base (ci K) (He.ga K "_law_is") (2) ["_law_e", "_law_word_here"] [.frz, .frz] false EV.law_is fd := by
  have sc := sch_law_is
  refine hasP (c := ci K) (μ := [.frz, .frz, .own, .frz, .frz]) (N := N_law_is) F sc rfl (by decide) rfl (fun _ _ _ _ _ _ us hl => match us, hl with | [_, _], _ => rfl) ?_
  intro cdv A outer s H E p kx dx hot hz hr
  exact ⟨_, (xss_cons (xs_setO 2 sc.nd (xn_lst (xa_cons (xe_isX (bears_of List.mem_cons_self hot hz) K [(9, true)] (Z.free 29) (Z.glo 20) (isx_c (Y.isi 2) (Y.kitG 4) isx_n) (xe_var 0)) (xa_cons (xe_isX (bears_of List.mem_cons_self hot hz) K [(9, false)] (Z.free 29) (Z.glo 31) (isx_c (Y.isi 2) (Y.kitG 5) isx_n) (xe_var 0)) (xa_cons (xe_isX (bears_of List.mem_cons_self hot hz) K [(9, false)] (Z.free 29) (Z.glo 32) (isx_c (Y.isi 2) (Y.kitG 6) isx_n) (xe_var 0)) (xa_cons (xe_isX (bears_of List.mem_cons_self hot hz) K [(9, false)] (Z.free 29) (Z.glo 33) (isx_c (Y.isi 2) (Y.kitG 7) isx_n) (xe_var 0)) xa_nil))))))
  (xss_cons (xs_app (xp_var 2) (xe_isX (bears_of List.mem_cons_self hot hz) K [(9, false)] (Z.free 29) (Z.glo 30) (isx_c (Y.isi 2) (Y.kitG 3) isx_n) (xe_var 0)))
  (xss_cons (xs_set 3 sc.nd (xe_fz (xn_lst (xa_cons (xe_str (l := [115, 104, 101, 101, 116]) (by decide +kernel) (by decide)) (xa_cons (xe_str (l := [110, 111, 110, 101]) (by decide +kernel) (by decide)) (xa_cons (xe_str (l := [109, 97, 110, 121]) (by decide +kernel) (by decide)) (xa_cons (xe_str (l := [110, 111, 116]) (by decide +kernel) (by decide)) (xa_cons (xe_str (l := [116, 101, 120, 116]) (by decide +kernel) (by decide)) xa_nil))))))))
  (xss_one (xs_ret (xe_and (xe_isXT (bears_of List.mem_cons_self hot hz) K [(9, true)] (Z.free 29) (Z.free 28) (isx_c (Y.isi 2) (Y.kitT 1) isx_n) (xe_var 0)) (xe_one (xe_bor 2 (xe_cmpK (K0 := K) rEqU (op_eqU hr.units) rv_eq (xe_var 2) (xe_fz (xn_lcH [("_law_one", 4)] K ⟨_, hot, List.mem_cons_self⟩ sc.nd (xe_var 3) (blkOk_by (N := N_law_is) (sc := (defScope s_law_is)) (by decide +kernel)) (fun _ _ _ _ _ => (xg_name 4 sc.nd)) (fun _ _ _ _ _ => xts_nil) (fun _ _ _ _ _ => (xe_cmpK (K0 := K) rEqU (op_eqU hr.units) rv_eq (xe_var 1) (xe_var 4) (nomark _))))) (nomark _))))))))))⟩
theorem sch_law_whole : FnScope N_law_whole ["_law_found"] (defScope s_law_whole) := ⟨rfl, rfl, rfl, by decide +kernel, rfl, by decide +kernel, by decide +kernel⟩
theorem hot_law_whole (Z : Zc fa fn K h mg) (Y : Yc fx K) (F : FunD K "_law_whole" "_law_whole" (defArgs s_law_whole) (defBody s_law_whole) (defScope s_law_whole) [] [] (He.ga K "_law_whole") fd) : HasP P w K mg base (ci K) (He.ga K "_law_whole") (2) ["_law_found"] [.frz] false EV.law_whole fd := by
  have sc := sch_law_whole
  refine hasP (c := ci K) (μ := [.frz]) (N := N_law_whole) F sc rfl (by decide) rfl (fun _ _ _ _ _ _ us hl => match us, hl with | [_], _ => rfl) ?_
  intro cdv A outer s H E p kx dx hot hz hr
  exact ⟨_, (xss_one (xs_ret (xe_and (xe_isiK (K0 := K) .int (Z.free 29) (Z.free 1) (xe_var 0)) (xe_one (xe_not (xe_isiK (K0 := K) .bool (Z.free 29) (Z.free 34) (xe_var 0)))))))⟩
theorem sc_law_dice : FnScope N_law_dice ["_law_script"] (defScope s_law_dice) := ⟨rfl, rfl, rfl, by decide +kernel, rfl, by decide +kernel, by decide +kernel⟩
theorem has_law_dice (Z : Zc fa fn K h mg) (Y : Yc fx K) (F : FunD K "_law_dice" "_law_dice" (defArgs s_law_dice) (defBody s_law_dice) (defScope s_law_dice) [] [] (He.ga K "_law_dice") fd) : Has P w K mg base (ci K) (He.ga K "_law_dice") (2) ["_law_script"] [.frz] true EV.law_dice fd := by
  have sc := sc_law_dice
  refine hasD (μ := [.frz, .frz, .frz]) (N := N_law_dice) F sc rfl (by decide) rfl (fun _ _ _ _ _ _ us hl => match us, hl with | [_], _ => rfl) ?_
  intro cdv A outer s H E hr
  exact ⟨_, (xss_cons (xs_set 1 sc.nd xe_int)
  (xss_cons (xs_for PassesOwn.never rfl (xi_seqK (K0 := K) (xe_var 0)) (xg_name 2 sc.nd) (xss_one (xs_set 1 sc.nd (xe_op op_mod rv_mod (xe_opK (K0 := K) rAddU op_addU rv_add (xe_opK (K0 := K) rAddU op_addU rv_add (xe_op op_mul rv_mul (xe_var 1) xe_int) (xe_op op_mul rv_mul (xe_op op_mod rv_mod (xe_var 2) xe_int) xe_int)) xe_int) xe_int))))
  (xss_one (xs_retO (xn_lst (xa_cons (xe_var 0) (xa_cons xe_int (xa_cons (xe_op op_mul rv_mul (xe_var 1) (xe_callTy call_int1 rv_intc (Z.free 1) (xa_cons (xe_cmp op_gt rv_gt (xe_callBK (K0 := K) MM.rLen call_lenU (rv_len rfl) (Z.free 0) (xa_cons (xe_var 0) xa_nil)) xe_int (nomark _)) xa_nil))) (xa_cons xe_int xa_nil)))))))))⟩
theorem sc_law_next : FnScope N_law_next ["_law_dice_here", "_law_many"] (defScope s_law_next) := ⟨rfl, rfl, rfl, by decide +kernel, rfl, by decide +kernel, by decide +kernel⟩
theorem has_law_next (Z : Zc fa fn K h mg) (Y : Yc fx K) (F : FunD K "_law_next" "_law_next" (defArgs s_law_next) (defBody s_law_next) (defScope s_law_next) [] [] (He.ga K "_law_next") fd) : Has P w K mg base (ci K) (He.ga K "_law_next") (2) ["_law_dice_here", "_law_many"] [.pin, .frz] false EV.law_next fd := by
  have sc := sc_law_next
  refine hasD (μ := [.pin, .frz, .frz, .frz]) (N := N_law_next) F sc rfl (by decide) rfl (fun _ _ _ _ _ _ us hl => match us, hl with | [_, _], _ => rfl) ?_
  intro cdv A outer s H E hr
  exact ⟨_, (xss_cons (xs_if (xt_cmp op_gt rv_gt (xe_bor 0 (xe_ixK (K0 := K) (hu_of hr) (xe_var 0) xe_int)) xe_int (nomark _)) (xss_cons (xs_set 2 sc.nd (xe_op op_mod rv_mod (xe_bor 0 (xe_ixK (K0 := K) (hu_of hr) (xe_var 0) xe_int)) (xe_var 1)))
  (xss_cons (xs_setL (xp_var 0) xe_int (xe_op op_fdiv rv_div (xe_bor 0 (xe_ixK (K0 := K) (hu_of hr) (xe_var 0) xe_int)) (xe_var 1)))
  (xss_one (xs_ret (xe_var 2))))) xss_nil)
  (xss_cons (xs_setL (xp_var 0) xe_int (xe_opK (K0 := K) rAddU op_addU rv_add (xe_bor 0 (xe_ixK (K0 := K) (hu_of hr) (xe_var 0) xe_int)) xe_int))
  (xss_cons (xs_if (xt_cmp op_le rv_le (xe_bor 0 (xe_ixK (K0 := K) (hu_of hr) (xe_var 0) xe_int)) (xe_bor 0 (xe_callBK (K0 := K) MM.rLen call_lenU (rv_len rfl) (Z.free 0) (xa_cons (xe_ixK (K0 := K) (hu_of hr) (xe_var 0) xe_int) xa_nil))) (nomark _)) (xss_cons (xs_set 3 sc.nd (xe_bor 0 (xe_ixK (K0 := K) (hu_of hr) (xe_ixK (K0 := K) (hu_of hr) (xe_var 0) xe_int) (xe_op op_sub rv_sub (xe_ixK (K0 := K) (hu_of hr) (xe_var 0) xe_int) xe_int))))
  (xss_cons (xs_setL (xp_var 0) xe_int (xe_ifE (xt_cmp op_ge rv_ge (xe_var 3) (xe_op op_pow rv_pow xe_int xe_int) (nomark _)) (xe_op op_fdiv rv_div (xe_var 3) (xe_var 1)) xe_int))
  (xss_one (xs_ret (xe_op op_mod rv_mod (xe_var 3) (xe_var 1)))))) xss_nil)
  (xss_cons (xs_setL (xp_var 0) xe_int (xe_op op_mod rv_mod (xe_op op_mul rv_mul (xe_bor 0 (xe_ixK (K0 := K) (hu_of hr) (xe_var 0) xe_int)) xe_int) xe_int))
  (xss_one (xs_ret (xe_op op_mod rv_mod (xe_op op_fdiv rv_div (xe_bor 0 (xe_ixK (K0 := K) (hu_of hr) (xe_var 0) xe_int)) xe_int) (xe_var 1))))))))⟩
theorem sc_law_names : FnScope N_law_names ["_law_d", "_law_base"] (defScope s_law_names) := ⟨rfl, rfl, rfl, by decide +kernel, rfl, by decide +kernel, by decide +kernel⟩
theorem has_law_names (Z : Zc fa fn K h mg) (Y : Yc fx K) {f_d_law_next : FuncData} (d_law_next : Has P w K mg base (ci K) (He.ga K "_law_next") (2) ["_law_dice_here", "_law_many"] [.pin, .frz] false EV.law_next f_d_law_next) (F : FunD K "_law_names" "_law_names" (defArgs s_law_names) (defBody s_law_names) (defScope s_law_names) [] [] (He.ga K "_law_names") fd) : Has P w K mg base (ci K) (He.ga K "_law_names") (3) ["_law_d", "_law_base"] [.pin, .frz] false EV.law_names fd := by
  have sc := sc_law_names
  refine hasD (μ := [.pin, .frz, .frz, .frz, .frz]) (N := N_law_names) F sc rfl (by decide) rfl (fun _ _ _ _ _ _ us hl => match us, hl with | [_, _], _ => rfl) ?_
  intro cdv A outer s H E hr
  exact ⟨_, (xss_cons (xs_set 2 sc.nd (xe_callI (pm := [.pin, .frz]) 0 d_law_next.ok (hr.mono (by omega)) (Z.glo 3) d_law_next.kp d_law_next.bd (xa_cons xe_int xa_nil) pass0))
  (xss_cons (xs_set 3 sc.nd (xe_ixK (K0 := K) (hu_of hr) (xe_fz (xn_lst (xa_cons xe_int (xa_cons xe_int (xa_cons xe_int (xa_cons xe_int (xa_cons xe_int (xa_cons xe_int xa_nil)))))))) (xe_callI (pm := [.pin, .frz]) 0 d_law_next.ok (hr.mono (by omega)) (Z.glo 3) d_law_next.kp d_law_next.bd (xa_cons xe_int xa_nil) pass0)))
  (xss_one (xs_ret (xe_fz (xn_lc [("_law_k", 4)] rfl sc.nd (xi_rng1 (Z.free 2) (xa_cons (xe_var 1) xa_nil)) (blkOk_by (N := N_law_names) (sc := (defScope s_law_names)) (by decide +kernel)) (fun _ _ _ _ _ => (xg_name 4 sc.nd)) (fun _ _ _ _ _ => xts_nil) (fun _ _ _ _ _ => (xe_ixK (K0 := K) (hu_of hr) (xe_str (l := [97, 98, 99, 100, 101, 102, 103, 104, 105, 106, 107, 108, 109, 110, 111, 112, 113, 114, 115, 116, 117, 118, 119, 120, 121, 122]) (by decide +kernel) (by decide)) (xe_op op_mod rv_mod (xe_opK (K0 := K) rAddU op_addU rv_add (xe_var 2) (xe_op op_mul rv_mul (xe_var 3) (xe_var 4))) xe_int)))))))))⟩
theorem sc_law_word : FnScope N_law_word ["_law_number", "_law_base", "_law_names_here"] (defScope s_law_word) := ⟨rfl, rfl, rfl, by decide +kernel, rfl, by decide +kernel, by decide +kernel⟩
theorem has_law_word (Z : Zc fa fn K h mg) (Y : Yc fx K) (F : FunD K "_law_word" "_law_word" (defArgs s_law_word) (defBody s_law_word) (defScope s_law_word) [] [] (He.ga K "_law_word") fd) : Has P w K mg base (ci K) (He.ga K "_law_word") (2) ["_law_number", "_law_base", "_law_names_here"] [.frz, .frz, .frz] false EV.law_word fd := by
  have sc := sc_law_word
  refine hasD (μ := [.frz, .frz, .frz, .frz]) (N := N_law_word) F sc rfl (by decide) rfl (fun _ _ _ _ _ _ us hl => match us, hl with | [_, _, _], _ => rfl) ?_
  intro cdv A outer s H E hr
  exact ⟨_, (xss_cons (xs_set 3 sc.nd (xe_ixK (K0 := K) (hu_of hr) (xe_var 2) (xe_op op_mod rv_mod (xe_var 0) (xe_var 1))))
  (xss_cons (xs_while 64 PassesOwn.never (xt_cmp op_ge rv_ge (xe_var 0) (xe_var 1) (nomark _)) (xss_cons (xs_set 0 sc.nd (xe_op op_fdiv rv_div (xe_var 0) (xe_var 1)))
  (xss_one (xs_set 3 sc.nd (xe_opK (K0 := K) rAddU op_addU rv_add (xe_ixK (K0 := K) (hu_of hr) (xe_var 2) (xe_op op_mod rv_mod (xe_var 0) (xe_var 1))) (xe_var 3))))))
  (xss_one (xs_ret (xe_var 3)))))⟩
theorem sc_law_sum : FnScope N_law_sum ["_law_d", "_law_base", "_law_names_here"] (defScope s_law_sum) := ⟨rfl, rfl, rfl, by decide +kernel, rfl, by decide +kernel, by decide +kernel⟩
theorem has_law_sum (Z : Zc fa fn K h mg) (Y : Yc fx K) {f_d_law_word : FuncData} (d_law_word : Has P w K mg base (ci K) (He.ga K "_law_word") (2) ["_law_number", "_law_base", "_law_names_here"] [.frz, .frz, .frz] false EV.law_word f_d_law_word) {f_d_law_next : FuncData} (d_law_next : Has P w K mg base (ci K) (He.ga K "_law_next") (2) ["_law_dice_here", "_law_many"] [.pin, .frz] false EV.law_next f_d_law_next) (F : FunD K "_law_sum" "_law_sum" (defArgs s_law_sum) (defBody s_law_sum) (defScope s_law_sum) [] [] (He.ga K "_law_sum") fd) : Has P w K mg base (ci K) (He.ga K "_law_sum") (3) ["_law_d", "_law_base", "_law_names_here"] [.pin, .frz, .frz] false EV.law_sum fd := by
  have sc := sc_law_sum
  refine hasD (μ := [.pin, .frz, .frz, .frz, .frz, .frz, .own, .frz, .frz, .frz, .frz]) (N := N_law_sum) F sc rfl (by decide) rfl (fun _ _ _ _ _ _ us hl => match us, hl with | [_, _, _], _ => rfl) ?_
  intro cdv A outer s H E hr
  exact ⟨_, (xss_cons (xs_set 3 sc.nd (xe_op op_mul rv_mul (xe_op op_mul rv_mul (xe_var 1) (xe_var 1)) (xe_var 1)))
  (xss_cons (xs_if (xt_cmp op_lt rv_lt (xe_var 1) xe_int (nomark _)) (xss_one (xs_set 3 sc.nd (xe_op op_mul rv_mul (xe_var 3) (xe_var 1)))) xss_nil)
  (xss_cons (xs_set 4 sc.nd (xe_opK (K0 := K) rAddU op_addU rv_add xe_int (xe_callI (pm := [.pin, .frz]) 0 d_law_next.ok (hr.mono (by omega)) (Z.glo 3) d_law_next.kp d_law_next.bd (xa_cons xe_int xa_nil) pass0)))
  (xss_cons (xs_if (xt_cmp op_gt rv_gt (xe_var 1) xe_int (nomark _)) (xss_cons (xs_set 3 sc.nd (xe_var 1))
  (xss_one (xs_set 4 sc.nd xe_int))) xss_nil)
  (xss_cons (xs_if ((xw_and (xt_cmpK (K0 := K) rEqU (op_eqU hr.units) rv_eq (xe_callI (pm := [.pin, .frz]) 0 d_law_next.ok (hr.mono (by omega)) (Z.glo 3) d_law_next.kp d_law_next.bd (xa_cons xe_int xa_nil) pass0) xe_int (nomark _)) (xw_and1 (xt_cmp op_lt rv_lt (xe_var 1) xe_int (nomark _))))).xt (xss_cons (xs_setO 6 sc.nd (xn_lst xa_nil))
  (xss_cons (xs_for PassesOwn.never rfl (xi_rng1 (Z.free 2) (xa_cons (xe_opK (K0 := K) rAddU op_addU rv_add (xe_var 4) xe_int) xa_nil)) (xg_name 7 sc.nd) (xss_cons (xs_set 8 sc.nd (xe_opK (K0 := K) rAddU op_addU rv_add xe_int (xe_callI (pm := [.pin, .frz]) 0 d_law_next.ok (hr.mono (by omega)) (Z.glo 3) d_law_next.kp d_law_next.bd (xa_cons xe_int xa_nil) pass0)))
  (xss_cons (xs_if ((xw_and (xt_cmp op_lt rv_lt (xe_var 1) xe_int (nomark _)) (xw_and1 (xt_cmpK (K0 := K) rEqU (op_eqU hr.units) rv_eq (xe_callI (pm := [.pin, .frz]) 0 d_law_next.ok (hr.mono (by omega)) (Z.glo 3) d_law_next.kp d_law_next.bd (xa_cons xe_int xa_nil) pass0) xe_int (nomark _))))).xt (xss_one (xs_set 8 sc.nd (xe_opK (K0 := K) rAddU op_addU rv_add xe_int (xe_callI (pm := [.pin, .frz]) 0 d_law_next.ok (hr.mono (by omega)) (Z.glo 3) d_law_next.kp d_law_next.bd (xa_cons xe_int xa_nil) pass0)))) xss_nil)
  (xss_one (xs_app (xp_var 6) (xe_bmK (K0 := K) rJoinM PySem.F.plainAttrs_str PySem.F.slot_str_join PySem.F.type_str_join mt_join rv_join (xe_str (l := []) (by decide +kernel) (by decide)) (xa_cons (xe_fz (xn_lc [("_law_j", 10)] rfl sc.nd (xi_rng1 (Z.free 2) (xa_cons (xe_var 8) xa_nil)) (blkOk_by (N := N_law_sum) (sc := (defScope s_law_sum)) (by decide +kernel)) (fun _ _ _ _ _ => (xg_name 10 sc.nd)) (fun _ _ _ _ _ => xts_nil) (fun _ _ _ _ _ => (xe_ixK (K0 := K) (hu_of hr) (xe_var 2) (xe_callI (pm := [.pin, .frz]) 0 d_law_next.ok (hr.mono (by omega)) (Z.glo 3) d_law_next.kp d_law_next.bd (xa_cons (xe_var 1) xa_nil) pass0))))) xa_nil)))))))
  (xss_one (xs_ret (xe_tup (xa_cons (xe_bor 6 (xe_callTyK (K0 := K) MM.rTupC call_tupU rv_tuple (Z.free 5) (xa_cons (xe_slK (K0 := K) (xe_var 6) (xo_some xe_int) xo_none) xa_nil))) (xa_cons (xe_bor 6 (xe_ixK (K0 := K) (hu_of hr) (xe_var 6) xe_int)) xa_nil))))))) xss_nil)
  (xss_cons (xs_setLc 5 [("_law_k", 7)] rfl sc.nd (sw_true rfl rfl rfl (by decide +kernel)) (xi_rng1 (Z.free 2) (xa_cons (xe_var 4) xa_nil)) (blkOk_by (N := N_law_sum) (sc := (defScope s_law_sum)) (by decide +kernel)) (fun _ _ _ _ _ => (xg_name 7 sc.nd)) (fun _ _ _ _ _ => xts_nil) (fun _ _ _ _ _ => (xe_callI (pm := [.pin, .frz]) 0 d_law_next.ok (hr.mono (by omega)) (Z.glo 3) d_law_next.kp d_law_next.bd (xa_cons (xe_var 3) xa_nil) pass0)))
  (xss_one (xs_ret (xe_tup (xa_cons (xe_callTyK (K0 := K) MM.rTupC call_tupU rv_tuple (Z.free 5) (xa_cons (xe_fz (xn_lc [("_law_number", 9)] rfl sc.nd (xi_seqK (K0 := K) (xe_var 5)) (blkOk_by (N := N_law_sum) (sc := (defScope s_law_sum)) (by decide +kernel)) (fun _ _ _ _ _ => (xg_name 9 sc.nd)) (fun _ _ _ _ _ => xts_nil) (fun _ _ _ _ _ => (xe_call (pm := [.frz, .frz, .frz]) d_law_word.ok (hr.mono (by omega)) (Z.glo 4) d_law_word.kp d_law_word.bd (xa_cons (xe_var 9) (xa_cons (xe_var 1) (xa_cons (xe_var 2) xa_nil))) pass0)))) xa_nil)) (xa_cons (xe_call (pm := [.frz, .frz, .frz]) d_law_word.ok (hr.mono (by omega)) (Z.glo 4) d_law_word.kp d_law_word.bd (xa_cons (xe_callBK (K0 := K) rSum (cr_sum rfl) rv_sum (Z.free 6) (xa_cons (xe_var 5) xa_nil)) (xa_cons (xe_var 1) (xa_cons (xe_var 2) xa_nil))) pass0) xa_nil)))))))))))⟩
theorem sc_law_sheet : FnScope N_law_sheet ["_law_d"] (defScope s_law_sheet) := ⟨rfl, rfl, rfl, by decide +kernel, rfl, by decide +kernel, by decide +kernel⟩
theorem has_law_sheet (Z : Zc fa fn K h mg) (Y : Yc fx K) {f_d_law_next : FuncData} (d_law_next : Has P w K mg base (ci K) (He.ga K "_law_next") (2) ["_law_dice_here", "_law_many"] [.pin, .frz] false EV.law_next f_d_law_next) {f_d_law_sum : FuncData} (d_law_sum : Has P w K mg base (ci K) (He.ga K "_law_sum") (3) ["_law_d", "_law_base", "_law_names_here"] [.pin, .frz, .frz] false EV.law_sum f_d_law_sum) {f_d_law_names : FuncData} (d_law_names : Has P w K mg base (ci K) (He.ga K "_law_names") (3) ["_law_d", "_law_base"] [.pin, .frz] false EV.law_names f_d_law_names) (F : FunD K "_law_sheet" "_law_sheet" (defArgs s_law_sheet) (defBody s_law_sheet) (defScope s_law_sheet) [] [] (He.ga K "_law_sheet") fd) : Has P w K mg base (ci K) (He.ga K "_law_sheet") (4) ["_law_d"] [.pin] false EV.law_sheet fd := by
  have sc := sc_law_sheet
  refine hasD (μ := [.pin, .frz, .frz, .frz, .frz]) (N := N_law_sheet) F sc rfl (by decide) rfl (fun _ _ _ _ _ _ us hl => match us, hl with | [_], _ => rfl) ?_
  intro cdv A outer s H E hr
  exact ⟨_, (xss_cons (xs_set 1 sc.nd (xe_ixK (K0 := K) (hu_of hr) (xe_fz (xn_lst (xa_cons (xe_opK (K0 := K) rAddU op_addU rv_add xe_int (xe_callI (pm := [.pin, .frz]) 0 d_law_next.ok (hr.mono (by omega)) (Z.glo 3) d_law_next.kp d_law_next.bd (xa_cons xe_int xa_nil) pass0)) (xa_cons (xe_opK (K0 := K) rAddU op_addU rv_add xe_int (xe_callI (pm := [.pin, .frz]) 0 d_law_next.ok (hr.mono (by omega)) (Z.glo 3) d_law_next.kp d_law_next.bd (xa_cons xe_int xa_nil) pass0)) xa_nil)))) (xe_callTy call_int1 rv_intc (Z.free 1) (xa_cons (xe_cmpK (K0 := K) rEqU (op_eqU hr.units) rv_eq (xe_callI (pm := [.pin, .frz]) 0 d_law_next.ok (hr.mono (by omega)) (Z.glo 3) d_law_next.kp d_law_next.bd (xa_cons xe_int xa_nil) pass0) xe_int (nomark _)) xa_nil))))
  (xss_cons (xs_set 2 sc.nd (xe_callI (pm := [.pin, .frz]) 0 d_law_names.ok (hr.mono (by omega)) (Z.glo 8) d_law_names.kp d_law_names.bd (xa_cons (xe_var 1) xa_nil) pass0))
  (xss_cons (xs_set 3 sc.nd (xe_fz (xn_lst (xa_cons (xe_callI (pm := [.pin, .frz, .frz]) 0 d_law_sum.ok (hr.mono (by omega)) (Z.glo 7) d_law_sum.kp d_law_sum.bd (xa_cons (xe_var 1) (xa_cons (xe_var 2) xa_nil)) pass0) xa_nil))))
  (xss_cons (xs_if (xt_cmp op_lt rv_lt (xe_var 1) xe_int (nomark _)) (xss_one (xs_set 3 sc.nd (xe_opK (K0 := K) rAddU op_addU rv_add (xe_var 3) (xe_fz (xn_lc [("_law_k", 4)] rfl sc.nd (xi_rng1 (Z.free 2) (xa_cons (xe_ixK (K0 := K) (hu_of hr) (xe_fz (xn_lst (xa_cons xe_int (xa_cons xe_int (xa_cons xe_int (xa_cons xe_int xa_nil)))))) (xe_callI (pm := [.pin, .frz]) 0 d_law_next.ok (hr.mono (by omega)) (Z.glo 3) d_law_next.kp d_law_next.bd (xa_cons xe_int xa_nil) pass0)) xa_nil)) (blkOk_by (N := N_law_sheet) (sc := (defScope s_law_sheet)) (by decide +kernel)) (fun _ _ _ _ _ => (xg_name 4 sc.nd)) (fun _ _ _ _ _ => xts_nil) (fun _ _ _ _ _ => (xe_callI (pm := [.pin, .frz, .frz]) 0 d_law_sum.ok (hr.mono (by omega)) (Z.glo 7) d_law_sum.kp d_law_sum.bd (xa_cons (xe_var 1) (xa_cons (xe_var 2) xa_nil)) pass0))))))) xss_nil)
  (xss_one (xs_ret (xe_tup (xa_cons (xe_var 1) (xa_cons (xe_var 3) xa_nil)))))))))⟩
theorem sc_law_wrong : FnScope N_law_wrong ["_law_d", "_law_sheet_here"] (defScope s_law_wrong) := ⟨rfl, rfl, rfl, by decide +kernel, rfl, by decide +kernel, by decide +kernel⟩
theorem has_law_wrong (Z : Zc fa fn K h mg) (Y : Yc fx K) {f_d_law_next : FuncData} (d_law_next : Has P w K mg base (ci K) (He.ga K "_law_next") (2) ["_law_dice_here", "_law_many"] [.pin, .frz] false EV.law_next f_d_law_next) (F : FunD K "_law_wrong" "_law_wrong" (defArgs s_law_wrong) (defBody s_law_wrong) (defScope s_law_wrong) [] [] (He.ga K "_law_wrong") fd) : Has P w K mg base (ci K) (He.ga K "_law_wrong") (3) ["_law_d", "_law_sheet_here"] [.pin, .frz] false EV.law_wrong fd := by
  have sc := sc_law_wrong
  refine hasD (μ := [.pin, .frz, .frz, .frz, .frz, .frz, .frz, .frz]) (N := N_law_wrong) F sc rfl (by decide) rfl (fun _ _ _ _ _ _ us hl => match us, hl with | [_, _], _ => rfl) ?_
  intro cdv A outer s H E hr
  exact ⟨_, (xss_cons (xs_asg (xe_var 1) (xg_tupK (K0 := K) rfl (xgs_cons (xg_name 6 sc.nd) (xgs_cons (xg_name 7 sc.nd) xgs_nil))))
  (xss_cons (xs_set 2 sc.nd (xe_slK (K0 := K) (xe_var 7) xo_none (xo_some xe_int)))
  (xss_cons (xs_set 3 sc.nd (xe_fz (xn_lst (xa_cons (xe_tup (xa_cons (xe_tup xa_nil) (xa_cons (xe_str (l := [97]) (by decide +kernel) (by decide)) xa_nil))) (xa_cons (xe_tup (xa_cons (xe_opK (K0 := K) rRepU op_repU rv_rep (xe_tup (xa_cons (xe_str (l := [97]) (by decide +kernel) (by decide)) xa_nil)) xe_int) (xa_cons (xe_str (l := [98]) (by decide +kernel) (by decide)) xa_nil))) (xa_cons (xe_tup (xa_cons (xe_tup (xa_cons (xe_str (l := []) (by decide +kernel) (by decide)) xa_nil)) (xa_cons (xe_str (l := [97]) (by decide +kernel) (by decide)) xa_nil))) (xa_cons (xe_tup (xa_cons (xe_tup (xa_cons (xe_str (l := [97]) (by decide +kernel) (by decide)) (xa_cons (xe_str (l := [98, 99, 100, 101, 102, 103, 104]) (by decide +kernel) (by decide)) xa_nil))) (xa_cons (xe_str (l := [97]) (by decide +kernel) (by decide)) xa_nil))) (xa_cons (xe_tup (xa_cons (xe_tup (xa_cons (xe_str (l := [65]) (by decide +kernel) (by decide)) xa_nil)) (xa_cons (xe_str (l := [97]) (by decide +kernel) (by decide)) xa_nil))) (xa_cons (xe_tup (xa_cons (xe_tup (xa_cons (xe_str (l := [97]) (by decide +kernel) (by decide)) xa_nil)) (xa_cons (xe_str (l := [97, 49]) (by decide +kernel) (by decide)) xa_nil))) xa_nil)))))))))
  (xss_cons (xs_set 3 sc.nd (xe_opK (K0 := K) rAddU op_addU rv_add (xe_var 3) (xe_fz (xn_lst (xa_cons (xe_tup (xa_cons (xe_tup (xa_cons (xe_str (l := [97, 32, 98]) (by decide +kernel) (by decide)) xa_nil)) (xa_cons (xe_str (l := [97]) (by decide +kernel) (by decide)) xa_nil))) (xa_cons (xe_tup (xa_cons (xe_tup (xa_cons (xe_str (l := [97]) (by decide +kernel) (by decide)) xa_nil)) (xa_cons (xe_str (l := [98, 45]) (by decide +kernel) (by decide)) xa_nil))) (xa_cons (xe_tup (xa_cons (xe_tup (xa_cons (xe_str (l := [97, 98, 99, 100, 101, 102, 103]) (by decide +kernel) (by decide)) xa_nil)) (xa_cons (xe_str (l := [97]) (by decide +kernel) (by decide)) xa_nil))) (xa_cons (xe_tup (xa_cons (xe_tup (xa_cons (xe_str (l := [97]) (by decide +kernel) (by decide)) xa_nil)) (xa_cons (xe_str (l := []) (by decide +kernel) (by decide)) xa_nil))) (xa_cons (xe_tup (xa_cons (xe_tup (xa_cons (xe_str (l := [110, 111, 112, 113]) (by decide +kernel) (by decide)) (xa_cons (xe_str (l := [114, 115, 116, 117]) (by decide +kernel) (by decide)) (xa_cons (xe_str (l := [118, 119, 120, 121]) (by decide +kernel) (by decide)) xa_nil)))) (xa_cons (xe_str (l := [122]) (by decide +kernel) (by decide)) xa_nil))) xa_nil)))))))))
  (xss_cons (xs_set 4 sc.nd (xe_fz (xn_lst (xa_cons (xe_str (l := [97, 100, 100, 101, 110, 100, 115]) (by decide +kernel) (by decide)) (xa_cons (xe_str (l := [97, 100, 100, 101, 110, 100, 115]) (by decide +kernel) (by decide)) (xa_cons (xe_str (l := [119, 111, 114, 100]) (by decide +kernel) (by decide)) (xa_cons (xe_str (l := [119, 111, 114, 100]) (by decide +kernel) (by decide)) (xa_cons (xe_str (l := [119, 111, 114, 100]) (by decide +kernel) (by decide)) (xa_cons (xe_str (l := [119, 111, 114, 100]) (by decide +kernel) (by decide)) (xa_cons (xe_str (l := [119, 111, 114, 100]) (by decide +kernel) (by decide)) (xa_cons (xe_str (l := [119, 111, 114, 100]) (by decide +kernel) (by decide)) (xa_cons (xe_str (l := [119, 111, 114, 100]) (by decide +kernel) (by decide)) (xa_cons (xe_str (l := [119, 111, 114, 100]) (by decide +kernel) (by decide)) (xa_cons (xe_str (l := [108, 101, 116, 116, 101, 114, 115]) (by decide +kernel) (by decide)) xa_nil))))))))))))))
  (xss_cons (xs_set 5 sc.nd (xe_callI (pm := [.pin, .frz]) 0 d_law_next.ok (hr.mono (by omega)) (Z.glo 3) d_law_next.kp d_law_next.bd (xa_cons xe_int xa_nil) pass0))
  (xss_cons (xs_if (xt_cmp op_lt rv_lt (xe_var 5) xe_int (nomark _)) (xss_one (xs_ret (xe_tup (xa_cons (xe_tup (xa_cons (xe_ixK (K0 := K) (hu_of hr) (xe_fz (xn_lst (xa_cons xe_int (xa_cons xe_int xa_nil)))) (xe_var 5)) (xa_cons (xe_fz (xn_lst (xa_cons (xe_tup (xa_cons (xe_tup xa_nil) (xa_cons (xe_str (l := []) (by decide +kernel) (by decide)) xa_nil))) xa_nil))) xa_nil))) (xa_cons xe_int (xa_cons (xe_str (l := [98, 97, 115, 101]) (by decide +kernel) (by decide)) xa_nil)))))) xss_nil)
  (xss_cons (xs_if (xt_cmp op_lt rv_lt (xe_var 5) xe_int (nomark _)) (xss_one (xs_ret (xe_tup (xa_cons (xe_tup (xa_cons (xe_var 6) (xa_cons (xe_ixK (K0 := K) (hu_of hr) (xe_fz (xn_lst (xa_cons (xe_fz (xn_lst xa_nil)) (xa_cons (xe_opK (K0 := K) rRepU op_repU rv_rep (xe_fz (xn_lst (xa_cons (xe_tup (xa_cons (xe_tup xa_nil) (xa_cons (xe_str (l := []) (by decide +kernel) (by decide)) xa_nil))) xa_nil))) xe_int) xa_nil)))) (xe_op op_sub rv_sub (xe_var 5) xe_int)) xa_nil))) (xa_cons xe_int (xa_cons (xe_str (l := [115, 117, 109, 115]) (by decide +kernel) (by decide)) xa_nil)))))) xss_nil)
  (xss_cons (xs_if (xt_cmpK (K0 := K) rEqU (op_eqU hr.units) rv_eq (xe_var 5) xe_int (nomark _)) (xss_one (xs_ret (xe_tup (xa_cons (xe_tup (xa_cons xe_int (xa_cons (xe_fz (xn_lst (xa_cons (xe_tup (xa_cons (xe_tup (xa_cons (xe_str (l := [97]) (by decide +kernel) (by decide)) xa_nil)) (xa_cons (xe_str (l := [98]) (by decide +kernel) (by decide)) xa_nil))) (xa_cons (xe_tup (xa_cons (xe_tup (xa_cons (xe_str (l := [99]) (by decide +kernel) (by decide)) xa_nil)) (xa_cons (xe_str (l := [97]) (by decide +kernel) (by decide)) xa_nil))) xa_nil)))) xa_nil))) (xa_cons xe_int (xa_cons (xe_str (l := [108, 101, 116, 116, 101, 114, 115]) (by decide +kernel) (by decide)) xa_nil)))))) xss_nil)
  (xss_cons (xs_if (xt_cmpK (K0 := K) rEqU (op_eqU hr.units) rv_eq (xe_callI (pm := [.pin, .frz]) 0 d_law_next.ok (hr.mono (by omega)) (Z.glo 3) d_law_next.kp d_law_next.bd (xa_cons xe_int xa_nil) pass0) xe_int (nomark _)) (xss_one (xs_ret (xe_tup (xa_cons (xe_tup (xa_cons (xe_var 6) (xa_cons (xe_opK (K0 := K) rAddU op_addU rv_add (xe_fz (xn_lst (xa_cons (xe_ixK (K0 := K) (hu_of hr) (xe_var 3) (xe_op op_sub rv_sub (xe_var 5) xe_int)) xa_nil))) (xe_fz (xn_lst (xa_cons (xe_tup (xa_cons (xe_tup xa_nil) (xa_cons (xe_str (l := []) (by decide +kernel) (by decide)) xa_nil))) xa_nil)))) xa_nil))) (xa_cons xe_int (xa_cons (xe_ixK (K0 := K) (hu_of hr) (xe_var 4) (xe_op op_sub rv_sub (xe_var 5) xe_int)) xa_nil)))))) xss_nil)
  (xss_one (xs_ret (xe_tup (xa_cons (xe_tup (xa_cons (xe_var 6) (xa_cons (xe_opK (K0 := K) rAddU op_addU rv_add (xe_var 2) (xe_fz (xn_lst (xa_cons (xe_ixK (K0 := K) (hu_of hr) (xe_var 3) (xe_op op_sub rv_sub (xe_var 5) xe_int)) xa_nil)))) xa_nil))) (xa_cons (xe_callBK (K0 := K) MM.rLen call_lenU (rv_len rfl) (Z.free 0) (xa_cons (xe_var 2) xa_nil)) (xa_cons (xe_ixK (K0 := K) (hu_of hr) (xe_var 4) (xe_op op_sub rv_sub (xe_var 5) xe_int)) xa_nil))))))))))))))))⟩
theorem sc_is_word : FnScope N_is_word ["word"] (defScope s_is_word) := ⟨rfl, rfl, rfl, by decide +kernel, rfl, by decide +kernel, by decide +kernel⟩
theorem has_is_word (Z : Zc fa fn K h mg) (Y : Yc fx K) (F : FunD K "is_word" "is_word" (defArgs s_is_word) (defBody s_is_word) (defScope s_is_word) [] [] (He.ga K "is_word") fd) : Has P w K mg base (ci K) (He.ga K "is_word") (2) ["word"] [.frz] false EV.is_word fd := by
  have sc := sc_is_word
  refine hasD (μ := [.frz, .frz]) (N := N_is_word) F sc rfl (by decide) rfl (fun _ _ _ _ _ _ us hl => match us, hl with | [_], _ => rfl) ?_
  intro cdv A outer s H E hr
  exact ⟨_, (xss_cons (xs_if ((xw_or (xt_cmpK (K0 := K) rEqU (op_eqU hr.units) rv_eq (xe_var 0) (xe_str (l := []) (by decide +kernel) (by decide)) (nomark _)) (xw_or1 (xt_cmp op_gt rv_gt (xe_callBK (K0 := K) MM.rLen call_lenU (rv_len rfl) (Z.free 0) (xa_cons (xe_var 0) xa_nil)) (xe_gintE (Z.int 10)) (nomark _))))).xt (xss_one (xs_ret xe_bl)) xss_nil)
  (xss_cons (xs_for PassesOwn.never rfl (xi_seqK (K0 := K) (xe_var 0)) (xg_name 1 sc.nd) (xss_one (xs_if (xt_cmpK (K0 := K) rNinU (op_ninU (hu65 hr)) rv_notin (xe_var 1) (xe_gstrE (Z.str 9) (l := [97, 98, 99, 100, 101, 102, 103, 104, 105, 106, 107, 108, 109, 110, 111, 112, 113, 114, 115, 116, 117, 118, 119, 120, 121, 122]) (by decide +kernel) (by decide)) (by rfl)) (xss_one (xs_ret xe_bl)) xss_nil)))
  (xss_one (xs_ret xe_bl))))⟩
theorem sc_Sheet_columns : FnScope N_Sheet_columns ["self", "at"] (defScope s_Sheet_columns) := ⟨rfl, rfl, rfl, by decide +kernel, rfl, by decide +kernel, by decide +kernel⟩
theorem has_Sheet_columns (Z : Zc fa fn K h mg) (Y : Yc fx K) (F : FunD K "columns" "Sheet.columns" (defArgs s_Sheet_columns) (defBody s_Sheet_columns) (defScope s_Sheet_columns) [] [] (He.ma K (He.ga K "Sheet") "columns") fd) : Has P w K mg base (ci K) (He.ma K (He.ga K "Sheet") "columns") (2) ["self", "at"] [.frz, .frz] false EV.Sheet_columns fd := by
  have sc := sc_Sheet_columns
  refine hasD (μ := [.frz, .frz, .frz, .frz, .frz]) (N := N_Sheet_columns) F sc rfl (by decide) rfl (fun _ _ _ _ _ _ us hl => match us, hl with | [_, _], _ => rfl) ?_
  intro cdv A outer s H E hr
  exact ⟨_, (xss_cons (xs_asg (xe_ixK (K0 := K) (hu_of hr) (xe_fldK (K0 := K) (k := 0) (j := 1) (Z.cls 12) (Z.noat 13) (show (nmT 0).Nodup by decide) rfl (xe_var 0)) (xe_var 1)) (xg_tupK (K0 := K) rfl (xgs_cons (xg_name 2 sc.nd) (xgs_cons (xg_name 3 sc.nd) xgs_nil))))
  (xss_one (xs_ret (xe_callBK (K0 := K) MM.rMaxU (call_maxU rfl) rv_max (Z.free 11) (xa_cons (xe_fz (xn_lc [("word", 4)] rfl sc.nd (xi_seqK (K0 := K) (xe_opK (K0 := K) rAddU op_addU rv_add (xe_var 2) (xe_tup (xa_cons (xe_var 3) xa_nil)))) (blkOk_by (N := N_Sheet_columns) (sc := (defScope s_Sheet_columns)) (by decide +kernel)) (fun _ _ _ _ _ => (xg_name 4 sc.nd)) (fun _ _ _ _ _ => xts_nil) (fun _ _ _ _ _ => (xe_callBK (K0 := K) MM.rLen call_lenU (rv_len rfl) (Z.free 0) (xa_cons (xe_var 4) xa_nil))))) xa_nil)))))⟩
theorem sc_letter_at : FnScope N_letter_at ["word", "place"] (defScope s_letter_at) := ⟨rfl, rfl, rfl, by decide +kernel, rfl, by decide +kernel, by decide +kernel⟩
theorem has_letter_at (Z : Zc fa fn K h mg) (Y : Yc fx K) (F : FunD K "letter_at" "letter_at" (defArgs s_letter_at) (defBody s_letter_at) (defScope s_letter_at) [] [] (He.ga K "letter_at") fd) : Has P w K mg base (ci K) (He.ga K "letter_at") (2) ["word", "place"] [.frz, .frz] false EV.letter_at fd := by
  have sc := sc_letter_at
  refine hasD (μ := [.frz, .frz]) (N := N_letter_at) F sc rfl (by decide) rfl (fun _ _ _ _ _ _ us hl => match us, hl with | [_, _], _ => rfl) ?_
  intro cdv A outer s H E hr
  exact ⟨_, (xss_cons (xs_if (xt_cmp op_ge rv_ge (xe_var 1) (xe_callBK (K0 := K) MM.rLen call_lenU (rv_len rfl) (Z.free 0) (xa_cons (xe_var 0) xa_nil)) (nomark _)) (xss_one (xs_ret (xe_str (l := []) (by decide +kernel) (by decide)))) xss_nil)
  (xss_one (xs_ret (xe_ixK (K0 := K) (hu_of hr) (xe_var 0) (xe_op op_sub rv_sub (xe_op op_sub rv_sub (xe_callBK (K0 := K) MM.rLen call_lenU (rv_len rfl) (Z.free 0) (xa_cons (xe_var 0) xa_nil)) xe_int) (xe_var 1))))))⟩
theorem sc_Sheet_column : FnScope N_Sheet_column ["self", "at", "place"] (defScope s_Sheet_column) := ⟨rfl, rfl, rfl, by decide +kernel, rfl, by decide +kernel, by decide +kernel⟩
theorem has_Sheet_column (Z : Zc fa fn K h mg) (Y : Yc fx K) {f_d_letter_at : FuncData} (d_letter_at : Has P w K mg base (ci K) (He.ga K "letter_at") (2) ["word", "place"] [.frz, .frz] false EV.letter_at f_d_letter_at) (F : FunD K "column" "Sheet.column" (defArgs s_Sheet_column) (defBody s_Sheet_column) (defScope s_Sheet_column) [] [] (He.ma K (He.ga K "Sheet") "column") fd) : Has P w K mg base (ci K) (He.ma K (He.ga K "Sheet") "column") (3) ["self", "at", "place"] [.frz, .frz, .frz] false EV.Sheet_column fd := by
  have sc := sc_Sheet_column
  refine hasD (μ := [.frz, .frz, .frz, .frz, .frz, .frz, .frz, .frz]) (N := N_Sheet_column) F sc rfl (by decide) rfl (fun _ _ _ _ _ _ us hl => match us, hl with | [_, _, _], _ => rfl) ?_
  intro cdv A outer s H E hr
  exact ⟨_, (xss_cons (xs_asg (xe_ixK (K0 := K) (hu_of hr) (xe_fldK (K0 := K) (k := 0) (j := 1) (Z.cls 12) (Z.noat 13) (show (nmT 0).Nodup by decide) rfl (xe_var 0)) (xe_var 1)) (xg_tupK (K0 := K) rfl (xgs_cons (xg_name 4 sc.nd) (xgs_cons (xg_name 5 sc.nd) xgs_nil))))
  (xss_cons (xs_setLc 3 [("word", 6)] rfl sc.nd (sw_true rfl rfl rfl (by decide +kernel)) (xi_seqK (K0 := K) (xe_var 4)) (blkOk_by (N := N_Sheet_column) (sc := (defScope s_Sheet_column)) (by decide +kernel)) (fun _ _ _ _ _ => (xg_name 6 sc.nd)) (fun _ _ _ _ _ => xts_nil) (fun _ _ _ _ _ => (xe_call (pm := [.frz, .frz]) d_letter_at.ok (hr.mono (by omega)) (Z.glo 14) d_letter_at.kp d_letter_at.bd (xa_cons (xe_var 6) (xa_cons (xe_var 2) xa_nil)) pass0)))
  (xss_one (xs_ret (xe_tup (xa_cons (xe_fz (xn_lc [("letter", 7)] rfl sc.nd (xi_seqK (K0 := K) (xe_var 3)) (blkOk_by (N := N_Sheet_column) (sc := (defScope s_Sheet_column)) (by decide +kernel)) (fun _ _ _ _ _ => (xg_name 7 sc.nd)) (fun _ _ _ _ _ => (xts_one (xt_cmpK (K0 := K) rNeU (op_neU hr.units) rv_ne (xe_var 7) (xe_str (l := []) (by decide +kernel) (by decide)) (nomark _)))) (fun _ _ _ _ _ => (xe_var 7)))) (xa_cons (xe_call (pm := [.frz, .frz]) d_letter_at.ok (hr.mono (by omega)) (Z.glo 14) d_letter_at.kp d_letter_at.bd (xa_cons (xe_var 5) (xa_cons (xe_var 2) xa_nil)) pass0) xa_nil)))))))⟩
theorem sc_Sheet_letters_to : FnScope N_Sheet_letters_to ["self", "last"] (defScope s_Sheet_letters_to) := ⟨rfl, rfl, rfl, by decide +kernel, rfl, by decide +kernel, by decide +kernel⟩
theorem has_Sheet_letters_to (Z : Zc fa fn K h mg) (Y : Yc fx K) {f_d_Sheet_columns : FuncData} (d_Sheet_columns : Has P w K mg base (ci K) (He.ma K (He.ga K "Sheet") "columns") (2) ["self", "at"] [.frz, .frz] false EV.Sheet_columns f_d_Sheet_columns) {f_d_Sheet_column : FuncData} (d_Sheet_column : Has P w K mg base (ci K) (He.ma K (He.ga K "Sheet") "column") (3) ["self", "at", "place"] [.frz, .frz, .frz] false EV.Sheet_column f_d_Sheet_column) (F : FunD K "letters_to" "Sheet.letters_to" (defArgs s_Sheet_letters_to) (defBody s_Sheet_letters_to) (defScope s_Sheet_letters_to) [] [] (He.ma K (He.ga K "Sheet") "letters_to") fd) : Has P w K mg base (ci K) (He.ma K (He.ga K "Sheet") "letters_to") (4) ["self", "last"] [.frz, .frz] true EV.Sheet_letters_to fd := by
  have sc := sc_Sheet_letters_to
  refine hasD (μ := [.frz, .frz, .own, .frz, .frz, .frz, .frz, .frz]) (N := N_Sheet_letters_to) F sc rfl (by decide) rfl (fun _ _ _ _ _ _ us hl => match us, hl with | [_, _], _ => rfl) ?_
  intro cdv A outer s H E hr
  exact ⟨_, (xss_cons (xs_setO 2 sc.nd (xn_lst xa_nil))
  (xss_cons (xs_for PassesOwn.never rfl (xi_rng1 (Z.free 2) (xa_cons (xe_opK (K0 := K) rAddU op_addU rv_add (xe_var 1) xe_int) xa_nil)) (xg_name 3 sc.nd) (xss_one (xs_for PassesOwn.never rfl (xi_rng1 (Z.free 2) (xa_cons (xe_methF (pm := [.frz, .frz]) (Z.cls 12) (Z.meth 15) d_Sheet_columns.ok (hr.mono (by omega)) d_Sheet_columns.bd (xe_var 0) (xa_cons (xe_var 3) xa_nil) pass0 (show ("columns" : Str) ∉ nmT 0 by decide)) xa_nil)) (xg_name 4 sc.nd) (xss_cons (xs_asg (xe_methF (pm := [.frz, .frz, .frz]) (Z.cls 12) (Z.meth 16) d_Sheet_column.ok (hr.mono (by omega)) d_Sheet_column.bd (xe_var 0) (xa_cons (xe_var 3) (xa_cons (xe_var 4) xa_nil)) pass0 (show ("column" : Str) ∉ nmT 0 by decide)) (xg_tupK (K0 := K) rfl (xgs_cons (xg_name 6 sc.nd) (xgs_cons (xg_name 7 sc.nd) xgs_nil))))
  (xss_one (xs_for PassesOwn.never rfl (xi_seqK (K0 := K) (xe_opK (K0 := K) rAddU op_addU rv_add (xe_var 6) (xe_fz (xn_lst (xa_cons (xe_var 7) xa_nil))))) (xg_name 5 sc.nd) (xss_one (xs_if ((xw_and (xt_cmpK (K0 := K) rNeU (op_neU hr.units) rv_ne (xe_var 5) (xe_str (l := []) (by decide +kernel) (by decide)) (nomark _)) (xw_and1 (xt_bor 2 (xt_cmpK (K0 := K) rNinU (op_ninU (hu65 hr)) rv_notin (xe_var 5) (xe_var 2) (by rfl)))))).xt (xss_one (xs_app (xp_var 2) (xe_var 5))) xss_nil))))))))
  (xss_one (xs_retMove 2))))⟩
theorem sc_Sheet_init : FnScope N_Sheet_init ["self", "base", "sums"] (defScope s_Sheet_init) := ⟨rfl, rfl, rfl, by decide +kernel, rfl, by decide +kernel, by decide +kernel⟩
theorem has_Sheet_init (Z : Zc fa fn K h mg) (Y : Yc fx K) {f_d_Sheet_letters_to : FuncData} (d_Sheet_letters_to : Has P w K mg base (ci K) (He.ma K (He.ga K "Sheet") "letters_to") (4) ["self", "last"] [.frz, .frz] true EV.Sheet_letters_to f_d_Sheet_letters_to) {f_d_BadSheet_init : FuncData} (d_BadSheet_init : HasE P w K mg base (He.ma K (He.ga K "BadSheet") "__init__") 1 ["self", "at", "why"] (spE2 (He.ga K "BadSheet") "at" "why") f_d_BadSheet_init) {f_d_is_word : FuncData} (d_is_word : Has P w K mg base (ci K) (He.ga K "is_word") (2) ["word"] [.frz] false EV.is_word f_d_is_word) (F : FunD K "__init__" "Sheet.__init__" (defArgs s_Sheet_init) (defBody s_Sheet_init) (defScope s_Sheet_init) [] [] (He.ma K (He.ga K "Sheet") "__init__") fd) : HasX P w K mg base (ci K) (He.ma K (He.ga K "Sheet") "__init__") (5) ["self", "base", "sums"] [.pin, .frz, .frz] false EV.Sheet_init fd := by
  have sc := sc_Sheet_init
  refine hasX (μ := [.pin, .frz, .frz, .frz, .frz, .frz, .frz]) (N := N_Sheet_init) F sc rfl (by decide) rfl (fun _ _ _ _ _ _ us hl => match us, hl with | [_, _, _], _ => rfl) ?_
  intro cdv A outer s H E hr tk po
  exact ⟨_, (xss_cons (xs_if ((xw_or (xt_cmp op_lt rv_lt (xe_var 1) xe_int (nomark _)) (xw_or1 (xt_cmp op_gt rv_gt (xe_var 1) (xe_gintE (Z.int 27)) (nomark _))))).xt (xss_one (xs_raise2 9 (Y.oex 0) (Z.meth 21) d_BadSheet_init.ok (hr.mono (by omega)) d_BadSheet_init.bd (Z.glo 20) (xa_cons xe_int (xa_cons (xe_str (l := [98, 97, 115, 101]) (by decide +kernel) (by decide)) xa_nil)) rfl tk)) xss_nil)
  (xss_cons (xs_if ((xw_or (xt_cmp op_lt rv_lt (xe_callBK (K0 := K) MM.rLen call_lenU (rv_len rfl) (Z.free 0) (xa_cons (xe_var 2) xa_nil)) xe_int (nomark _)) (xw_or1 (xt_cmp op_gt rv_gt (xe_callBK (K0 := K) MM.rLen call_lenU (rv_len rfl) (Z.free 0) (xa_cons (xe_var 2) xa_nil)) (xe_gintE (Z.int 26)) (nomark _))))).xt (xss_one (xs_raise2 9 (Y.oex 0) (Z.meth 21) d_BadSheet_init.ok (hr.mono (by omega)) d_BadSheet_init.bd (Z.glo 20) (xa_cons xe_int (xa_cons (xe_str (l := [115, 117, 109, 115]) (by decide +kernel) (by decide)) xa_nil)) rfl tk)) xss_nil)
  (xss_cons (xs_fld 0 (k := 0) (j := 0) (Z.cls 12) (Z.noat 25) (show (nmT 0).Nodup by decide) rfl rfl (xe_var 1))
  (xss_cons (xs_fld 0 (k := 0) (j := 1) (Z.cls 12) (Z.noat 13) (show (nmT 0).Nodup by decide) rfl rfl (xe_fz (xn_listcK (K0 := K) (Z.free 24) (xa_cons (xe_var 2) xa_nil))))
  (xss_one (xs_for po rfl (xi_rng1 (Z.free 2) (xa_cons (xe_callBK (K0 := K) MM.rLen call_lenU (rv_len rfl) (Z.free 0) (xa_cons (xe_var 2) xa_nil)) xa_nil)) (xg_name 3 sc.nd) (xss_cons (xs_asg (xe_ixK (K0 := K) (hu_of hr) (xe_var 2) (xe_var 3)) (xg_tupK (K0 := K) rfl (xgs_cons (xg_name 5 sc.nd) (xgs_cons (xg_name 6 sc.nd) xgs_nil))))
  (xss_cons (xs_if ((xw_or (xt_cmp op_lt rv_lt (xe_callBK (K0 := K) MM.rLen call_lenU (rv_len rfl) (Z.free 0) (xa_cons (xe_var 5) xa_nil)) xe_int (nomark _)) (xw_or1 (xt_cmp op_gt rv_gt (xe_callBK (K0 := K) MM.rLen call_lenU (rv_len rfl) (Z.free 0) (xa_cons (xe_var 5) xa_nil)) (xe_gintE (Z.int 23)) (nomark _))))).xt (xss_one (xs_raise2 9 (Y.oex 0) (Z.meth 21) d_BadSheet_init.ok (hr.mono (by omega)) d_BadSheet_init.bd (Z.glo 20) (xa_cons (xe_var 3) (xa_cons (xe_str (l := [97, 100, 100, 101, 110, 100, 115]) (by decide +kernel) (by decide)) xa_nil)) rfl tk)) xss_nil)
  (xss_cons (xs_for po rfl (xi_seqK (K0 := K) (xe_opK (K0 := K) rAddU op_addU rv_add (xe_var 5) (xe_tup (xa_cons (xe_var 6) xa_nil)))) (xg_name 4 sc.nd) (xss_one (xs_if (xt_not (xt_val (xe_call (pm := [.frz]) d_is_word.ok (hr.mono (by omega)) (Z.glo 22) d_is_word.kp d_is_word.bd (xa_cons (xe_var 4) xa_nil) pass0))) (xss_one (xs_raise2 9 (Y.oex 0) (Z.meth 21) d_BadSheet_init.ok (hr.mono (by omega)) d_BadSheet_init.bd (Z.glo 20) (xa_cons (xe_var 3) (xa_cons (xe_str (l := [119, 111, 114, 100]) (by decide +kernel) (by decide)) xa_nil)) rfl tk)) xss_nil)))
  (xss_one (xs_if (xt_cmp op_gt rv_gt (xe_bor 0 (xe_callBK (K0 := K) MM.rLen call_lenU (rv_len rfl) (Z.free 0) (xa_cons (xe_fz (xn_methF (pm := [.frz, .frz]) (Z.cls 12) (Z.meth 17) d_Sheet_letters_to.ok (hr.mono (by omega)) d_Sheet_letters_to.bd (xe_var 0) (xa_cons (xe_var 3) xa_nil) pass0 (show ("letters_to" : Str) ∉ nmT 0 by decide))) xa_nil))) (xe_callBK (K0 := K) MM.rMinU (call_minU rfl) rv_min (Z.free 19) (xa_cons (xe_var 1) (xa_cons (xe_gintE (Z.int 18)) xa_nil))) (nomark _)) (xss_one (xs_raise2 9 (Y.oex 0) (Z.meth 21) d_BadSheet_init.ok (hr.mono (by omega)) d_BadSheet_init.bd (Z.glo 20) (xa_cons (xe_var 3) (xa_cons (xe_str (l := [108, 101, 116, 116, 101, 114, 115]) (by decide +kernel) (by decide)) xa_nil)) rfl tk)) xss_nil)))))))))))⟩
theorem sc_law_is : FnScope N_law_is ["_law_e", "_law_word_here"] (defScope s_law_is) := ⟨rfl, rfl, rfl, by decide +kernel, rfl, by decide +kernel, by decide +kernel⟩
theorem sc_law_whole : FnScope N_law_whole ["_law_found"] (defScope s_law_whole) := ⟨rfl, rfl, rfl, by decide +kernel, rfl, by decide +kernel, by decide +kernel⟩
theorem sc_law_refused : FnScope N_law_refused ["_law_sheet_here", "_law_at", "_law_why"] (defScope s_law_refused) := ⟨rfl, rfl, rfl, by decide +kernel, rfl, by decide +kernel, by decide +kernel⟩
theorem has_law_refused (Z : Zc fa fn K h mg) (Y : Yc fx K) {f_d_Sheet_init : FuncData} (d_Sheet_init : HasX P w K mg base (ci K) (He.ma K (He.ga K "Sheet") "__init__") (5) ["self", "base", "sums"] [.pin, .frz, .frz] false EV.Sheet_init f_d_Sheet_init) {hf_law_is : FuncData} (h_law_is : HasP P w K mg base (ci K) (He.ga K "_law_is") (2) ["_law_e", "_law_word_here"] [.frz, .frz] false EV.law_is hf_law_is) {hf_law_whole : FuncData} (h_law_whole : HasP P w K mg base (ci K) (He.ga K "_law_whole") (2) ["_law_found"] [.frz] false EV.law_whole hf_law_whole) (F : FunD K "_law_refused" "_law_refused" (defArgs s_law_refused) (defBody s_law_refused) (defScope s_law_refused) [] [] (He.ga K "_law_refused") fd) : Has P w K mg base (ci K) (He.ga K "_law_refused") (7) ["_law_sheet_here", "_law_at", "_law_why"] [.frz, .frz, .frz] false EV.law_refused fd := by
  have sc := sc_law_refused
  refine hasD (μ := [.frz, .frz, .frz, .frz]) (N := N_law_refused) F sc rfl (by decide) rfl (fun _ _ _ _ _ _ us hl => match us, hl with | [_, _, _], _ => rfl) ?_
  intro cdv A outer s H E hr
  exact ⟨_, (xss_cons (xs_tryAs1 3 9 sc.nd ⟨rfl, by decide, .inl (Z.glo 43)⟩ takes0N (exm_c (Z.exm 42) exm_n) (fun _ _ _ tk po => (xss_one (xs_expr (xe_fzI 0 (xn_makeX (pm := [.pin, .frz, .frz]) (Z.mkr 35) d_Sheet_init.ok (hr.mono (by omega)) (Z.glo 36) d_Sheet_init.bd (xa_cons (xe_ixK (K0 := K) (hu_of hr) (xe_var 0) xe_int) (xa_cons (xe_ixK (K0 := K) (hu_of hr) (xe_var 0) xe_int) xa_nil)) tk) (show ∀ b, b ∈ mdT 0 → b = false by decide))))) (fun _ oe _ _ hz hd => (xss_one (xs_ret (xe_and (xe_callP (pm := [.frz, .frz]) h_law_is.ok (roomH_mark (hr.mono (by omega))) (suite_hc hz hd) (Z.glo 37) h_law_is.kp h_law_is.bd (xa_cons (xe_var 3) (xa_cons (xe_str (l := [115, 104, 101, 101, 116]) (by decide +kernel) (by decide)) xa_nil))) (xe_and (xe_callP (pm := [.frz]) h_law_whole.ok (roomH_mark (hr.mono (by omega))) (suite_hc hz hd) (Z.glo 39) h_law_whole.kp h_law_whole.bd (xa_cons (xe_xf (j := 1) (suite_bears hz hd) (Y.xf 8) (Z.noat 38) (show (nmT 9).Nodup by decide) rfl (xe_var 3)) xa_nil)) (xe_and (xe_cmpK (K0 := K) rEqU (op_eqU hr.units) rv_eq (xe_xf (j := 1) (suite_bears hz hd) (Y.xf 8) (Z.noat 38) (show (nmT 9).Nodup by decide) rfl (xe_var 3)) (xe_var 1) (nomark _)) (xe_and (xe_isiK (K0 := K) .str (Z.free 29) (Z.free 41) (xe_xf (j := 0) (suite_bears hz hd) (Y.xf 8) (Z.noat 40) (show (nmT 9).Nodup by decide) rfl (xe_var 3))) (xe_one (xe_cmpK (K0 := K) rEqU (op_eqU hr.units) rv_eq (xe_xf (j := 0) (suite_bears hz hd) (Y.xf 8) (Z.noat 40) (show (nmT 9).Nodup by decide) rfl (xe_var 3)) (xe_var 2) (nomark _)))))))))))
  (xss_one (xs_ret xe_bl)))⟩
theorem sc_Sheet_initL : FnScope N_Sheet_initL ["self", "base", "sums"] (defScope s_Sheet_initL) := ⟨rfl, rfl, rfl, by decide +kernel, rfl, by decide +kernel, by decide +kernel⟩
theorem has_Sheet_initL (Z : Zc fa fn K h mg) (Y : Yc fx K) {f_d_Sheet_letters_to : FuncData} (d_Sheet_letters_to : Has P w K mg base (ci K) (He.ma K (He.ga K "Sheet") "letters_to") (4) ["self", "last"] [.frz, .frz] true EV.Sheet_letters_to f_d_Sheet_letters_to) {f_d_BadSheet_init : FuncData} (d_BadSheet_init : HasE P w K mg base (He.ma K (He.ga K "BadSheet") "__init__") 1 ["self", "at", "why"] (spE2 (He.ga K "BadSheet") "at" "why") f_d_BadSheet_init) {f_d_is_word : FuncData} (d_is_word : Has P w K mg base (ci K) (He.ga K "is_word") (2) ["word"] [.frz] false EV.is_word f_d_is_word) (F : FunD K "__init__" "Sheet.__init__" (defArgs s_Sheet_initL) (defBody s_Sheet_initL) (defScope s_Sheet_initL) [] [] (He.ma K (He.ga K "Sheet") "__init__") fd) : HasX P w K mg base (ci K) (He.ma K (He.ga K "Sheet") "__init__") (5) ["self", "base", "sums"] [.pin, .frz, .pin] false EV.Sheet_initL fd := by
  have sc := sc_Sheet_initL
  refine hasX (μ := [.pin, .frz, .pin, .frz, .frz, .frz, .frz]) (N := N_Sheet_initL) F sc rfl (by decide) rfl (fun _ _ _ _ _ _ us hl => match us, hl with | [_, _, _], _ => rfl) ?_
  intro cdv A outer s H E hr tk po
  exact ⟨_, (xss_cons (xs_if ((xw_or (xt_cmp op_lt rv_lt (xe_var 1) xe_int (nomark _)) (xw_or1 (xt_cmp op_gt rv_gt (xe_var 1) (xe_gintE (Z.int 27)) (nomark _))))).xt (xss_one (xs_raise2 9 (Y.oex 0) (Z.meth 21) d_BadSheet_init.ok (hr.mono (by omega)) d_BadSheet_init.bd (Z.glo 20) (xa_cons xe_int (xa_cons (xe_str (l := [98, 97, 115, 101]) (by decide +kernel) (by decide)) xa_nil)) rfl tk)) xss_nil)
  (xss_cons (xs_if ((xw_or (xt_cmp op_lt rv_lt (xe_bor 2 (xe_callBK (K0 := K) MM.rLen call_lenU (rv_len rfl) (Z.free 0) (xa_cons (xe_var 2) xa_nil))) xe_int (nomark _)) (xw_or1 (xt_cmp op_gt rv_gt (xe_bor 2 (xe_callBK (K0 := K) MM.rLen call_lenU (rv_len rfl) (Z.free 0) (xa_cons (xe_var 2) xa_nil))) (xe_gintE (Z.int 26)) (nomark _))))).xt (xss_one (xs_raise2 9 (Y.oex 0) (Z.meth 21) d_BadSheet_init.ok (hr.mono (by omega)) d_BadSheet_init.bd (Z.glo 20) (xa_cons xe_int (xa_cons (xe_str (l := [115, 117, 109, 115]) (by decide +kernel) (by decide)) xa_nil)) rfl tk)) xss_nil)
  (xss_cons (xs_fld 0 (k := 0) (j := 0) (Z.cls 12) (Z.noat 25) (show (nmT 0).Nodup by decide) rfl rfl (xe_var 1))
  (xss_cons (xs_fld 0 (k := 0) (j := 1) (Z.cls 12) (Z.noat 13) (show (nmT 0).Nodup by decide) rfl rfl (xe_fz (xn_listO K 2 (Z.free 24))))
  (xss_one (xs_for po rfl (xi_rng1 (Z.free 2) (xa_cons (xe_bor 2 (xe_callBK (K0 := K) MM.rLen call_lenU (rv_len rfl) (Z.free 0) (xa_cons (xe_var 2) xa_nil))) xa_nil)) (xg_name 3 sc.nd) (xss_cons (xs_asg (xe_ixO K 2 (hu_of hr) (xe_var 3)) (xg_tupK (K0 := K) rfl (xgs_cons (xg_name 5 sc.nd) (xgs_cons (xg_name 6 sc.nd) xgs_nil))))
  (xss_cons (xs_if ((xw_or (xt_cmp op_lt rv_lt (xe_callBK (K0 := K) MM.rLen call_lenU (rv_len rfl) (Z.free 0) (xa_cons (xe_var 5) xa_nil)) xe_int (nomark _)) (xw_or1 (xt_cmp op_gt rv_gt (xe_callBK (K0 := K) MM.rLen call_lenU (rv_len rfl) (Z.free 0) (xa_cons (xe_var 5) xa_nil)) (xe_gintE (Z.int 23)) (nomark _))))).xt (xss_one (xs_raise2 9 (Y.oex 0) (Z.meth 21) d_BadSheet_init.ok (hr.mono (by omega)) d_BadSheet_init.bd (Z.glo 20) (xa_cons (xe_var 3) (xa_cons (xe_str (l := [97, 100, 100, 101, 110, 100, 115]) (by decide +kernel) (by decide)) xa_nil)) rfl tk)) xss_nil)
  (xss_cons (xs_for po rfl (xi_seqK (K0 := K) (xe_opK (K0 := K) rAddU op_addU rv_add (xe_var 5) (xe_tup (xa_cons (xe_var 6) xa_nil)))) (xg_name 4 sc.nd) (xss_one (xs_if (xt_not (xt_val (xe_call (pm := [.frz]) d_is_word.ok (hr.mono (by omega)) (Z.glo 22) d_is_word.kp d_is_word.bd (xa_cons (xe_var 4) xa_nil) pass0))) (xss_one (xs_raise2 9 (Y.oex 0) (Z.meth 21) d_BadSheet_init.ok (hr.mono (by omega)) d_BadSheet_init.bd (Z.glo 20) (xa_cons (xe_var 3) (xa_cons (xe_str (l := [119, 111, 114, 100]) (by decide +kernel) (by decide)) xa_nil)) rfl tk)) xss_nil)))
  (xss_one (xs_if (xt_cmp op_gt rv_gt (xe_bor 0 (xe_callBK (K0 := K) MM.rLen call_lenU (rv_len rfl) (Z.free 0) (xa_cons (xe_fz (xn_methF (pm := [.frz, .frz]) (Z.cls 12) (Z.meth 17) d_Sheet_letters_to.ok (hr.mono (by omega)) d_Sheet_letters_to.bd (xe_var 0) (xa_cons (xe_var 3) xa_nil) pass0 (show ("letters_to" : Str) ∉ nmT 0 by decide))) xa_nil))) (xe_callBK (K0 := K) MM.rMinU (call_minU rfl) rv_min (Z.free 19) (xa_cons (xe_var 1) (xa_cons (xe_gintE (Z.int 18)) xa_nil))) (nomark _)) (xss_one (xs_raise2 9 (Y.oex 0) (Z.meth 21) d_BadSheet_init.ok (hr.mono (by omega)) d_BadSheet_init.bd (Z.glo 20) (xa_cons (xe_var 3) (xa_cons (xe_str (l := [108, 101, 116, 116, 101, 114, 115]) (by decide +kernel) (by decide)) xa_nil)) rfl tk)) xss_nil)))))))))))⟩
theorem sc_Sheet_sums : FnScope N_Sheet_sums ["self"] (defScope s_Sheet_sums) := ⟨rfl, rfl, rfl, by decide +kernel, rfl, by decide +kernel, by decide +kernel⟩
theorem has_Sheet_sums (Z : Zc fa fn K h mg) (Y : Yc fx K) (F : FunD K "sums" "Sheet.sums" (defArgs s_Sheet_sums) (defBody s_Sheet_sums) (defScope s_Sheet_sums) [] [] (He.ma K (He.ga K "Sheet") "sums") fd) : Has P w K mg base (ci K) (He.ma K (He.ga K "Sheet") "sums") (2) ["self"] [.frz] true EV.Sheet_sums fd := by
  have sc := sc_Sheet_sums
  refine hasD (μ := [.frz]) (N := N_Sheet_sums) F sc rfl (by decide) rfl (fun _ _ _ _ _ _ us hl => match us, hl with | [_], _ => rfl) ?_
  intro cdv A outer s H E hr
  exact ⟨_, (xss_one (xs_retO (xn_listcK (K0 := K) (Z.free 24) (xa_cons (xe_fldK (K0 := K) (k := 0) (j := 1) (Z.cls 12) (Z.noat 13) (show (nmT 0).Nodup by decide) rfl (xe_var 0)) xa_nil))))⟩
theorem sc_law_like : FnScope N_law_like ["_law_found", "_law_due"] (defScope s_law_like) := ⟨rfl, rfl, rfl, by decide +kernel, rfl, by decide +kernel, by decide +kernel⟩
theorem bod_law_like (Z : Zc fa fn K h mg) (Y : Yc fx K) (n : Nat) (r_law_like : Sl → R D) {f_d_law_like : FuncData} (d_law_like : Has P w K mg base (ci K) (He.ga K "_law_like") (2 + n) ["_law_found", "_law_due"] [.frz, .frz] false r_law_like f_d_law_like) (F : FunD K "_law_like" "_law_like" (defArgs s_law_like) (defBody s_law_like) (defScope s_law_like) [] [] (He.ga K "_law_like") fd) : Has P w K mg base (ci K) (He.ga K "_law_like") (2 + n + 1) ["_law_found", "_law_due"] [.frz, .frz] false (EV.b_law_like r_law_like) fd := by
  have sc := sc_law_like
  refine hasD (μ := [.frz, .frz, .frz]) (N := N_law_like) F sc rfl (by decide) rfl (fun _ _ _ _ _ _ us hl => match us, hl with | [_, _], _ => rfl) ?_
  intro cdv A outer s H E hr
  exact ⟨_, (xss_cons (xs_if (xt_val (xe_isiK (K0 := K) .str (Z.free 29) (Z.free 41) (xe_var 1))) (xss_one (xs_ret (xe_and (xe_isiK (K0 := K) .str (Z.free 29) (Z.free 41) (xe_var 0)) (xe_one (xe_cmpK (K0 := K) rEqU (op_eqU hr.units) rv_eq (xe_var 0) (xe_var 1) (nomark _)))))) xss_nil)
  (xss_cons (xs_if (xt_val (xe_isiK (K0 := K) .int (Z.free 29) (Z.free 1) (xe_var 1))) (xss_one (xs_ret (xe_and (xe_isiK (K0 := K) .int (Z.free 29) (Z.free 1) (xe_var 0)) (xe_and (xe_not (xe_isiK (K0 := K) .bool (Z.free 29) (Z.free 34) (xe_var 0))) (xe_one (xe_cmpK (K0 := K) rEqU (op_eqU hr.units) rv_eq (xe_var 0) (xe_var 1) (nomark _))))))) xss_nil)
  (xss_cons (xs_if (xt_cmp op_isN rv_is (xe_var 1) xe_non (nomark _)) (xss_one (xs_ret (xe_cmp op_isN rv_is (xe_var 0) xe_non (nomark _)))) xss_nil)
  (xss_cons (xs_if ((xw_or (xt_cmpK (K0 := K) rNeU (op_neU hr.units) rv_ne (xe_isiK (K0 := K) .tup (Z.free 29) (Z.free 5) (xe_var 1)) (xe_isiK (K0 := K) .tup (Z.free 29) (Z.free 5) (xe_var 0)) (nomark _)) (xw_or1 (xt_cmpK (K0 := K) rNeU (op_neU hr.units) rv_ne (xe_isiK (K0 := K) .lst (Z.free 29) (Z.free 24) (xe_var 1)) (xe_isiK (K0 := K) .lst (Z.free 29) (Z.free 24) (xe_var 0)) (nomark _))))).xt (xss_one (xs_ret xe_bl)) xss_nil)
  (xss_cons (xs_if (xt_cmpK (K0 := K) rNeU (op_neU hr.units) rv_ne (xe_callBK (K0 := K) MM.rLen call_lenU (rv_len rfl) (Z.free 0) (xa_cons (xe_var 0) xa_nil)) (xe_callBK (K0 := K) MM.rLen call_lenU (rv_len rfl) (Z.free 0) (xa_cons (xe_var 1) xa_nil)) (nomark _)) (xss_one (xs_ret xe_bl)) xss_nil)
  (xss_cons (xs_for PassesOwn.never rfl (xi_rng1 (Z.free 2) (xa_cons (xe_callBK (K0 := K) MM.rLen call_lenU (rv_len rfl) (Z.free 0) (xa_cons (xe_var 1) xa_nil)) xa_nil)) (xg_name 2 sc.nd) (xss_one (xs_if (xt_not (xt_val (xe_call (pm := [.frz, .frz]) d_law_like.ok (hr.mono (by omega)) (Z.glo 44) d_law_like.kp d_law_like.bd (xa_cons (xe_ixK (K0 := K) (hu_of hr) (xe_var 0) (xe_var 2)) (xa_cons (xe_ixK (K0 := K) (hu_of hr) (xe_var 1) (xe_var 2)) xa_nil)) pass0))) (xss_one (xs_ret xe_bl)) xss_nil)))
  (xss_one (xs_ret xe_bl))))))))⟩
theorem grp_law_like (Z : Zc fa fn K h mg) (Y : Yc fx K) {f_d_law_like : FuncData} (F_law_like : FunD K "_law_like" "_law_like" (defArgs s_law_like) (defBody s_law_like) (defScope s_law_like) [] [] (He.ga K "_law_like") f_d_law_like) : ∀ n : Nat, Has P w K mg base (ci K) (He.ga K "_law_like") (2 + n) ["_law_found", "_law_due"] [.frz, .frz] false (g_law_like n) f_d_law_like
  | 0 => hasNone F_law_like (fun _ => rfl) (fun _ _ _ _ _ _ us hl => match us, hl with | [_, _], _ => rfl)
  | n + 1 => by
    have d_law_like := grp_law_like Z Y F_law_like n
    exact bod_law_like Z Y n _ d_law_like F_law_like
theorem sc_law : FnScope N_law ["_law_script"] (defScope s_law) := ⟨rfl, rfl, rfl, by decide +kernel, rfl, by decide +kernel, by decide +kernel⟩
theorem has_law (Z : Zc fa fn K h mg) (Y : Yc fx K) {f_d_law_like : FuncData} (d_law_like : Has P w K mg base (ci K) (He.ga K "_law_like") (66) ["_law_found", "_law_due"] [.frz, .frz] false (g_law_like 64) f_d_law_like) {f_d_Sheet_sums : FuncData} (d_Sheet_sums : Has P w K mg base (ci K) (He.ma K (He.ga K "Sheet") "sums") (2) ["self"] [.frz] true EV.Sheet_sums f_d_Sheet_sums) {f_d_Sheet_initL : FuncData} (d_Sheet_initL : HasX P w K mg base (ci K) (He.ma K (He.ga K "Sheet") "__init__") (5) ["self", "base", "sums"] [.pin, .frz, .pin] false EV.Sheet_initL f_d_Sheet_initL) {f_d_law_next : FuncData} (d_law_next : Has P w K mg base (ci K) (He.ga K "_law_next") (2) ["_law_dice_here", "_law_many"] [.pin, .frz] false EV.law_next f_d_law_next) {f_d_law_refused : FuncData} (d_law_refused : Has P w K mg base (ci K) (He.ga K "_law_refused") (7) ["_law_sheet_here", "_law_at", "_law_why"] [.frz, .frz, .frz] false EV.law_refused f_d_law_refused) {f_d_law_wrong : FuncData} (d_law_wrong : Has P w K mg base (ci K) (He.ga K "_law_wrong") (3) ["_law_d", "_law_sheet_here"] [.pin, .frz] false EV.law_wrong f_d_law_wrong) {f_d_law_sheet : FuncData} (d_law_sheet : Has P w K mg base (ci K) (He.ga K "_law_sheet") (4) ["_law_d"] [.pin] false EV.law_sheet f_d_law_sheet) {f_d_law_dice : FuncData} (d_law_dice : Has P w K mg base (ci K) (He.ga K "_law_dice") (2) ["_law_script"] [.frz] true EV.law_dice f_d_law_dice) (F : FunD K "law" "law" (defArgs s_law) (defBody s_law) (defScope s_law) [] [] (He.ga K "law") fd) : Has P w K mg base (ci K) (He.ga K "law") (67) ["_law_script"] [.frz] false EV.law fd := by
  have sc := sc_law
  refine hasD (μ := [.frz, .own, .own, .frz, .frz, .frz, .frz, .own, .frz, .frz, .frz]) (N := N_law) F sc rfl (by decide) rfl (fun _ _ _ _ _ _ us hl => match us, hl with | [_], _ => rfl) ?_
  intro cdv A outer s H E hr
  exact ⟨_, (xss_cons (xs_setO 1 sc.nd (xn_call (pm := [.frz]) d_law_dice.ok (hr.mono (by omega)) (Z.glo 49) d_law_dice.kp d_law_dice.bd (xa_cons (xe_var 0) xa_nil) pass0))
  (xss_cons (xs_asg (xe_callI (pm := [.pin]) 1 d_law_sheet.ok (hr.mono (by omega)) (Z.glo 48) d_law_sheet.kp d_law_sheet.bd xa_nil pass0) (xg_tupK (K0 := K) rfl (xgs_cons (xg_name 5 sc.nd) (xgs_cons (xg_name 6 sc.nd) xgs_nil))))
  (xss_cons (xs_if (xt_cmpK (K0 := K) rEqU (op_eqU hr.units) rv_eq (xe_callI (pm := [.pin, .frz]) 1 d_law_next.ok (hr.mono (by omega)) (Z.glo 3) d_law_next.kp d_law_next.bd (xa_cons xe_int xa_nil) pass0) xe_int (nomark _)) (xss_cons (xs_asg (xe_callI (pm := [.pin, .frz]) 1 d_law_wrong.ok (hr.mono (by omega)) (Z.glo 47) d_law_wrong.kp d_law_wrong.bd (xa_cons (xe_tup (xa_cons (xe_var 5) (xa_cons (xe_var 6) xa_nil))) xa_nil) pass0) (xg_tupK (K0 := K) rfl (xgs_cons (xg_name 8 sc.nd) (xgs_cons (xg_name 9 sc.nd) (xgs_cons (xg_name 10 sc.nd) xgs_nil)))))
  (xss_one (xs_ret (xe_call (pm := [.frz, .frz, .frz]) d_law_refused.ok (hr.mono (by omega)) (Z.glo 46) d_law_refused.kp d_law_refused.bd (xa_cons (xe_var 8) (xa_cons (xe_var 9) (xa_cons (xe_var 10) xa_nil))) pass0)))) xss_nil)
  (xss_cons (xs_setO 2 sc.nd (xn_listcK (K0 := K) (Z.free 24) (xa_cons (xe_var 6) xa_nil)))
  (xss_cons (xs_set 3 sc.nd (xe_fzI 0 (xn_makeXL (pm := [.pin, .frz, .pin]) (Z.mkr 35) d_Sheet_initL.ok (hr.mono (by omega)) (Z.glo 36) d_Sheet_initL.bd (xl_cons (xe_var 5) (xl_nil 2)) takes0N) (show ∀ b, b ∈ mdT 0 → b = false by decide)))
  (xss_cons (xs_for PassesOwn.never rfl (xi_rng1 (Z.free 2) (xa_cons xe_int xa_nil)) (xg_name 4 sc.nd) (xss_cons (xs_setO 7 sc.nd (xn_methF0 (pm := [.frz]) (Z.cls 12) (Z.meth 45) d_Sheet_sums.ok (hr.mono (by omega)) d_Sheet_sums.bd (xe_var 3) pass0 (show ("sums" : Str) ∉ nmT 0 by decide)))
  (xss_cons (xs_if ((xw_or (xt_not (xt_val (xe_bor 7 (xe_call (pm := [.frz, .frz]) d_law_like.ok (hr.mono (by omega)) (Z.glo 44) d_law_like.kp d_law_like.bd (xa_cons (xe_var 7) (xa_cons (xe_var 6) xa_nil)) pass0)))) (xw_or1 (xt_not (xt_val (xe_call (pm := [.frz, .frz]) d_law_like.ok (hr.mono (by omega)) (Z.glo 44) d_law_like.kp d_law_like.bd (xa_cons (xe_fldK (K0 := K) (k := 0) (j := 0) (Z.cls 12) (Z.noat 25) (show (nmT 0).Nodup by decide) rfl (xe_var 3)) (xa_cons (xe_var 5) xa_nil)) pass0)))))).xt (xss_one (xs_ret xe_bl)) xss_nil)
  (xss_cons (xs_clear (xp_var 7))
  (xss_one (xs_clear (xp_var 2)))))))
  (xss_one (xs_ret xe_bl))))))))⟩
theorem law_ok (Z : Zc fa fn K h mg) (Y : Yc fx K) : ∃ fd, FunD K "law" "law" (defArgs s_law) (defBody s_law) (defScope s_law) [] [] (He.ga K "law") fd ∧ Has P w K mg base (ci K) (He.ga K "law") (67) ["_law_script"] [.frz] false EV.law fd := by
  obtain ⟨_, F_law_dice⟩ := Z.c.def_ 0 (d := D_law_dice) rfl
  obtain ⟨_, F_law_next⟩ := Z.c.def_ 1 (d := D_law_next) rfl
  obtain ⟨_, F_law_names⟩ := Z.c.def_ 2 (d := D_law_names) rfl
  obtain ⟨_, F_law_word⟩ := Z.c.def_ 3 (d := D_law_word) rfl
  obtain ⟨_, F_law_sum⟩ := Z.c.def_ 4 (d := D_law_sum) rfl
  obtain ⟨_, F_law_sheet⟩ := Z.c.def_ 5 (d := D_law_sheet) rfl
  obtain ⟨_, F_law_wrong⟩ := Z.c.def_ 6 (d := D_law_wrong) rfl
  obtain ⟨_, F_is_word⟩ := Z.c.def_ 7 (d := D_is_word) rfl
  obtain ⟨_, F_Sheet_columns⟩ := Z.c.def_ 8 (d := D_Sheet_columns) rfl
  obtain ⟨_, F_letter_at⟩ := Z.c.def_ 9 (d := D_letter_at) rfl
  obtain ⟨_, F_Sheet_column⟩ := Z.c.def_ 10 (d := D_Sheet_column) rfl
  obtain ⟨_, F_Sheet_letters_to⟩ := Z.c.def_ 11 (d := D_Sheet_letters_to) rfl
  obtain ⟨_, F_Sheet_init⟩ := Z.c.def_ 12 (d := D_Sheet_init) rfl
  obtain ⟨_, F_law_is⟩ := Z.c.def_ 13 (d := D_law_is) rfl
  obtain ⟨_, F_law_whole⟩ := Z.c.def_ 14 (d := D_law_whole) rfl
  obtain ⟨_, F_law_refused⟩ := Z.c.def_ 15 (d := D_law_refused) rfl
  obtain ⟨_, F_Sheet_initL⟩ := Z.c.def_ 12 (d := D_Sheet_init) rfl
  obtain ⟨_, F_Sheet_sums⟩ := Z.c.def_ 16 (d := D_Sheet_sums) rfl
  obtain ⟨_, F_law_like⟩ := Z.c.def_ 17 (d := D_law_like) rfl
  obtain ⟨_, F_law⟩ := Z.c.def_ 18 (d := D_law) rfl
  obtain ⟨_, F_BadSheet_init⟩ := Z.c.def_ 19 (d := D_BadSheet_init) rfl
  have d_BadSheet_init := has_BadSheet_init (P := P) (w := w) (base := base) Z Y F_BadSheet_init
  have h_law_is := hot_law_is (P := P) (w := w) (base := base) Z Y F_law_is
  have h_law_whole := hot_law_whole (P := P) (w := w) (base := base) Z Y F_law_whole
  have d_law_dice := has_law_dice (P := P) (w := w) (base := base) Z Y F_law_dice
  have d_law_next := has_law_next (P := P) (w := w) (base := base) Z Y F_law_next
  have d_law_names := has_law_names (P := P) (w := w) (base := base) Z Y d_law_next F_law_names
  have d_law_word := has_law_word (P := P) (w := w) (base := base) Z Y F_law_word
  have d_law_sum := has_law_sum (P := P) (w := w) (base := base) Z Y d_law_word d_law_next F_law_sum
  have d_law_sheet := has_law_sheet (P := P) (w := w) (base := base) Z Y d_law_next d_law_sum d_law_names F_law_sheet
  have d_law_wrong := has_law_wrong (P := P) (w := w) (base := base) Z Y d_law_next F_law_wrong
  have d_is_word := has_is_word (P := P) (w := w) (base := base) Z Y F_is_word
  have d_Sheet_columns := has_Sheet_columns (P := P) (w := w) (base := base) Z Y F_Sheet_columns
  have d_letter_at := has_letter_at (P := P) (w := w) (base := base) Z Y F_letter_at
  have d_Sheet_column := has_Sheet_column (P := P) (w := w) (base := base) Z Y d_letter_at F_Sheet_column
  have d_Sheet_letters_to := has_Sheet_letters_to (P := P) (w := w) (base := base) Z Y d_Sheet_columns d_Sheet_column F_Sheet_letters_to
  have d_Sheet_init := has_Sheet_init (P := P) (w := w) (base := base) Z Y d_Sheet_letters_to d_BadSheet_init d_is_word F_Sheet_init
  have d_law_refused := has_law_refused (P := P) (w := w) (base := base) Z Y d_Sheet_init h_law_is h_law_whole F_law_refused
  have d_Sheet_initL := has_Sheet_initL (P := P) (w := w) (base := base) Z Y d_Sheet_letters_to d_BadSheet_init d_is_word F_Sheet_initL
  have d_Sheet_sums := has_Sheet_sums (P := P) (w := w) (base := base) Z Y F_Sheet_sums
  have d_law_like := grp_law_like (P := P) (w := w) (base := base) Z Y F_law_like 64
  have d_law := has_law (P := P) (w := w) (base := base) Z Y d_law_like d_Sheet_sums d_Sheet_initL d_law_next d_law_refused d_law_wrong d_law_sheet d_law_dice F_law
  exact ⟨_, F_law, d_law⟩
end
end Wk01

set_option Elab.async false
set_option linter.all false
set_option maxRecDepth 100000
set_option maxHeartbeats 4000000
namespace PP
open MM PySem L2
def Dice (d : D) : Prop := ∃ (ns : List Int) (i m k : Int), d = .lst [.scr ns, .int i, .int m, .int k] ∧ 0 ≤ i ∧ 0 ≤ m ∧ m < 2147483647 ∧ 0 ≤ k
theorem p18 : fPow (.int 10) (.int 18) = some (.int 1000000000000000000) := by
  have h : CPow 10 18 := ⟨by decide, by decide, by decide⟩
  simp [fPow, h]
theorem next_spec (d : D) (h : Dice d) (many : Int) (h1 : 0 < many) (h2 : many < 1000000000) : ∃ r d', EV.law_next [some d, some (.int many)] = .ok (.int r) [some d', none] ∧ 0 ≤ r ∧ r < many ∧ Dice d' := by
  obtain ⟨ns, i, m, k, rfl, hi, hm, hm2, hk⟩ := h
  have h3 : many < 1073741824 := by omega
  have ix1 : (0 : Int) ≤ 1 := by omega
  by_cases hk0 : 0 < k
  · refine ⟨k % many, .lst [.scr ns, .int i, .int m, .int (k / many)], ?_, Int.emod_nonneg _ (by omega), Int.emod_lt_of_pos _ h1, ⟨ns, i, m, k / many, rfl, hi, hm, hm2, Int.ediv_nonneg hk (by omega)⟩⟩
    unfold EV.law_next
    simp [bind_ok, bind_err, bind_exc, ofO_some, ofO_none, ap_mVar, ap_mC, ap_mOp, ap_mTest, ap_mAnd, ap_mOr, ap_mNot, ap_mAndV, ap_mOrV, ap_mNotV, ap_mIfE, ap_mNil, ap_mCons, ap_mTup, ap_mLst, ap_mCall, ap_mMeth, ap_mNoPart, ap_mPart, ap_mSl, ap_mFz, ap_mFzI, ap_mDnew, ap_gmName, ap_gmNil, ap_gmCons, ap_gmTup, ap_mSkip, ap_mSeq, ap_mErr, ap_mDrop, ap_mIf, ap_mRet, ap_mAsg, ap_mSetO, ap_mItems, ap_mRng1, ap_mRng2, ap_mRev, ap_mFor, ap_mLc, ap_mYes, ap_mFld, dFld, ap_mFldO, ap_mBor, mskFrom, mdOf, flatT, flatTs, ap_mBorT, ap_mMove, ap_mRetMove, ap_getV, ap_setV, ap_getF, ap_setF, ap_mApp, ap_mClear, ap_mPut, ap_mSetL, ap_mPopD, ap_mSetFld, ap_mSetFldO, ap_mCallF, ap_mMethF, ap_mCallI, ap_mMethI, ap_mMethT, ap_mMake, ap_mIsi, ap_mRevS, ap_mLcK, ap_mNeg, ap_mLenSet, ap_mLenSetT, ap_mChain, ap_mGet2, ap_fnB, mskP, isLD_lst, isLD_dic, isIns_mk, items_lst, items_tup, items_str, items_scr, fAdd, fSub, fMul, fDiv, fMod, fLt, fLe, fGt, fGe, fEq, fNe, eqD, fIs, fIsNot, fIn, fNotIn, fIx, fLen, fMax, fMin, fSum, fAbs, fInt, fList, fTuple, fSl, fIsi, isTy, fJoin, atI, ixN, hk0, h1, CDiv, h3]
  · by_cases hl : i + 1 ≤ (ns.length : Int)
    · obtain ⟨c, hc⟩ : ∃ c, ns[i.toNat]? = some c := ⟨ns[i.toNat]'(by omega), List.getElem?_eq_getElem (by omega)⟩
      have hat : atI ns i = some c := by rw [atI_pos _ _ hi]; exact hc
      by_cases hb : (1000000000000000000 : Int) ≤ c
      · refine ⟨c % many, .lst [.scr ns, .int (i + 1), .int m, .int (c / many)], ?_, Int.emod_nonneg _ (by omega), Int.emod_lt_of_pos _ h1, ⟨ns, i + 1, m, c / many, rfl, by omega, hm, hm2, Int.ediv_nonneg (by omega) (by omega)⟩⟩
        have e : i + 1 - 1 = i := by omega
        unfold EV.law_next
        simp [bind_ok, bind_err, bind_exc, ofO_some, ofO_none, ap_mVar, ap_mC, ap_mOp, ap_mTest, ap_mAnd, ap_mOr, ap_mNot, ap_mAndV, ap_mOrV, ap_mNotV, ap_mIfE, ap_mNil, ap_mCons, ap_mTup, ap_mLst, ap_mCall, ap_mMeth, ap_mNoPart, ap_mPart, ap_mSl, ap_mFz, ap_mFzI, ap_mDnew, ap_gmName, ap_gmNil, ap_gmCons, ap_gmTup, ap_mSkip, ap_mSeq, ap_mErr, ap_mDrop, ap_mIf, ap_mRet, ap_mAsg, ap_mSetO, ap_mItems, ap_mRng1, ap_mRng2, ap_mRev, ap_mFor, ap_mLc, ap_mYes, ap_mFld, dFld, ap_mFldO, ap_mBor, mskFrom, mdOf, flatT, flatTs, ap_mBorT, ap_mMove, ap_mRetMove, ap_getV, ap_setV, ap_getF, ap_setF, ap_mApp, ap_mClear, ap_mPut, ap_mSetL, ap_mPopD, ap_mSetFld, ap_mSetFldO, ap_mCallF, ap_mMethF, ap_mCallI, ap_mMethI, ap_mMethT, ap_mMake, ap_mIsi, ap_mRevS, ap_mLcK, ap_mNeg, ap_mLenSet, ap_mLenSetT, ap_mChain, ap_mGet2, ap_fnB, mskP, isLD_lst, isLD_dic, isIns_mk, items_lst, items_tup, items_str, items_scr, fAdd, fSub, fMul, fDiv, fMod, fLt, fLe, fGt, fGe, fEq, fNe, eqD, fIs, fIsNot, fIn, fNotIn, fIx, fLen, fMax, fMin, fSum, fAbs, fInt, fList, fTuple, fSl, fIsi, isTy, fJoin, atI_pos, ixN, hk0, h1, CDiv, h3, p18, hl, e, hat, hc, hi, hb]
      · refine ⟨c % many, .lst [.scr ns, .int (i + 1), .int m, .int 0], ?_, Int.emod_nonneg _ (by omega), Int.emod_lt_of_pos _ h1, ⟨ns, i + 1, m, 0, rfl, by omega, hm, hm2, by omega⟩⟩
        have e : i + 1 - 1 = i := by omega
        unfold EV.law_next
        simp [bind_ok, bind_err, bind_exc, ofO_some, ofO_none, ap_mVar, ap_mC, ap_mOp, ap_mTest, ap_mAnd, ap_mOr, ap_mNot, ap_mAndV, ap_mOrV, ap_mNotV, ap_mIfE, ap_mNil, ap_mCons, ap_mTup, ap_mLst, ap_mCall, ap_mMeth, ap_mNoPart, ap_mPart, ap_mSl, ap_mFz, ap_mFzI, ap_mDnew, ap_gmName, ap_gmNil, ap_gmCons, ap_gmTup, ap_mSkip, ap_mSeq, ap_mErr, ap_mDrop, ap_mIf, ap_mRet, ap_mAsg, ap_mSetO, ap_mItems, ap_mRng1, ap_mRng2, ap_mRev, ap_mFor, ap_mLc, ap_mYes, ap_mFld, dFld, ap_mFldO, ap_mBor, mskFrom, mdOf, flatT, flatTs, ap_mBorT, ap_mMove, ap_mRetMove, ap_getV, ap_setV, ap_getF, ap_setF, ap_mApp, ap_mClear, ap_mPut, ap_mSetL, ap_mPopD, ap_mSetFld, ap_mSetFldO, ap_mCallF, ap_mMethF, ap_mCallI, ap_mMethI, ap_mMethT, ap_mMake, ap_mIsi, ap_mRevS, ap_mLcK, ap_mNeg, ap_mLenSet, ap_mLenSetT, ap_mChain, ap_mGet2, ap_fnB, mskP, isLD_lst, isLD_dic, isIns_mk, items_lst, items_tup, items_str, items_scr, fAdd, fSub, fMul, fDiv, fMod, fLt, fLe, fGt, fGe, fEq, fNe, eqD, fIs, fIsNot, fIn, fNotIn, fIx, fLen, fMax, fMin, fSum, fAbs, fInt, fList, fTuple, fSl, fIsi, isTy, fJoin, atI_pos, ixN, hk0, h1, CDiv, h3, p18, hl, e, hat, hc, hi, hb]
    · refine ⟨m * 48271 % 2147483647 / 7 % many, .lst [.scr ns, .int (i + 1), .int (m * 48271 % 2147483647), .int k], ?_, Int.emod_nonneg _ (by omega), Int.emod_lt_of_pos _ h1, ⟨ns, i + 1, m * 48271 % 2147483647, k, rfl, by omega, Int.emod_nonneg _ (by omega), Int.emod_lt_of_pos _ (by omega), hk⟩⟩
      have hcm : CMul m 48271 := .inr (by decide)
      unfold EV.law_next
      simp [bind_ok, bind_err, bind_exc, ofO_some, ofO_none, ap_mVar, ap_mC, ap_mOp, ap_mTest, ap_mAnd, ap_mOr, ap_mNot, ap_mAndV, ap_mOrV, ap_mNotV, ap_mIfE, ap_mNil, ap_mCons, ap_mTup, ap_mLst, ap_mCall, ap_mMeth, ap_mNoPart, ap_mPart, ap_mSl, ap_mFz, ap_mFzI, ap_mDnew, ap_gmName, ap_gmNil, ap_gmCons, ap_gmTup, ap_mSkip, ap_mSeq, ap_mErr, ap_mDrop, ap_mIf, ap_mRet, ap_mAsg, ap_mSetO, ap_mItems, ap_mRng1, ap_mRng2, ap_mRev, ap_mFor, ap_mLc, ap_mYes, ap_mFld, dFld, ap_mFldO, ap_mBor, mskFrom, mdOf, flatT, flatTs, ap_mBorT, ap_mMove, ap_mRetMove, ap_getV, ap_setV, ap_getF, ap_setF, ap_mApp, ap_mClear, ap_mPut, ap_mSetL, ap_mPopD, ap_mSetFld, ap_mSetFldO, ap_mCallF, ap_mMethF, ap_mCallI, ap_mMethI, ap_mMethT, ap_mMake, ap_mIsi, ap_mRevS, ap_mLcK, ap_mNeg, ap_mLenSet, ap_mLenSetT, ap_mChain, ap_mGet2, ap_fnB, mskP, isLD_lst, isLD_dic, isIns_mk, items_lst, items_tup, items_str, items_scr, fAdd, fSub, fMul, fDiv, fMod, fLt, fLe, fGt, fGe, fEq, fNe, eqD, fIs, fIsNot, fIn, fNotIn, fIx, fLen, fMax, fMin, fSum, fAbs, fInt, fList, fTuple, fSl, fIsi, isTy, fJoin, atI_pos, ixN, hk0, h1, CDiv, h3, CPow, hl, hi, hcm]
/-! loops with an invariant over what is done -/
theorem forGo_inv {mg : MG} {mb : MS} (P : List D → Sl → Prop) : ∀ (todo done : List D) (s : Sl), P done s → (∀ pre d post s, done ++ todo = pre ++ d :: post → P pre s → ∃ s1, mg d s = some s1 ∧ ∃ s2, mb s1 = .ok .nx s2 ∧ P (pre ++ [d]) s2) →
    ∃ s', forGo mg mb todo s = .ok .nx s' ∧ P (done ++ todo) s'
  | [], done, s, h, _ => ⟨s, rfl, by rw [List.append_nil]; exact h⟩
  | d :: r, done, s, h, st => by
    obtain ⟨s1, e1, s2, e2, h2⟩ := st done d r s rfl h
    obtain ⟨s', e, q⟩ := forGo_inv P r (done ++ [d]) s2 h2 fun pre z post s e => st pre z post s (by rw [← e, List.append_assoc]; rfl)
    refine ⟨s', ?_, by rw [List.append_assoc] at q; exact q⟩
    unfold forGo
    rw [e1]
    dsimp only
    rw [e2]
    exact e
theorem lcGo_inv {vs : List Nat} {mg : MG} {me : ME} (P : List D → List D → Sl → Prop) : ∀ (todo done acc : List D) (s : Sl), P done acc s →
    (∀ pre d post acc s, done ++ todo = pre ++ d :: post → P pre acc s → ∃ s1, mg d (wipeS s vs) = some s1 ∧ ∃ y s3, me s1 = .ok y s3 ∧ P (pre ++ [d]) (acc ++ [y]) (rest vs s s3)) →
    ∃ ys s', lcGo vs mg mYes me todo s acc = .ok ys s' ∧ P (done ++ todo) ys s'
  | [], done, acc, s, h, _ => ⟨acc, s, rfl, by rw [List.append_nil]; exact h⟩
  | d :: r, done, acc, s, h, st => by
    obtain ⟨s1, e1, y, s3, e2, h2⟩ := st done d r acc s rfl h
    obtain ⟨ys, s', e, q⟩ := lcGo_inv P r (done ++ [d]) (acc ++ [y]) _ h2 fun pre z post acc s e => st pre z post acc s (by rw [← e, List.append_assoc]; rfl)
    refine ⟨ys, s', ?_, by rw [List.append_assoc] at q; exact q⟩
    unfold lcGo
    rw [e1]
    dsimp only [mYes]
    rw [e2]
    exact e
/-- the dice made of a script -/
theorem dice_spec (ns : List Int) : ∃ d, EV.law_dice [some (.scr ns)] = .ok d [none] ∧ Dice d := by
  have loop : ∀ (l : List Int) (m : Int) (x : Option D), 0 ≤ m → m < 2147483647 → ∃ m' x', 0 ≤ m' ∧ m' < 2147483647 ∧ forGo (gmName 2) (mAsg (mOp fMod (mOp fAdd (mOp fAdd (mOp fMul (mVar 1) (mC (.int 48271))) (mOp fMul (mOp fMod (mVar 2) (mC (.int 2147483647))) (mC (.int 69621)))) (mC (.int 11))) (mC (.int 2147483647))) (gmName 1)) (l.map D.int) [some (.scr ns), some (.int m), x] = .ok .nx [some (.scr ns), some (.int m'), x'] := by
    intro l
    induction l with
    | nil => exact fun m x h1 h2 => ⟨m, x, h1, h2, rfl⟩
    | cons c r ih =>
      intro m x h1 h2
      have hb1 : 0 ≤ c % 2147483647 := Int.emod_nonneg _ (by omega)
      have hb2 : c % 2147483647 < 2147483647 := Int.emod_lt_of_pos _ (by omega)
      obtain ⟨m', x', h3, h4, e⟩ := ih ((m * 48271 + c % 2147483647 * 69621 + 11) % 2147483647) (some (.int c)) (Int.emod_nonneg _ (by omega)) (Int.emod_lt_of_pos _ (by omega))
      refine ⟨m', x', h3, h4, ?_⟩
      have c1 : CMul m 48271 := .inr (by decide)
      have c2 : CMul (c % 2147483647) 69621 := .inr (by decide)
      rw [List.map_cons]
      unfold forGo
      simp [bind_ok, bind_err, bind_exc, ofO_some, ofO_none, ap_mVar, ap_mC, ap_mOp, ap_mTest, ap_mAnd, ap_mOr, ap_mNot, ap_mAndV, ap_mOrV, ap_mNotV, ap_mIfE, ap_mNil, ap_mCons, ap_mTup, ap_mLst, ap_mCall, ap_mMeth, ap_mNoPart, ap_mPart, ap_mSl, ap_mFz, ap_mFzI, ap_mDnew, ap_gmName, ap_gmNil, ap_gmCons, ap_gmTup, ap_mSkip, ap_mSeq, ap_mErr, ap_mDrop, ap_mIf, ap_mRet, ap_mAsg, ap_mSetO, ap_mItems, ap_mRng1, ap_mRng2, ap_mRev, ap_mFor, ap_mLc, ap_mYes, ap_mFld, dFld, ap_mFldO, ap_mBor, mskFrom, mdOf, flatT, flatTs, ap_mBorT, ap_mMove, ap_mRetMove, ap_getV, ap_setV, ap_getF, ap_setF, ap_mApp, ap_mClear, ap_mPut, ap_mSetL, ap_mPopD, ap_mSetFld, ap_mSetFldO, ap_mCallF, ap_mMethF, ap_mCallI, ap_mMethI, ap_mMethT, ap_mMake, ap_mIsi, ap_mRevS, ap_mLcK, ap_mNeg, ap_mLenSet, ap_mLenSetT, ap_mChain, ap_mGet2, ap_fnB, mskP, isLD_lst, isLD_dic, isIns_mk, items_lst, items_tup, items_str, items_scr, fAdd, fSub, fMul, fDiv, fMod, fLt, fLe, fGt, fGe, fEq, fNe, eqD, fIs, fIsNot, fIn, fNotIn, fIx, fLen, fMax, fMin, fSum, fAbs, fInt, fList, fTuple, fSl, fIsi, isTy, fJoin, c1, c2]
      exact e
  obtain ⟨m, x, h1, h2, e⟩ := loop ns 0 none (by omega) (by omega)
  refine ⟨.lst [.scr ns, .int 0, .int (m * (if 2 < (ns.length : Int) then 1 else 0)), .int 0], ?_, ⟨ns, 0, _, 0, rfl, by omega, ?_, ?_, by omega⟩⟩
  · have c1 : ∀ b : Bool, CMul m (if b = true then 1 else 0) := fun b => .inr (by cases b <;> decide)
    have c2 : CMul m (if 2 < (ns.length : Int) then 1 else 0) := by simpa using c1 (decide (2 < (ns.length : Int)))
    have lb : 4 ≤ LB := by decide
    unfold EV.law_dice
    simp [bind_ok, bind_err, bind_exc, ofO_some, ofO_none, ap_mVar, ap_mC, ap_mOp, ap_mTest, ap_mAnd, ap_mOr, ap_mNot, ap_mAndV, ap_mOrV, ap_mNotV, ap_mIfE, ap_mNil, ap_mCons, ap_mTup, ap_mLst, ap_mCall, ap_mMeth, ap_mNoPart, ap_mPart, ap_mSl, ap_mFz, ap_mFzI, ap_mDnew, ap_gmName, ap_gmNil, ap_gmCons, ap_gmTup, ap_mSkip, ap_mSeq, ap_mErr, ap_mDrop, ap_mIf, ap_mRet, ap_mAsg, ap_mSetO, ap_mItems, ap_mRng1, ap_mRng2, ap_mRev, ap_mFor, ap_mLc, ap_mYes, ap_mFld, dFld, ap_mFldO, ap_mBor, mskFrom, mdOf, flatT, flatTs, ap_mBorT, ap_mMove, ap_mRetMove, ap_getV, ap_setV, ap_getF, ap_setF, ap_mApp, ap_mClear, ap_mPut, ap_mSetL, ap_mPopD, ap_mSetFld, ap_mSetFldO, ap_mCallF, ap_mMethF, ap_mCallI, ap_mMethI, ap_mMethT, ap_mMake, ap_mIsi, ap_mRevS, ap_mLcK, ap_mNeg, ap_mLenSet, ap_mLenSetT, ap_mChain, ap_mGet2, ap_fnB, mskP, isLD_lst, isLD_dic, isIns_mk, items_lst, items_tup, items_str, items_scr, fAdd, fSub, fMul, fDiv, fMod, fLt, fLe, fGt, fGe, fEq, fNe, eqD, fIs, fIsNot, fIn, fNotIn, fIx, fLen, fMax, fMin, fSum, fAbs, fInt, fList, fTuple, fSl, fIsi, isTy, fJoin, e, c2, lb]
  · split <;> omega
  · split <;> omega
theorem forGo_step {mg : MG} {mb : MS} {d : D} {ds : List D} {s s1 s2 : Sl} (h1 : mg d s = some s1) (h2 : mb s1 = .ok .nx s2) : forGo mg mb (d :: ds) s = forGo mg mb ds s2 := by
  conv => lhs; unfold forGo
  rw [h1]
  dsimp only
  rw [h2]
end PP

set_option Elab.async false
set_option linter.all false
set_option maxRecDepth 100000
set_option maxHeartbeats 4000000
namespace PP
open MM PySem L2
/-! names, words, sums, sheets as the law makes them -/
def encN (nm : T) : D := .lst (nm.map fun c => .str [c])
theorem encN_at (nm : T) (i : Int) (h0 : 0 ≤ i) (h1 : i < nm.length) : ∃ c, c ∈ nm ∧ fIx (encN nm) (.int i) = some (.str [c]) := by
  have hl : i.toNat < nm.length := by omega
  refine ⟨nm[i.toNat], List.getElem_mem hl, ?_⟩
  unfold encN fIx
  dsimp only
  rw [atI_pos _ _ h0, List.getElem?_map, List.getElem?_eq_getElem hl]
  rfl
theorem word_loop (nm : T) (base : Int) (hb : 2 ≤ base) (hb2 : base ≤ 1000) (hn : (nm.length : Int) = base) : ∀ (j : Nat) (n : Int) (w : T) (fuel : Nat), 0 ≤ n → 1 ≤ j → j ≤ fuel → n < base ^ j → w.length + j ≤ 100 →
    ∃ (n' : Int) (w' : T), mWhile (mTest (mOp fGe (mVar 0) (mVar 1))) (mSeq (mAsg (mOp fDiv (mVar 0) (mVar 1)) (gmName 0))
      (mAsg (mOp fAdd (mOp fIx (mVar 2) (mOp fMod (mVar 0) (mVar 1))) (mVar 3)) (gmName 3))) fuel [some (.int n), some (.int base), some (encN nm), some (.str w)] = .ok .nx [some (.int n'), some (.int base), some (encN nm), some (.str (w' ++ w))] ∧
      w'.length + 1 ≤ j ∧ ∀ c, c ∈ w' → c ∈ nm := by
  intro j
  induction j with
  | zero => intro n w fuel h0 h1; omega
  | succ j ih =>
    intro n w fuel h0 h1 hf hlt hw
    obtain ⟨fuel, rfl⟩ : ∃ k, fuel = k + 1 := ⟨fuel - 1, by omega⟩
    unfold mWhile
    by_cases hge : base ≤ n
    · have hj : 1 ≤ j := by
        rcases Nat.eq_zero_or_pos j with e | e
        · subst e
          have h1p : base ^ (0 + 1) = base := by rw [Int.pow_succ, Int.pow_zero, Int.one_mul]
          rw [h1p] at hlt
          omega
        · exact e
      have hlt2 : n / base < base ^ j := by
        apply Int.ediv_lt_of_lt_mul (by omega)
        rw [Int.pow_succ] at hlt
        exact hlt
      have hr0 : 0 ≤ n / base % base := Int.emod_nonneg _ (by omega)
      have hr1 : n / base % base < base := Int.emod_lt_of_pos _ (by omega)
      obtain ⟨c, hc, ec⟩ := encN_at nm (n / base % base) hr0 (by omega)
      obtain ⟨n', w', e, h2, h3⟩ := ih (n / base) ([c] ++ w) fuel (Int.ediv_nonneg h0 (by omega)) hj (by omega) hlt2 (by simp; omega)
      have cd : CDiv n base := ⟨by omega, by omega⟩
      have hp : 0 < base := by omega
      have lb : 1 + w.length ≤ LB := Nat.le_trans (by omega : 1 + w.length ≤ 200) (by decide)
      refine ⟨n', w' ++ [c], ?_, by simp; omega, fun d hd => ?_⟩
      · have el : (w' ++ [c]) ++ w = w' ++ ([c] ++ w) := by simp
        rw [el]
        simp [bind_ok, bind_err, bind_exc, ofO_some, ofO_none, ap_mVar, ap_mC, ap_mOp, ap_mTest, ap_mAnd, ap_mOr, ap_mNot, ap_mAndV, ap_mOrV, ap_mNotV, ap_mIfE, ap_mNil, ap_mCons, ap_mTup, ap_mLst, ap_mCall, ap_mMeth, ap_mNoPart, ap_mPart, ap_mSl, ap_mFz, ap_mFzI, ap_mDnew, ap_gmName, ap_gmNil, ap_gmCons, ap_gmTup, ap_mSkip, ap_mSeq, ap_mErr, ap_mDrop, ap_mIf, ap_mRet, ap_mAsg, ap_mSetO, ap_mItems, ap_mRng1, ap_mRng2, ap_mRev, ap_mFor, ap_mLc, ap_mYes, ap_mFld, dFld, ap_mFldO, ap_mBor, mskFrom, mdOf, flatT, flatTs, ap_mBorT, ap_mMove, ap_mRetMove, ap_getV, ap_setV, ap_getF, ap_setF, ap_mApp, ap_mClear, ap_mPut, ap_mSetL, ap_mPopD, ap_mSetFld, ap_mSetFldO, ap_mCallF, ap_mMethF, ap_mCallI, ap_mMethI, ap_mMethT, ap_mMake, ap_mIsi, ap_mRevS, ap_mLcK, ap_mNeg, ap_mLenSet, ap_mLenSetT, ap_mChain, ap_mGet2, ap_fnB, mskP, isLD_lst, isLD_dic, isIns_mk, items_lst, items_tup, items_str, items_scr, fGe, fDiv, fMod, fAdd, hge, cd, hp, ec, lb]
        exact e
      · rcases List.mem_append.mp hd with q | q
        · exact h3 d q
        · rw [List.mem_singleton.mp q]; exact hc
    · refine ⟨n, [], ?_, by simp, fun c hc => by cases hc⟩
      simp [bind_ok, bind_err, bind_exc, ofO_some, ofO_none, ap_mVar, ap_mC, ap_mOp, ap_mTest, ap_mAnd, ap_mOr, ap_mNot, ap_mAndV, ap_mOrV, ap_mNotV, ap_mIfE, ap_mNil, ap_mCons, ap_mTup, ap_mLst, ap_mCall, ap_mMeth, ap_mNoPart, ap_mPart, ap_mSl, ap_mFz, ap_mFzI, ap_mDnew, ap_gmName, ap_gmNil, ap_gmCons, ap_gmTup, ap_mSkip, ap_mSeq, ap_mErr, ap_mDrop, ap_mIf, ap_mRet, ap_mAsg, ap_mSetO, ap_mItems, ap_mRng1, ap_mRng2, ap_mRev, ap_mFor, ap_mLc, ap_mYes, ap_mFld, dFld, ap_mFldO, ap_mBor, mskFrom, mdOf, flatT, flatTs, ap_mBorT, ap_mMove, ap_mRetMove, ap_getV, ap_setV, ap_getF, ap_setF, ap_mApp, ap_mClear, ap_mPut, ap_mSetL, ap_mPopD, ap_mSetFld, ap_mSetFldO, ap_mCallF, ap_mMethF, ap_mCallI, ap_mMethI, ap_mMethT, ap_mMake, ap_mIsi, ap_mRevS, ap_mLcK, ap_mNeg, ap_mLenSet, ap_mLenSetT, ap_mChain, ap_mGet2, ap_fnB, mskP, isLD_lst, isLD_dic, isIns_mk, items_lst, items_tup, items_str, items_scr, fGe, hge]
theorem word_spec (nm : T) (base n : Int) (hb : 2 ≤ base) (hb2 : base ≤ 1000) (hn : (nm.length : Int) = base) (h0 : 0 ≤ n) (k : Nat) (hk : 1 ≤ k) (hk2 : k ≤ 60) (hlt : n < base ^ k) :
    ∃ w : T, EV.law_word [some (.int n), some (.int base), some (encN nm)] = .ok (.str w) [none, none, none] ∧ w ≠ [] ∧ w.length ≤ k ∧ ∀ c, c ∈ w → c ∈ nm := by
  have hr0 : 0 ≤ n % base := Int.emod_nonneg _ (by omega)
  have hr1 : n % base < base := Int.emod_lt_of_pos _ (by omega)
  obtain ⟨c, hc, ec⟩ := encN_at nm (n % base) hr0 (by omega)
  obtain ⟨n', w', e, h2, h3⟩ := word_loop nm base hb hb2 hn k n [c] 64 h0 hk (by omega) hlt (by simp; omega)
  have hp : 0 < base := by omega
  refine ⟨w' ++ [c], ?_, by simp, by simp; omega, fun d hd => ?_⟩
  · unfold EV.law_word
    simp [bind_ok, bind_err, bind_exc, ofO_some, ofO_none, ap_mVar, ap_mC, ap_mOp, ap_mTest, ap_mAnd, ap_mOr, ap_mNot, ap_mAndV, ap_mOrV, ap_mNotV, ap_mIfE, ap_mNil, ap_mCons, ap_mTup, ap_mLst, ap_mCall, ap_mMeth, ap_mNoPart, ap_mPart, ap_mSl, ap_mFz, ap_mFzI, ap_mDnew, ap_gmName, ap_gmNil, ap_gmCons, ap_gmTup, ap_mSkip, ap_mSeq, ap_mErr, ap_mDrop, ap_mIf, ap_mRet, ap_mAsg, ap_mSetO, ap_mItems, ap_mRng1, ap_mRng2, ap_mRev, ap_mFor, ap_mLc, ap_mYes, ap_mFld, dFld, ap_mFldO, ap_mBor, mskFrom, mdOf, flatT, flatTs, ap_mBorT, ap_mMove, ap_mRetMove, ap_getV, ap_setV, ap_getF, ap_setF, ap_mApp, ap_mClear, ap_mPut, ap_mSetL, ap_mPopD, ap_mSetFld, ap_mSetFldO, ap_mCallF, ap_mMethF, ap_mCallI, ap_mMethI, ap_mMethT, ap_mMake, ap_mIsi, ap_mRevS, ap_mLcK, ap_mNeg, ap_mLenSet, ap_mLenSetT, ap_mChain, ap_mGet2, ap_fnB, mskP, isLD_lst, isLD_dic, isIns_mk, items_lst, items_tup, items_str, items_scr, fMod, hp, ec, e]
  · rcases List.mem_append.mp hd with q | q
    · exact h3 d q
    · rw [List.mem_singleton.mp q]; exact hc
/-- the names of the figures: base small letters -/
def Small (c : Nat) : Prop := 97 ≤ c ∧ c ≤ 122
theorem abc_at (i : Int) (h0 : 0 ≤ i) (h1 : i < 26) : fIx (.str [97, 98, 99, 100, 101, 102, 103, 104, 105, 106, 107, 108, 109, 110, 111, 112, 113, 114, 115, 116, 117, 118, 119, 120, 121, 122]) (.int i) = some (.str [97 + i.toNat]) := by
  obtain ⟨n, rfl⟩ := Int.eq_ofNat_of_zero_le h0
  have hn : n < 26 := by omega
  have key : ∀ m, m < 26 → ([97, 98, 99, 100, 101, 102, 103, 104, 105, 106, 107, 108, 109, 110, 111, 112, 113, 114, 115, 116, 117, 118, 119, 120, 121, 122] : T)[m]? = some (97 + m) := by decide
  unfold fIx
  dsimp only
  rw [MM.atI_nat, key n hn]
  rfl
theorem names_spec (d : D) (hd : Dice d) (base : Int) (hb : 0 ≤ base) (hb2 : base ≤ 1000) : ∃ nm d', EV.law_names [some d, some (.int base)] = .ok (encN nm) [some d', none] ∧ Dice d' ∧ (nm.length : Int) = base ∧ ∀ c, c ∈ nm → Small c := by
  obtain ⟨turn, d1, e1, t1, t2, hd1⟩ := next_spec d hd 26 (by omega) (by omega)
  obtain ⟨k, d2, e2, k1, k2, hd2⟩ := next_spec d1 hd1 6 (by omega) (by omega)
  obtain ⟨st, hst, hs0, hs1⟩ : ∃ st, atI [D.int 1, .int 3, .int 5, .int 7, .int 9, .int 11] k = some (.int st) ∧ 0 ≤ st ∧ st ≤ 11 := by
    have : k = 0 ∨ k = 1 ∨ k = 2 ∨ k = 3 ∨ k = 4 ∨ k = 5 := by omega
    rcases this with rfl | rfl | rfl | rfl | rfl | rfl
    · exact ⟨1, rfl, by decide, by decide⟩
    · exact ⟨3, rfl, by decide, by decide⟩
    · exact ⟨5, rfl, by decide, by decide⟩
    · exact ⟨7, rfl, by decide, by decide⟩
    · exact ⟨9, rfl, by decide, by decide⟩
    · exact ⟨11, rfl, by decide, by decide⟩
  have hlc := lcGo_inv (vs := [4]) (mg := gmName 4) (me := mOp fIx (mC (.str [97, 98, 99, 100, 101, 102, 103, 104, 105, 106, 107, 108, 109, 110, 111, 112, 113, 114, 115, 116, 117, 118, 119, 120, 121, 122])) (mOp fMod (mOp fAdd (mVar 2) (mOp fMul (mVar 3) (mVar 4))) (mC (.int 26))))
    (fun (done acc : List D) (s : Sl) => s = [some d2, some (.int base), some (.int turn), some (.int st), none] ∧ ∃ nm : T, acc = nm.map (fun c => .str [c]) ∧ nm.length = done.length ∧ ∀ c, c ∈ nm → Small c) (rangeD 0 base.toNat) [] [] _ ⟨rfl, [], rfl, rfl, fun c hc => by cases hc⟩ ?_
  rotate_left
  · skip
    rintro pre dd post acc s hall ⟨rfl, nm, rfl, hl, hs⟩
    have hmem : dd ∈ rangeD 0 base.toNat := by rw [List.nil_append] at hall; rw [hall]; simp
    unfold rangeD at hmem
    obtain ⟨i, hi, rfl⟩ := List.mem_map.mp hmem
    refine ⟨_, rfl, .str [97 + ((turn + st * (0 + (i : Int))) % 26).toNat], [some d2, some (.int base), some (.int turn), some (.int st), some (.int (0 + (i : Int)))], ?_, ?_⟩
    · have c1 : CMul st (0 + (i : Int)) := .inl ⟨by omega, by omega⟩
      have h26 : (0 : Int) < 26 := by decide
      have ha := abc_at ((turn + st * (0 + (i : Int))) % 26) (Int.emod_nonneg _ (by omega)) (Int.emod_lt_of_pos _ (by omega))
      simp only [Int.zero_add] at c1 ha ⊢
      simp [bind_ok, bind_err, bind_exc, ofO_some, ofO_none, ap_mVar, ap_mC, ap_mOp, ap_mTest, ap_mAnd, ap_mOr, ap_mNot, ap_mAndV, ap_mOrV, ap_mNotV, ap_mIfE, ap_mNil, ap_mCons, ap_mTup, ap_mLst, ap_mCall, ap_mMeth, ap_mNoPart, ap_mPart, ap_mSl, ap_mFz, ap_mFzI, ap_mDnew, ap_gmName, ap_gmNil, ap_gmCons, ap_gmTup, ap_mSkip, ap_mSeq, ap_mErr, ap_mDrop, ap_mIf, ap_mRet, ap_mAsg, ap_mSetO, ap_mItems, ap_mRng1, ap_mRng2, ap_mRev, ap_mFor, ap_mLc, ap_mYes, ap_mFld, dFld, ap_mFldO, ap_mBor, mskFrom, mdOf, flatT, flatTs, ap_mBorT, ap_mMove, ap_mRetMove, ap_getV, ap_setV, ap_getF, ap_setF, ap_mApp, ap_mClear, ap_mPut, ap_mSetL, ap_mPopD, ap_mSetFld, ap_mSetFldO, ap_mCallF, ap_mMethF, ap_mCallI, ap_mMethI, ap_mMethT, ap_mMake, ap_mIsi, ap_mRevS, ap_mLcK, ap_mNeg, ap_mLenSet, ap_mLenSetT, ap_mChain, ap_mGet2, ap_fnB, mskP, isLD_lst, isLD_dic, isIns_mk, items_lst, items_tup, items_str, items_scr, fMod, fAdd, fMul, c1, ha, wipeS]
    · refine ⟨rfl, nm ++ [97 + ((turn + st * (0 + (i : Int))) % 26).toNat], by simp, by simp [hl], fun c hc => ?_⟩
      rcases List.mem_append.mp hc with q | q
      · exact hs c q
      · rw [List.mem_singleton.mp q]
        have a1 : 0 ≤ (turn + st * (0 + (i : Int))) % 26 := Int.emod_nonneg _ (by omega)
        have a2 : (turn + st * (0 + (i : Int))) % 26 < 26 := Int.emod_lt_of_pos _ (by omega)
        exact ⟨by omega, by omega⟩
  obtain ⟨ys, s', e3, rfl, nm, rfl, hl, hs⟩ := hlc
  refine ⟨nm, d2, ?_, hd2, ?_, hs⟩
  · have hb3 : -(2 ^ 62) ≤ base ∧ base ≤ 1000000 := ⟨by omega, by omega⟩
    have lb : 6 ≤ LB := by decide
    unfold EV.law_names
    simp [bind_ok, bind_err, bind_exc, ofO_some, ofO_none, ap_mVar, ap_mC, ap_mOp, ap_mTest, ap_mAnd, ap_mOr, ap_mNot, ap_mAndV, ap_mOrV, ap_mNotV, ap_mIfE, ap_mNil, ap_mCons, ap_mTup, ap_mLst, ap_mCall, ap_mMeth, ap_mNoPart, ap_mPart, ap_mSl, ap_mFz, ap_mFzI, ap_mDnew, ap_gmName, ap_gmNil, ap_gmCons, ap_gmTup, ap_mSkip, ap_mSeq, ap_mErr, ap_mDrop, ap_mIf, ap_mRet, ap_mAsg, ap_mSetO, ap_mItems, ap_mRng1, ap_mRng2, ap_mRev, ap_mFor, ap_mLc, ap_mYes, ap_mFld, dFld, ap_mFldO, ap_mBor, mskFrom, mdOf, flatT, flatTs, ap_mBorT, ap_mMove, ap_mRetMove, ap_getV, ap_setV, ap_getF, ap_setF, ap_mApp, ap_mClear, ap_mPut, ap_mSetL, ap_mPopD, ap_mSetFld, ap_mSetFldO, ap_mCallF, ap_mMethF, ap_mCallI, ap_mMethI, ap_mMethT, ap_mMake, ap_mIsi, ap_mRevS, ap_mLcK, ap_mNeg, ap_mLenSet, ap_mLenSetT, ap_mChain, ap_mGet2, ap_fnB, mskP, isLD_lst, isLD_dic, isIns_mk, items_lst, items_tup, items_str, items_scr, fIx, e1, e2, hst, lb]
    simp at hb3
    simp [bind_ok, bind_err, bind_exc, ofO_some, ofO_none, ap_mVar, ap_mC, ap_mOp, ap_mTest, ap_mAnd, ap_mOr, ap_mNot, ap_mAndV, ap_mOrV, ap_mNotV, ap_mIfE, ap_mNil, ap_mCons, ap_mTup, ap_mLst, ap_mCall, ap_mMeth, ap_mNoPart, ap_mPart, ap_mSl, ap_mFz, ap_mFzI, ap_mDnew, ap_gmName, ap_gmNil, ap_gmCons, ap_gmTup, ap_mSkip, ap_mSeq, ap_mErr, ap_mDrop, ap_mIf, ap_mRet, ap_mAsg, ap_mSetO, ap_mItems, ap_mRng1, ap_mRng2, ap_mRev, ap_mFor, ap_mLc, ap_mYes, ap_mFld, dFld, ap_mFldO, ap_mBor, mskFrom, mdOf, flatT, flatTs, ap_mBorT, ap_mMove, ap_mRetMove, ap_getV, ap_setV, ap_getF, ap_setF, ap_mApp, ap_mClear, ap_mPut, ap_mSetL, ap_mPopD, ap_mSetFld, ap_mSetFldO, ap_mCallF, ap_mMethF, ap_mCallI, ap_mMethI, ap_mMethT, ap_mMake, ap_mIsi, ap_mRevS, ap_mLcK, ap_mNeg, ap_mLenSet, ap_mLenSetT, ap_mChain, ap_mGet2, ap_fnB, mskP, isLD_lst, isLD_dic, isIns_mk, items_lst, items_tup, items_str, items_scr, hb3, e3, encN]
  · rw [hl]
    simp [rangeD]
    omega
end PP

set_option Elab.async false
set_option linter.all false
set_option maxRecDepth 100000
set_option maxHeartbeats 4000000
namespace PP
open MM PySem L2
abbrev Su := List T × T
def encW (ws : List T) : D := .tup (ws.map D.str)
def encS (s : Su) : D := .tup [encW s.1, .str s.2]
def encSums (ss : List Su) : D := .lst (ss.map encS)
/-- a word of the names -/
def WordOf (nm : T) (k : Nat) (w : T) : Prop := w ≠ [] ∧ w.length ≤ k ∧ ∀ c, c ∈ w → c ∈ nm
theorem limits (base many : Int) (hb : 2 ≤ base) (hb2 : base ≤ 6) (h1 : 1 ≤ many) (h2 : many ≤ 4) : ∃ kk kt : Nat, 1 ≤ kk ∧ kk ≤ 6 ∧ 1 ≤ kt ∧ kt ≤ 6 ∧ (if base < 5 then base * base * base * base else base * base * base) ≤ base ^ kk ∧ many * (if base < 5 then base * base * base * base else base * base * base) ≤ base ^ kt := by
  have hm : many = 1 ∨ many = 2 ∨ many = 3 ∨ many = 4 := by omega
  have : base = 2 ∨ base = 3 ∨ base = 4 ∨ base = 5 ∨ base = 6 := by omega
  rcases this with rfl | rfl | rfl | rfl | rfl
  · exact ⟨4, 6, by decide, by decide, by decide, by decide, by decide, by rcases hm with rfl | rfl | rfl | rfl <;> decide⟩
  · exact ⟨4, 6, by decide, by decide, by decide, by decide, by decide, by rcases hm with rfl | rfl | rfl | rfl <;> decide⟩
  · exact ⟨4, 6, by decide, by decide, by decide, by decide, by decide, by rcases hm with rfl | rfl | rfl | rfl <;> decide⟩
  · exact ⟨3, 6, by decide, by decide, by decide, by decide, by decide, by rcases hm with rfl | rfl | rfl | rfl <;> decide⟩
  · exact ⟨3, 6, by decide, by decide, by decide, by decide, by decide, by rcases hm with rfl | rfl | rfl | rfl <;> decide⟩
theorem asInts_map (ns : List Int) : asInts (ns.map D.int) = some ns := by
  induction ns with
  | nil => rfl
  | cons n r ih =>
    rw [List.map_cons]
    unfold asInts
    rw [ih]
    rfl
theorem sum_lt (ns : List Int) (l : Int) (h : ∀ n, n ∈ ns → 0 ≤ n ∧ n < l) : 0 ≤ ns.sum ∧ (ns = [] ∨ ns.sum < ns.length * l) := by
  induction ns with
  | nil => exact ⟨by decide, .inl rfl⟩
  | cons n r ih =>
    obtain ⟨h1, h2⟩ := h n List.mem_cons_self
    obtain ⟨a, b⟩ := ih fun m hm => h m (List.mem_cons_of_mem _ hm)
    rw [List.sum_cons]
    refine ⟨by omega, .inr ?_⟩
    rcases b with rfl | b
    · simpa using h2
    · rw [List.length_cons]
      push_cast
      rw [Int.add_mul]
      omega
section
variable (nm : T) (base limit many : Int)
/-- the numbers -/
theorem numbers_lc (x5 x6 x8 x9 x10 : Option D) (hl : 0 < limit) (hl2 : limit < 1000000000) (d : D) (hd : Dice d) : ∃ (ns : List Int) (d' : D), lcGo [7] (gmName 7) mYes (mCallI 0 2 EV.law_next (mCons (mVar 3) mNil)) (rangeD 0 many.toNat) [some d, some (.int base), some (encN nm), some (.int limit), some (.int many), x5, x6, none, x8, x9, x10] [] =
      .ok (ns.map D.int) [some d', some (.int base), some (encN nm), some (.int limit), some (.int many), x5, x6, none, x8, x9, x10] ∧ Dice d' ∧ ns.length = many.toNat ∧ ∀ n, n ∈ ns → 0 ≤ n ∧ n < limit := by
  obtain ⟨ys, s', e, d', rfl, hd', ns, rfl, h1, h2⟩ := lcGo_inv (vs := [7]) (mg := gmName 7) (me := mCallI 0 2 EV.law_next (mCons (mVar 3) mNil))
    (fun done acc s => ∃ d', s = [some d', some (.int base), some (encN nm), some (.int limit), some (.int many), x5, x6, none, x8, x9, x10] ∧ Dice d' ∧ ∃ ns : List Int, acc = ns.map D.int ∧ ns.length = done.length ∧ ∀ n, n ∈ ns → 0 ≤ n ∧ n < limit)
    (rangeD 0 many.toNat) [] [] _ ⟨d, rfl, hd, [], rfl, rfl, fun n hn => by cases hn⟩ (by
      rintro pre dd post acc s hall ⟨d1, rfl, hd1, ns, rfl, hl1, hs⟩
      obtain ⟨r, d2, e2, r1, r2, hd2⟩ := next_spec d1 hd1 limit hl hl2
      refine ⟨_, rfl, .int r, [some d2, some (.int base), some (encN nm), some (.int limit), some (.int many), x5, x6, some dd, x8, x9, x10], ?_, ⟨d2, rfl, hd2, ns ++ [r], by simp, by simp [hl1], fun n hn => ?_⟩⟩
      · simp [bind_ok, bind_err, bind_exc, ofO_some, ofO_none, ap_mVar, ap_mC, ap_mOp, ap_mTest, ap_mAnd, ap_mOr, ap_mNot, ap_mAndV, ap_mOrV, ap_mNotV, ap_mIfE, ap_mNil, ap_mCons, ap_mTup, ap_mLst, ap_mCall, ap_mMeth, ap_mNoPart, ap_mPart, ap_mSl, ap_mFz, ap_mFzI, ap_mDnew, ap_gmName, ap_gmNil, ap_gmCons, ap_gmTup, ap_mSkip, ap_mSeq, ap_mErr, ap_mDrop, ap_mIf, ap_mRet, ap_mAsg, ap_mSetO, ap_mItems, ap_mRng1, ap_mRng2, ap_mRev, ap_mFor, ap_mLc, ap_mYes, ap_mFld, dFld, ap_mFldO, ap_mBor, mskFrom, mdOf, flatT, flatTs, ap_mBorT, ap_mMove, ap_mRetMove, ap_getV, ap_setV, ap_getF, ap_setF, ap_mApp, ap_mClear, ap_mPut, ap_mSetL, ap_mPopD, ap_mSetFld, ap_mSetFldO, ap_mCallF, ap_mMethF, ap_mCallI, ap_mMethI, ap_mMethT, ap_mMake, ap_mIsi, ap_mRevS, ap_mLcK, ap_mNeg, ap_mLenSet, ap_mLenSetT, ap_mChain, ap_mGet2, ap_fnB, mskP, isLD_lst, isLD_dic, isIns_mk, items_lst, items_tup, items_str, items_scr, wipeS, e2]
      · rcases List.mem_append.mp hn with q | q
        · exact hs n q
        · rw [List.mem_singleton.mp q]; exact ⟨r1, r2⟩)
  exact ⟨ns, d', e, hd', by rw [h1]; simp [rangeD], h2⟩
/-- their words -/
theorem words_lc (x0 x3 x4 x6 x7 x8 x10 : Option D) (hb : 2 ≤ base) (hb2 : base ≤ 12) (hn : (nm.length : Int) = base) (k : Nat) (hk : 1 ≤ k) (hk2 : k ≤ 6) (ns0 ns : List Int) (h : ∀ n, n ∈ ns → 0 ≤ n ∧ n < base ^ k) :
    ∃ ws : List T, lcGo [9] (gmName 9) mYes (mCallF 3 EV.law_word (mCons (mVar 9) (mCons (mVar 1) (mCons (mVar 2) mNil)))) (ns.map D.int) [x0, some (.int base), some (encN nm), x3, x4, some (.lst (ns0.map D.int)), x6, x7, x8, none, x10] [] =
      .ok (ws.map D.str) [x0, some (.int base), some (encN nm), x3, x4, some (.lst (ns0.map D.int)), x6, x7, x8, none, x10] ∧ ws.length = ns.length ∧ ∀ w, w ∈ ws → WordOf nm k w := by
  obtain ⟨ys, s', e, rfl, ws, rfl, h1, h2⟩ := lcGo_inv (vs := [9]) (mg := gmName 9) (me := mCallF 3 EV.law_word (mCons (mVar 9) (mCons (mVar 1) (mCons (mVar 2) mNil))))
    (fun done acc s => s = [x0, some (.int base), some (encN nm), x3, x4, some (.lst (ns0.map D.int)), x6, x7, x8, none, x10] ∧ ∃ ws : List T, acc = ws.map D.str ∧ ws.length = done.length ∧ ∀ w, w ∈ ws → WordOf nm k w)
    (ns.map D.int) [] [] _ ⟨rfl, [], rfl, rfl, fun n hn => by cases hn⟩ (by
      rintro pre dd post acc s hall ⟨rfl, ws, rfl, hl1, hs⟩
      have hmem : dd ∈ ns.map D.int := by rw [List.nil_append] at hall; rw [hall]; simp
      obtain ⟨n, hn1, rfl⟩ := List.mem_map.mp hmem
      obtain ⟨w, ew, w1, w2, w3⟩ := word_spec nm base n hb (by omega) hn (h n hn1).1 k hk (by omega) (h n hn1).2
      refine ⟨_, rfl, .str w, [x0, some (.int base), some (encN nm), x3, x4, some (.lst (ns0.map D.int)), x6, x7, x8, some (.int n), x10], ?_, ⟨rfl, ws ++ [w], by simp, by simp [hl1], fun v hv => ?_⟩⟩
      · simp [bind_ok, bind_err, bind_exc, ofO_some, ofO_none, ap_mVar, ap_mC, ap_mOp, ap_mTest, ap_mAnd, ap_mOr, ap_mNot, ap_mAndV, ap_mOrV, ap_mNotV, ap_mIfE, ap_mNil, ap_mCons, ap_mTup, ap_mLst, ap_mCall, ap_mMeth, ap_mNoPart, ap_mPart, ap_mSl, ap_mFz, ap_mFzI, ap_mDnew, ap_gmName, ap_gmNil, ap_gmCons, ap_gmTup, ap_mSkip, ap_mSeq, ap_mErr, ap_mDrop, ap_mIf, ap_mRet, ap_mAsg, ap_mSetO, ap_mItems, ap_mRng1, ap_mRng2, ap_mRev, ap_mFor, ap_mLc, ap_mYes, ap_mFld, dFld, ap_mFldO, ap_mBor, mskFrom, mdOf, flatT, flatTs, ap_mBorT, ap_mMove, ap_mRetMove, ap_getV, ap_setV, ap_getF, ap_setF, ap_mApp, ap_mClear, ap_mPut, ap_mSetL, ap_mPopD, ap_mSetFld, ap_mSetFldO, ap_mCallF, ap_mMethF, ap_mCallI, ap_mMethI, ap_mMethT, ap_mMake, ap_mIsi, ap_mRevS, ap_mLcK, ap_mNeg, ap_mLenSet, ap_mLenSetT, ap_mChain, ap_mGet2, ap_fnB, mskP, isLD_lst, isLD_dic, isIns_mk, items_lst, items_tup, items_str, items_scr, wipeS, ew]
      · rcases List.mem_append.mp hv with q | q
        · exact hs v q
        · rw [List.mem_singleton.mp q]; exact ⟨w1, w2, w3⟩)
  exact ⟨ws, e, by rw [h1]; simp, h2⟩
/-- letters drawn -/
theorem drawn_lc (x3 x4 x5 x6 x7 x8 x9 : Option D) (hb : 2 ≤ base) (hb2 : base ≤ 12) (hn : (nm.length : Int) = base) (m : Nat) (d : D) (hd : Dice d) :
    ∃ (w : T) (d' : D), lcGo [10] (gmName 10) mYes (mOp fIx (mVar 2) (mCallI 0 2 EV.law_next (mCons (mVar 1) mNil))) (rangeD 0 m) [some d, some (.int base), some (encN nm), x3, x4, x5, x6, x7, x8, x9, none] [] =
      .ok ((w.map fun c => [c]).map D.str) [some d', some (.int base), some (encN nm), x3, x4, x5, x6, x7, x8, x9, none] ∧ Dice d' ∧ w.length = m ∧ ∀ c, c ∈ w → c ∈ nm := by
  obtain ⟨ys, s', e, d', rfl, hd', w, rfl, h1, h2⟩ := lcGo_inv (vs := [10]) (mg := gmName 10) (me := mOp fIx (mVar 2) (mCallI 0 2 EV.law_next (mCons (mVar 1) mNil)))
    (fun done acc s => ∃ d', s = [some d', some (.int base), some (encN nm), x3, x4, x5, x6, x7, x8, x9, none] ∧ Dice d' ∧ ∃ w : T, acc = (w.map fun c => [c]).map D.str ∧ w.length = done.length ∧ ∀ c, c ∈ w → c ∈ nm)
    (rangeD 0 m) [] [] _ ⟨d, rfl, hd, [], rfl, rfl, fun n hn => by cases hn⟩ (by
      rintro pre dd post acc s hall ⟨d1, rfl, hd1, w, rfl, hl1, hs⟩
      obtain ⟨r, d2, e2, r1, r2, hd2⟩ := next_spec d1 hd1 base (by omega) (by omega)
      obtain ⟨c, hc, ec⟩ := encN_at nm r r1 (by omega)
      refine ⟨_, rfl, .str [c], [some d2, some (.int base), some (encN nm), x3, x4, x5, x6, x7, x8, x9, some dd], ?_, ⟨d2, rfl, hd2, w ++ [c], by simp, by simp [hl1], fun v hv => ?_⟩⟩
      · simp [bind_ok, bind_err, bind_exc, ofO_some, ofO_none, ap_mVar, ap_mC, ap_mOp, ap_mTest, ap_mAnd, ap_mOr, ap_mNot, ap_mAndV, ap_mOrV, ap_mNotV, ap_mIfE, ap_mNil, ap_mCons, ap_mTup, ap_mLst, ap_mCall, ap_mMeth, ap_mNoPart, ap_mPart, ap_mSl, ap_mFz, ap_mFzI, ap_mDnew, ap_gmName, ap_gmNil, ap_gmCons, ap_gmTup, ap_mSkip, ap_mSeq, ap_mErr, ap_mDrop, ap_mIf, ap_mRet, ap_mAsg, ap_mSetO, ap_mItems, ap_mRng1, ap_mRng2, ap_mRev, ap_mFor, ap_mLc, ap_mYes, ap_mFld, dFld, ap_mFldO, ap_mBor, mskFrom, mdOf, flatT, flatTs, ap_mBorT, ap_mMove, ap_mRetMove, ap_getV, ap_setV, ap_getF, ap_setF, ap_mApp, ap_mClear, ap_mPut, ap_mSetL, ap_mPopD, ap_mSetFld, ap_mSetFldO, ap_mCallF, ap_mMethF, ap_mCallI, ap_mMethI, ap_mMethT, ap_mMake, ap_mIsi, ap_mRevS, ap_mLcK, ap_mNeg, ap_mLenSet, ap_mLenSetT, ap_mChain, ap_mGet2, ap_fnB, mskP, isLD_lst, isLD_dic, isIns_mk, items_lst, items_tup, items_str, items_scr, wipeS, e2, ec]
      · rcases List.mem_append.mp hv with q | q
        · exact hs v q
        · rw [List.mem_singleton.mp q]; exact hc)
  exact ⟨w, d', e, hd', by rw [h1]; simp [rangeD], h2⟩
end
theorem textsD_map (ws : List T) : textsD (ws.map D.str) = some ws := by
  induction ws with
  | nil => rfl
  | cons w r ih =>
    rw [List.map_cons]
    unfold textsD
    rw [ih]
    rfl
theorem joinT_sing : ∀ w : T, joinT [] (w.map fun c => [c]) = w
  | [] => rfl
  | [c] => rfl
  | c :: d :: r => by
    show [c] ++ [] ++ joinT [] ((d :: r).map fun c => [c]) = c :: d :: r
    rw [joinT_sing (d :: r)]
    rfl
theorem fJoin_sing (w : T) (h : w.length ≤ 1000) : fJoin (.str []) [.lst ((w.map fun c => [c]).map D.str)] = some (.str w) := by
  unfold fJoin
  dsimp only
  rw [textsD_map]
  dsimp only
  have e : ((w.map fun c => ([c] : T)).map (·.length)).sum = w.length := by
    clear h
    induction w with
    | nil => rfl
    | cons c r ih =>
      rw [List.map_cons, List.map_cons, List.sum_cons, ih]
      simp
      omega
  rw [if_pos, joinT_sing]
  rw [e]
  simp
  exact Nat.le_trans h (by decide)
theorem flatTs_strs (ws : List T) : flatTs (ws.map D.str) = true := by
  induction ws with
  | nil => rfl
  | cons w r ih =>
    rw [List.map_cons]
    unfold flatTs
    rw [ih]
    rfl
def sumTail : MS :=
  (mSeq (mAsg (mFz (mLc (mRng1 (mCons (mVar 4) mNil)) [7] (gmName 7) mYes (mCallI 0 2 EV.law_next (mCons (mVar 3) mNil)))) (gmName 5))
  (mRet (mTup (mCons (mCall fTuple (mCons (mFz (mLc (mItems (mVar 5)) [9] (gmName 9) mYes (mCallF 3 EV.law_word (mCons (mVar 9) (mCons (mVar 1) (mCons (mVar 2) mNil)))))) mNil)) (mCons (mCallF 3 EV.law_word (mCons (mCall fSum (mCons (mVar 5) mNil)) (mCons (mVar 1) (mCons (mVar 2) mNil)))) mNil)))))
def sumDrawn : MS :=
  (mSeq (mSetO (mLst mNil) 6)
  (mSeq (mFor (mRng1 (mCons (mOp fAdd (mVar 4) (mC (.int 1))) mNil)) (gmName 7) (mSeq (mAsg (mOp fAdd (mC (.int 1)) (mCallI 0 2 EV.law_next (mCons (mC (.int 3)) mNil))) (gmName 8))
  (mSeq (mIf (mAnd (mTest (mOp fLt (mVar 1) (mC (.int 5)))) (mTest (mOp fEq (mCallI 0 2 EV.law_next (mCons (mC (.int 4)) mNil)) (mC (.int 3))))) (mAsg (mOp fAdd (mC (.int 1)) (mCallI 0 2 EV.law_next (mCons (mC (.int 6)) mNil))) (gmName 8)) mSkip)
  (mApp (getV 6) (setV 6) (mMeth isStr fJoin (mC (.str [])) (mCons (mFz (mLc (mRng1 (mCons (mVar 8) mNil)) [10] (gmName 10) mYes (mOp fIx (mVar 2) (mCallI 0 2 EV.law_next (mCons (mVar 1) mNil))))) mNil))))))
  (mRet (mTup (mCons (mBor [.pin, .frz, .frz, .frz, .frz, .frz, .own, .frz, .frz, .frz, .frz] 6 (mCall fTuple (mCons (mSl (mVar 6) (mPart (mC (.int 1))) mNoPart) mNil))) (mCons (mBor [.pin, .frz, .frz, .frz, .frz, .frz, .own, .frz, .frz, .frz, .frz] 6 (mOp fIx (mVar 6) (mC (.int 0)))) mNil))))))
theorem law_sum_eq : EV.law_sum = fnB [.pin, .frz, .frz] false 8
  (mSeq (mAsg (mOp fMul (mOp fMul (mVar 1) (mVar 1)) (mVar 1)) (gmName 3))
  (mSeq (mIf (mTest (mOp fLt (mVar 1) (mC (.int 5)))) (mAsg (mOp fMul (mVar 3) (mVar 1)) (gmName 3)) mSkip)
  (mSeq (mAsg (mOp fAdd (mC (.int 1)) (mCallI 0 2 EV.law_next (mCons (mC (.int 4)) mNil))) (gmName 4))
  (mSeq (mIf (mTest (mOp fGt (mVar 1) (mC (.int 6)))) (mSeq (mAsg (mVar 1) (gmName 3))
  (mAsg (mC (.int 2)) (gmName 4))) mSkip)
  (mSeq (mIf (mAnd (mTest (mOp fEq (mCallI 0 2 EV.law_next (mCons (mC (.int 4)) mNil)) (mC (.int 3)))) (mTest (mOp fLt (mVar 1) (mC (.int 7))))) sumDrawn mSkip)
  sumTail))))) := rfl
theorem sumTail_spec (nm : T) (base limit many : Int) (hb : 2 ≤ base) (hb2 : base ≤ 12) (hn : (nm.length : Int) = base) (hl : 0 < limit) (hl2 : limit < 1000000000) (hm : 1 ≤ many) (hm2 : many ≤ 4) (kk kt : Nat) (h1 : 1 ≤ kk) (h2 : kk ≤ 6) (h3 : 1 ≤ kt) (h4 : kt ≤ 6)
    (h5 : limit ≤ base ^ kk) (h6 : many * limit ≤ base ^ kt) (d : D) (hd : Dice d) : ∃ (ws : List T) (t : T) (d' : D) (s' : Sl), sumTail [some d, some (.int base), some (encN nm), some (.int limit), some (.int many), none, none, none, none, none, none] = .ok (.rt (encS (ws, t))) (some d' :: some (.int base) :: some (encN nm) :: s') ∧ Dice d' ∧
      (ws.length : Int) = many ∧ (∀ w, w ∈ ws → WordOf nm kk w) ∧ WordOf nm kt t := by
  obtain ⟨ns, d1, e1, hd1, l1, b1⟩ := numbers_lc nm base limit many none none none none none hl hl2 d hd
  obtain ⟨ws, e2, l2, b2⟩ := words_lc nm base (some d1) (some (.int limit)) (some (.int many)) none none none none hb hb2 hn kk h1 h2 ns ns fun n hn => ⟨(b1 n hn).1, Int.lt_of_lt_of_le (b1 n hn).2 h5⟩
  have hsum := sum_lt ns limit b1
  have hne : ns ≠ [] := fun e => by rw [e] at l1; simp at l1; omega
  have hs2 : ns.sum < base ^ kt := by
    rcases hsum.2 with e | e
    · exact absurd e hne
    · refine Int.lt_of_lt_of_le (Int.lt_of_lt_of_le e ?_) h6
      rw [l1]
      have : ((many.toNat : Nat) : Int) = many := by omega
      rw [this]
      exact Int.le_refl _
  obtain ⟨t, et, t1, t2, t3⟩ := word_spec nm base ns.sum hb (by omega) hn hsum.1 kt h3 (by omega) hs2
  refine ⟨ws, t, d1, [some (.int limit), some (.int many), some (.lst (ns.map D.int)), none, none, none, none, none], ?_, hd1, by rw [l2, l1]; omega, b2, t1, t2, t3⟩
  unfold sumTail
  have lb : 2 ≤ LB := by decide
  have hm3 : -4611686018427387904 ≤ many ∧ many ≤ 1000000 := ⟨by omega, by omega⟩
  simp [bind_ok, bind_err, bind_exc, ofO_some, ofO_none, ap_mVar, ap_mC, ap_mOp, ap_mTest, ap_mAnd, ap_mOr, ap_mNot, ap_mAndV, ap_mOrV, ap_mNotV, ap_mIfE, ap_mNil, ap_mCons, ap_mTup, ap_mLst, ap_mCall, ap_mMeth, ap_mNoPart, ap_mPart, ap_mSl, ap_mFz, ap_mFzI, ap_mDnew, ap_gmName, ap_gmNil, ap_gmCons, ap_gmTup, ap_mSkip, ap_mSeq, ap_mErr, ap_mDrop, ap_mIf, ap_mRet, ap_mAsg, ap_mSetO, ap_mItems, ap_mRng1, ap_mRng2, ap_mRev, ap_mFor, ap_mLc, ap_mYes, ap_mFld, dFld, ap_mFldO, ap_mBor, mskFrom, mdOf, flatT, flatTs, ap_mBorT, ap_mMove, ap_mRetMove, ap_getV, ap_setV, ap_getF, ap_setF, ap_mApp, ap_mClear, ap_mPut, ap_mSetL, ap_mPopD, ap_mSetFld, ap_mSetFldO, ap_mCallF, ap_mMethF, ap_mCallI, ap_mMethI, ap_mMethT, ap_mMake, ap_mIsi, ap_mRevS, ap_mLcK, ap_mNeg, ap_mLenSet, ap_mLenSetT, ap_mChain, ap_mGet2, ap_fnB, mskP, isLD_lst, isLD_dic, isIns_mk, items_lst, items_tup, items_str, items_scr, e1, hm3, e2, fTuple, fSum, asInts_map, et, lb, encS, encW]
theorem sumDrawn_spec (nm : T) (base limit many : Int) (hb : 2 ≤ base) (hb2 : base ≤ 12) (hn : (nm.length : Int) = base) (hm : 1 ≤ many) (hm2 : many ≤ 4) (d : D) (hd : Dice d) :
    ∃ (ws : List T) (t : T) (d' : D) (s' : Sl), sumDrawn [some d, some (.int base), some (encN nm), some (.int limit), some (.int many), none, none, none, none, none, none] = .ok (.rt (encS (ws, t))) (some d' :: some (.int base) :: some (encN nm) :: s') ∧ Dice d' ∧
      (ws.length : Int) = many ∧ (∀ w, w ∈ ws → WordOf nm 6 w) ∧ WordOf nm 6 t := by
  have loop := forGo_inv (mg := gmName 7) (mb := (mSeq (mAsg (mOp fAdd (mC (.int 1)) (mCallI 0 2 EV.law_next (mCons (mC (.int 3)) mNil))) (gmName 8))
  (mSeq (mIf (mAnd (mTest (mOp fLt (mVar 1) (mC (.int 5)))) (mTest (mOp fEq (mCallI 0 2 EV.law_next (mCons (mC (.int 4)) mNil)) (mC (.int 3))))) (mAsg (mOp fAdd (mC (.int 1)) (mCallI 0 2 EV.law_next (mCons (mC (.int 6)) mNil))) (gmName 8)) mSkip)
  (mApp (getV 6) (setV 6) (mMeth isStr fJoin (mC (.str [])) (mCons (mFz (mLc (mRng1 (mCons (mVar 8) mNil)) [10] (gmName 10) mYes (mOp fIx (mVar 2) (mCallI 0 2 EV.law_next (mCons (mVar 1) mNil))))) mNil))))))
    (fun done s => ∃ (d' : D) (ws : List T) (x7 x8 : Option D), s = [some d', some (.int base), some (encN nm), some (.int limit), some (.int many), none, some (.lst (ws.map D.str)), x7, x8, none, none] ∧ Dice d' ∧ ws.length = done.length ∧ ∀ w, w ∈ ws → WordOf nm 6 w)
    (rangeD 0 (many + 1).toNat) [] [some d, some (.int base), some (encN nm), some (.int limit), some (.int many), none, some (.lst []), none, none, none, none] ⟨d, [], none, none, rfl, hd, rfl, fun w hw => by cases hw⟩ (by
      rintro pre dd post s hall ⟨d1, ws, x7, x8, rfl, hd1, hl, hw⟩
      obtain ⟨r, d2, e2, r1, r2, hd2⟩ := next_spec d1 hd1 3 (by omega) (by omega)
      have hlen : ws.length < LB := by
        have : pre.length < (many + 1).toNat := by
          have := congrArg List.length hall
          simp [rangeD] at this
          omega
        exact Nat.lt_of_lt_of_le (by omega : ws.length < 10) (by decide)
      have fin : ∀ (d3 : D), Dice d3 → ∀ z : Int, 1 ≤ z → z ≤ 6 → ∃ s2 : Sl, mApp (getV 6) (setV 6) (mMeth isStr fJoin (mC (.str [])) (mCons (mFz (mLc (mRng1 (mCons (mVar 8) mNil)) [10] (gmName 10) mYes (mOp fIx (mVar 2) (mCallI 0 2 EV.law_next (mCons (mVar 1) mNil))))) mNil))
          [some d3, some (.int base), some (encN nm), some (.int limit), some (.int many), none, some (.lst (ws.map D.str)), some dd, some (.int z), none, none] = .ok .nx s2 ∧
          ∃ (d' : D) (ws' : List T) (x7 x8 : Option D), s2 = [some d', some (.int base), some (encN nm), some (.int limit), some (.int many), none, some (.lst (ws'.map D.str)), x7, x8, none, none] ∧ Dice d' ∧ ws'.length = (pre ++ [dd]).length ∧ ∀ w, w ∈ ws' → WordOf nm 6 w := by
        intro d3 hd3 z z1 z2
        obtain ⟨w, d4, e4, hd4, l4, m4⟩ := drawn_lc nm base (some (.int limit)) (some (.int many)) none (some (.lst (ws.map D.str))) (some dd) (some (.int z)) none hb hb2 hn z.toNat d3 hd3
        have ej := fJoin_sing w (by omega)
        have hz : -4611686018427387904 ≤ z ∧ z ≤ 1000000 := ⟨by omega, by omega⟩
        refine ⟨[some d4, some (.int base), some (encN nm), some (.int limit), some (.int many), none, some (.lst ((ws ++ [w]).map D.str)), some dd, some (.int z), none, none], ?_, d4, ws ++ [w], some dd, some (.int z), rfl, hd4, by simp [hl], fun v hv => ?_⟩
        · simp [bind_ok, bind_err, bind_exc, ofO_some, ofO_none, ap_mVar, ap_mC, ap_mOp, ap_mTest, ap_mAnd, ap_mOr, ap_mNot, ap_mAndV, ap_mOrV, ap_mNotV, ap_mIfE, ap_mNil, ap_mCons, ap_mTup, ap_mLst, ap_mCall, ap_mMeth, ap_mNoPart, ap_mPart, ap_mSl, ap_mFz, ap_mFzI, ap_mDnew, ap_gmName, ap_gmNil, ap_gmCons, ap_gmTup, ap_mSkip, ap_mSeq, ap_mErr, ap_mDrop, ap_mIf, ap_mRet, ap_mAsg, ap_mSetO, ap_mItems, ap_mRng1, ap_mRng2, ap_mRev, ap_mFor, ap_mLc, ap_mYes, ap_mFld, dFld, ap_mFldO, ap_mBor, mskFrom, mdOf, flatT, flatTs, ap_mBorT, ap_mMove, ap_mRetMove, ap_getV, ap_setV, ap_getF, ap_setF, ap_mApp, ap_mClear, ap_mPut, ap_mSetL, ap_mPopD, ap_mSetFld, ap_mSetFldO, ap_mCallF, ap_mMethF, ap_mCallI, ap_mMethI, ap_mMethT, ap_mMake, ap_mIsi, ap_mRevS, ap_mLcK, ap_mNeg, ap_mLenSet, ap_mLenSetT, ap_mChain, ap_mGet2, ap_fnB, mskP, isLD_lst, isLD_dic, isIns_mk, items_lst, items_tup, items_str, items_scr, hz, isStr]
          simp at e4 ej
          simp [bind_ok, bind_err, bind_exc, ofO_some, ofO_none, ap_mVar, ap_mC, ap_mOp, ap_mTest, ap_mAnd, ap_mOr, ap_mNot, ap_mAndV, ap_mOrV, ap_mNotV, ap_mIfE, ap_mNil, ap_mCons, ap_mTup, ap_mLst, ap_mCall, ap_mMeth, ap_mNoPart, ap_mPart, ap_mSl, ap_mFz, ap_mFzI, ap_mDnew, ap_gmName, ap_gmNil, ap_gmCons, ap_gmTup, ap_mSkip, ap_mSeq, ap_mErr, ap_mDrop, ap_mIf, ap_mRet, ap_mAsg, ap_mSetO, ap_mItems, ap_mRng1, ap_mRng2, ap_mRev, ap_mFor, ap_mLc, ap_mYes, ap_mFld, dFld, ap_mFldO, ap_mBor, mskFrom, mdOf, flatT, flatTs, ap_mBorT, ap_mMove, ap_mRetMove, ap_getV, ap_setV, ap_getF, ap_setF, ap_mApp, ap_mClear, ap_mPut, ap_mSetL, ap_mPopD, ap_mSetFld, ap_mSetFldO, ap_mCallF, ap_mMethF, ap_mCallI, ap_mMethI, ap_mMethT, ap_mMake, ap_mIsi, ap_mRevS, ap_mLcK, ap_mNeg, ap_mLenSet, ap_mLenSetT, ap_mChain, ap_mGet2, ap_fnB, mskP, isLD_lst, isLD_dic, isIns_mk, items_lst, items_tup, items_str, items_scr, e4, ej, hlen]
        · rcases List.mem_append.mp hv with q | q
          · exact hw v q
          · rw [List.mem_singleton.mp q]
            exact ⟨fun e => by rw [e] at l4; simp at l4; omega, by omega, m4⟩
      refine ⟨_, rfl, ?_⟩
      by_cases hb5 : base < 5
      · obtain ⟨r3, d3, e3, r31, r32, hd3⟩ := next_spec d2 hd2 4 (by omega) (by omega)
        by_cases h3 : r3 = 3
        · subst h3
          obtain ⟨r4, d4, e4, r41, r42, hd4⟩ := next_spec d3 hd3 6 (by omega) (by omega)
          obtain ⟨s2, es, q⟩ := fin d4 hd4 (1 + r4) (by omega) (by omega)
          refine ⟨s2, ?_, q⟩
          simp [ap_mSeq, ap_mIf, es, ap_mAsg, ap_mOp, ap_mC, ap_mCallI, ap_mCons, ap_mNil, bind_ok, ofO_some, e2, e3, e4, fAdd, ap_gmName, ap_mAnd, ap_mTest, ap_mVar, fLt, hb5, fEq, eqD]
        · obtain ⟨s2, es, q⟩ := fin d3 hd3 (1 + r) (by omega) (by omega)
          refine ⟨s2, ?_, q⟩
          simp [ap_mSeq, ap_mIf, es, ap_mAsg, ap_mOp, ap_mC, ap_mCallI, ap_mCons, ap_mNil, bind_ok, ofO_some, e2, e3, fAdd, ap_gmName, ap_mAnd, ap_mTest, ap_mVar, fLt, hb5, fEq, eqD, h3, ap_mSkip]
      · obtain ⟨s2, es, q⟩ := fin d2 hd2 (1 + r) (by omega) (by omega)
        refine ⟨s2, ?_, q⟩
        simp [ap_mSeq, ap_mIf, es, ap_mAsg, ap_mOp, ap_mC, ap_mCallI, ap_mCons, ap_mNil, bind_ok, ofO_some, e2, fAdd, ap_gmName, ap_mAnd, ap_mTest, ap_mVar, fLt, hb5, ap_mSkip])
  obtain ⟨s1, e1, d1, ws, x7, x8, rfl, hd1, hl, hw⟩ := loop
  have hlen : (ws.length : Int) = many + 1 := by
    rw [hl]
    simp [rangeD]
    omega
  cases ws with
  | nil => simp at hlen; omega
  | cons t ws =>
    have hc : fSl (.lst ((t :: ws).map D.str)) (some 1) none = some (.lst (ws.map D.str)) := by
      unfold fSl cutD
      simp [HT.sIx]
      rw [List.take_of_length_le (by simp)]
    refine ⟨ws, t, d1, [some (.int limit), some (.int many), none, some (.lst ((t :: ws).map D.str)), x7, x8, none, none], ?_, hd1, by simp at hlen; omega, fun w h => hw w (List.mem_cons_of_mem _ h), hw t List.mem_cons_self⟩
    have lb : 2 ≤ LB := by decide
    have hm3 : -4611686018427387904 ≤ many + 1 ∧ many + 1 ≤ 1000000 := ⟨by omega, by omega⟩
    unfold sumDrawn
    simp at e1 hc hm3
    simp [bind_ok, bind_err, bind_exc, ofO_some, ofO_none, ap_mVar, ap_mC, ap_mOp, ap_mTest, ap_mAnd, ap_mOr, ap_mNot, ap_mAndV, ap_mOrV, ap_mNotV, ap_mIfE, ap_mNil, ap_mCons, ap_mTup, ap_mLst, ap_mCall, ap_mMeth, ap_mNoPart, ap_mPart, ap_mSl, ap_mFz, ap_mFzI, ap_mDnew, ap_gmName, ap_gmNil, ap_gmCons, ap_gmTup, ap_mSkip, ap_mSeq, ap_mErr, ap_mDrop, ap_mIf, ap_mRet, ap_mAsg, ap_mSetO, ap_mItems, ap_mRng1, ap_mRng2, ap_mRev, ap_mFor, ap_mLc, ap_mYes, ap_mFld, dFld, ap_mFldO, ap_mBor, mskFrom, mdOf, flatT, flatTs, ap_mBorT, ap_mMove, ap_mRetMove, ap_getV, ap_setV, ap_getF, ap_setF, ap_mApp, ap_mClear, ap_mPut, ap_mSetL, ap_mPopD, ap_mSetFld, ap_mSetFldO, ap_mCallF, ap_mMethF, ap_mCallI, ap_mMethI, ap_mMethT, ap_mMake, ap_mIsi, ap_mRevS, ap_mLcK, ap_mNeg, ap_mLenSet, ap_mLenSetT, ap_mChain, ap_mGet2, ap_fnB, mskP, isLD_lst, isLD_dic, isIns_mk, items_lst, items_tup, items_str, items_scr, fAdd, hm3, e1, hc, fTuple, fIx, MM.atI_pos, encS, encW, lb, flatTs_strs]
/-- a sum as the law makes it -/
structure SuOk (nm : T) (base : Int) (s : Su) : Prop where
  few : 1 ≤ s.1.length
  most : s.1.length ≤ 4
  ws : ∀ w, w ∈ s.1 → WordOf nm 6 w
  t : WordOf nm 6 s.2
  wide : 7 ≤ base → s.1.length = 2 ∧ (∀ w, w ∈ s.1 → w.length ≤ 1) ∧ s.2.length ≤ 2
theorem WordOf.mono {nm w : T} {k j : Nat} (h : WordOf nm k w) (hk : k ≤ j) : WordOf nm j w := ⟨h.1, Nat.le_trans h.2.1 hk, h.2.2⟩
theorem sum_spec (nm : T) (base : Int) (hb : 2 ≤ base) (hb2 : base ≤ 12) (hn : (nm.length : Int) = base) (d : D) (hd : Dice d) :
    ∃ (s : Su) (d' : D), EV.law_sum [some d, some (.int base), some (encN nm)] = .ok (encS s) [some d', none, none] ∧ Dice d' ∧ SuOk nm base s := by
  have c1 : CMul base base := .inl ⟨by omega, by omega⟩
  have bb : base * base ≤ 144 ∧ 0 ≤ base * base := by
    have : base = 2 ∨ base = 3 ∨ base = 4 ∨ base = 5 ∨ base = 6 ∨ base = 7 ∨ base = 8 ∨ base = 9 ∨ base = 10 ∨ base = 11 ∨ base = 12 := by omega
    rcases this with rfl | rfl | rfl | rfl | rfl | rfl | rfl | rfl | rfl | rfl | rfl <;> decide
  have c2 : CMul (base * base) base := .inr ⟨by omega, by omega⟩
  have c3 : CMul (base * base * base) base := .inr ⟨by omega, by omega⟩
  obtain ⟨r, d1, e1, r1, r2, hd1⟩ := next_spec d hd 4 (by omega) (by omega)
  obtain ⟨q, d2, e2, q1, q2, hd2⟩ := next_spec d1 hd1 4 (by omega) (by omega)
  rw [law_sum_eq]
  by_cases h7 : 7 ≤ base
  · obtain ⟨ws, t, d3, s', es, hd3, l, w, wt⟩ := sumTail_spec nm base base 2 hb hb2 hn (by omega) (by omega) (by omega) (by omega) 1 2 (by omega) (by omega) (by omega) (by omega) (by rw [Int.pow_succ, Int.pow_zero, Int.one_mul]; exact Int.le_refl _) (by
      rw [Int.pow_succ, Int.pow_succ, Int.pow_zero, Int.one_mul]
      exact Int.mul_le_mul_of_nonneg_right (by omega) (by omega)) d2 hd2
    refine ⟨(ws, t), d3, ?_, hd3, by simp; omega, by simp; omega, fun v hv => (w v hv).mono (by omega), wt.mono (by omega), fun _ => ⟨by simp; omega, fun v hv => (w v hv).2.1, wt.2.1⟩⟩
    have h5 : ¬ base < 5 := by omega
    have h6 : 6 < base := by omega
    have h8 : ¬ base < 7 := by omega
    simp [bind_ok, bind_err, bind_exc, ofO_some, ofO_none, ap_mVar, ap_mC, ap_mOp, ap_mTest, ap_mAnd, ap_mOr, ap_mNot, ap_mAndV, ap_mOrV, ap_mNotV, ap_mIfE, ap_mNil, ap_mCons, ap_mTup, ap_mLst, ap_mCall, ap_mMeth, ap_mNoPart, ap_mPart, ap_mSl, ap_mFz, ap_mFzI, ap_mDnew, ap_gmName, ap_gmNil, ap_gmCons, ap_gmTup, ap_mSkip, ap_mSeq, ap_mErr, ap_mDrop, ap_mIf, ap_mRet, ap_mAsg, ap_mSetO, ap_mItems, ap_mRng1, ap_mRng2, ap_mRev, ap_mFor, ap_mLc, ap_mYes, ap_mFld, dFld, ap_mFldO, ap_mBor, mskFrom, mdOf, flatT, flatTs, ap_mBorT, ap_mMove, ap_mRetMove, ap_getV, ap_setV, ap_getF, ap_setF, ap_mApp, ap_mClear, ap_mPut, ap_mSetL, ap_mPopD, ap_mSetFld, ap_mSetFldO, ap_mCallF, ap_mMethF, ap_mCallI, ap_mMethI, ap_mMethT, ap_mMake, ap_mIsi, ap_mRevS, ap_mLcK, ap_mNeg, ap_mLenSet, ap_mLenSetT, ap_mChain, ap_mGet2, ap_fnB, mskP, isLD_lst, isLD_dic, isIns_mk, items_lst, items_tup, items_str, items_scr, fAdd, fMul, fLt, fGt, fEq, eqD, c1, c2, h5, h6, h8, e1, e2, es]
  · have h5 : ¬ 6 < base := by omega
    have h8 : base < 7 := by omega
    by_cases hq : q = 3
    · subst hq
      by_cases hb5 : base < 5
      · obtain ⟨ws, t, d3, s', es, hd3, l, w, wt⟩ := sumDrawn_spec nm base (base * base * base * base) (1 + r) hb hb2 hn (by omega) (by omega) d2 hd2
        refine ⟨(ws, t), d3, ?_, hd3, by simp; omega, by simp; omega, w, wt, fun h => absurd h h7⟩
        simp [bind_ok, bind_err, bind_exc, ofO_some, ofO_none, ap_mVar, ap_mC, ap_mOp, ap_mTest, ap_mAnd, ap_mOr, ap_mNot, ap_mAndV, ap_mOrV, ap_mNotV, ap_mIfE, ap_mNil, ap_mCons, ap_mTup, ap_mLst, ap_mCall, ap_mMeth, ap_mNoPart, ap_mPart, ap_mSl, ap_mFz, ap_mFzI, ap_mDnew, ap_gmName, ap_gmNil, ap_gmCons, ap_gmTup, ap_mSkip, ap_mSeq, ap_mErr, ap_mDrop, ap_mIf, ap_mRet, ap_mAsg, ap_mSetO, ap_mItems, ap_mRng1, ap_mRng2, ap_mRev, ap_mFor, ap_mLc, ap_mYes, ap_mFld, dFld, ap_mFldO, ap_mBor, mskFrom, mdOf, flatT, flatTs, ap_mBorT, ap_mMove, ap_mRetMove, ap_getV, ap_setV, ap_getF, ap_setF, ap_mApp, ap_mClear, ap_mPut, ap_mSetL, ap_mPopD, ap_mSetFld, ap_mSetFldO, ap_mCallF, ap_mMethF, ap_mCallI, ap_mMethI, ap_mMethT, ap_mMake, ap_mIsi, ap_mRevS, ap_mLcK, ap_mNeg, ap_mLenSet, ap_mLenSetT, ap_mChain, ap_mGet2, ap_fnB, mskP, isLD_lst, isLD_dic, isIns_mk, items_lst, items_tup, items_str, items_scr, fAdd, fMul, fLt, fGt, fEq, eqD, c1, c2, c3, hb5, h5, h8, e1, e2, es]
      · obtain ⟨ws, t, d3, s', es, hd3, l, w, wt⟩ := sumDrawn_spec nm base (base * base * base) (1 + r) hb hb2 hn (by omega) (by omega) d2 hd2
        refine ⟨(ws, t), d3, ?_, hd3, by simp; omega, by simp; omega, w, wt, fun h => absurd h h7⟩
        simp [bind_ok, bind_err, bind_exc, ofO_some, ofO_none, ap_mVar, ap_mC, ap_mOp, ap_mTest, ap_mAnd, ap_mOr, ap_mNot, ap_mAndV, ap_mOrV, ap_mNotV, ap_mIfE, ap_mNil, ap_mCons, ap_mTup, ap_mLst, ap_mCall, ap_mMeth, ap_mNoPart, ap_mPart, ap_mSl, ap_mFz, ap_mFzI, ap_mDnew, ap_gmName, ap_gmNil, ap_gmCons, ap_gmTup, ap_mSkip, ap_mSeq, ap_mErr, ap_mDrop, ap_mIf, ap_mRet, ap_mAsg, ap_mSetO, ap_mItems, ap_mRng1, ap_mRng2, ap_mRev, ap_mFor, ap_mLc, ap_mYes, ap_mFld, dFld, ap_mFldO, ap_mBor, mskFrom, mdOf, flatT, flatTs, ap_mBorT, ap_mMove, ap_mRetMove, ap_getV, ap_setV, ap_getF, ap_setF, ap_mApp, ap_mClear, ap_mPut, ap_mSetL, ap_mPopD, ap_mSetFld, ap_mSetFldO, ap_mCallF, ap_mMethF, ap_mCallI, ap_mMethI, ap_mMethT, ap_mMake, ap_mIsi, ap_mRevS, ap_mLcK, ap_mNeg, ap_mLenSet, ap_mLenSetT, ap_mChain, ap_mGet2, ap_fnB, mskP, isLD_lst, isLD_dic, isIns_mk, items_lst, items_tup, items_str, items_scr, fAdd, fMul, fLt, fGt, fEq, eqD, c1, c2, c3, hb5, h5, h8, e1, e2, es]
    · obtain ⟨kk, kt, k1, k2, k3, k4, k5, k6⟩ := limits base (1 + r) hb (by omega) (by omega) (by omega)
      have hpos : 0 < base * base * base ∧ base * base * base * base ≤ 1296 ∧ base * base * base ≤ 1296 ∧ 0 < base * base * base * base := by
        have : base = 2 ∨ base = 3 ∨ base = 4 ∨ base = 5 ∨ base = 6 := by omega
        rcases this with rfl | rfl | rfl | rfl | rfl <;> decide
      by_cases hb5 : base < 5
      · rw [if_pos hb5] at k5 k6
        obtain ⟨ws, t, d3, s', es, hd3, l, w, wt⟩ := sumTail_spec nm base (base * base * base * base) (1 + r) hb hb2 hn hpos.2.2.2 (by omega) (by omega) (by omega) kk kt k1 k2 k3 k4 k5 k6 d2 hd2
        refine ⟨(ws, t), d3, ?_, hd3, by simp; omega, by simp; omega, fun v hv => (w v hv).mono (by omega), wt.mono (by omega), fun h => absurd h h7⟩
        simp [bind_ok, bind_err, bind_exc, ofO_some, ofO_none, ap_mVar, ap_mC, ap_mOp, ap_mTest, ap_mAnd, ap_mOr, ap_mNot, ap_mAndV, ap_mOrV, ap_mNotV, ap_mIfE, ap_mNil, ap_mCons, ap_mTup, ap_mLst, ap_mCall, ap_mMeth, ap_mNoPart, ap_mPart, ap_mSl, ap_mFz, ap_mFzI, ap_mDnew, ap_gmName, ap_gmNil, ap_gmCons, ap_gmTup, ap_mSkip, ap_mSeq, ap_mErr, ap_mDrop, ap_mIf, ap_mRet, ap_mAsg, ap_mSetO, ap_mItems, ap_mRng1, ap_mRng2, ap_mRev, ap_mFor, ap_mLc, ap_mYes, ap_mFld, dFld, ap_mFldO, ap_mBor, mskFrom, mdOf, flatT, flatTs, ap_mBorT, ap_mMove, ap_mRetMove, ap_getV, ap_setV, ap_getF, ap_setF, ap_mApp, ap_mClear, ap_mPut, ap_mSetL, ap_mPopD, ap_mSetFld, ap_mSetFldO, ap_mCallF, ap_mMethF, ap_mCallI, ap_mMethI, ap_mMethT, ap_mMake, ap_mIsi, ap_mRevS, ap_mLcK, ap_mNeg, ap_mLenSet, ap_mLenSetT, ap_mChain, ap_mGet2, ap_fnB, mskP, isLD_lst, isLD_dic, isIns_mk, items_lst, items_tup, items_str, items_scr, fAdd, fMul, fLt, fGt, fEq, eqD, c1, c2, c3, hb5, h5, h8, hq, e1, e2, es]
      · rw [if_neg hb5] at k5 k6
        obtain ⟨ws, t, d3, s', es, hd3, l, w, wt⟩ := sumTail_spec nm base (base * base * base) (1 + r) hb hb2 hn hpos.1 (by omega) (by omega) (by omega) kk kt k1 k2 k3 k4 k5 k6 d2 hd2
        refine ⟨(ws, t), d3, ?_, hd3, by simp; omega, by simp; omega, fun v hv => (w v hv).mono (by omega), wt.mono (by omega), fun h => absurd h h7⟩
        simp [bind_ok, bind_err, bind_exc, ofO_some, ofO_none, ap_mVar, ap_mC, ap_mOp, ap_mTest, ap_mAnd, ap_mOr, ap_mNot, ap_mAndV, ap_mOrV, ap_mNotV, ap_mIfE, ap_mNil, ap_mCons, ap_mTup, ap_mLst, ap_mCall, ap_mMeth, ap_mNoPart, ap_mPart, ap_mSl, ap_mFz, ap_mFzI, ap_mDnew, ap_gmName, ap_gmNil, ap_gmCons, ap_gmTup, ap_mSkip, ap_mSeq, ap_mErr, ap_mDrop, ap_mIf, ap_mRet, ap_mAsg, ap_mSetO, ap_mItems, ap_mRng1, ap_mRng2, ap_mRev, ap_mFor, ap_mLc, ap_mYes, ap_mFld, dFld, ap_mFldO, ap_mBor, mskFrom, mdOf, flatT, flatTs, ap_mBorT, ap_mMove, ap_mRetMove, ap_getV, ap_setV, ap_getF, ap_setF, ap_mApp, ap_mClear, ap_mPut, ap_mSetL, ap_mPopD, ap_mSetFld, ap_mSetFldO, ap_mCallF, ap_mMethF, ap_mCallI, ap_mMethI, ap_mMethT, ap_mMake, ap_mIsi, ap_mRevS, ap_mLcK, ap_mNeg, ap_mLenSet, ap_mLenSetT, ap_mChain, ap_mGet2, ap_fnB, mskP, isLD_lst, isLD_dic, isIns_mk, items_lst, items_tup, items_str, items_scr, fAdd, fMul, fLt, fGt, fEq, eqD, c1, c2, c3, hb5, h5, h8, hq, e1, e2, es]
end PP

set_option Elab.async false
set_option linter.all false
set_option maxRecDepth 100000
set_option maxHeartbeats 4000000
namespace PP
open MM PySem L2
def allW (s : Su) : List T := s.1 ++ [s.2]
structure SheetOk (base : Int) (ss : List Su) : Prop where
  b1 : 2 ≤ base
  b2 : base ≤ 12
  few : 1 ≤ ss.length
  most : ss.length ≤ 3
  ad : ∀ s, s ∈ ss → 1 ≤ s.1.length ∧ s.1.length ≤ 4
  wd : ∀ s, s ∈ ss → ∀ w, w ∈ allW s → w ≠ [] ∧ w.length ≤ 6 ∧ ∀ c, c ∈ w → Small c
  ls : ∃ L : T, (L.length : Int) ≤ base ∧ L.length ≤ 8 ∧ ∀ s, s ∈ ss → ∀ w, w ∈ allW s → ∀ c, c ∈ w → c ∈ L
theorem mem_allW {s : Su} {w : T} (h : w ∈ allW s) : w ∈ s.1 ∨ w = s.2 := by
  rcases List.mem_append.mp h with q | q
  · exact .inl q
  · exact .inr (List.mem_singleton.mp q)
theorem SuOk.word {nm : T} {base : Int} {s : Su} (h : SuOk nm base s) {w : T} (hw : w ∈ allW s) : WordOf nm 6 w := by
  rcases mem_allW hw with q | rfl
  · exact h.ws w q
  · exact h.t
theorem sheetOk_of {nm : T} {base : Int} {ss : List Su} (b1 : 2 ≤ base) (b2 : base ≤ 12) (hn : (nm.length : Int) = base) (hs : ∀ c, c ∈ nm → Small c) (h1 : 1 ≤ ss.length) (h2 : ss.length ≤ 3) (ok : ∀ s, s ∈ ss → SuOk nm base s) (h7 : 7 ≤ base → ss.length = 1) : SheetOk base ss := by
  refine ⟨b1, b2, h1, h2, fun s h => ⟨(ok s h).few, (ok s h).most⟩, fun s h w hw => ⟨((ok s h).word hw).1, ((ok s h).word hw).2.1, fun c hc => hs c (((ok s h).word hw).2.2 c hc)⟩, ?_⟩
  by_cases h : 7 ≤ base
  · obtain ⟨s, rfl⟩ := List.length_eq_one_iff.mp (h7 h)
    obtain ⟨l1, l2, l3⟩ := (ok s (by simp)).wide h
    have hL : (allW s).flatten.length ≤ 4 := by
      obtain ⟨a, b, e⟩ : ∃ a b, s.1 = [a, b] := by
        match h : s.1, l1 with
        | [a, b], _ => exact ⟨a, b, rfl⟩
      have ha := l2 a (by rw [e]; simp)
      have hb := l2 b (by rw [e]; simp)
      unfold allW
      rw [e]
      simp
      omega
    refine ⟨(allW s).flatten, by omega, by omega, fun s' hs' w hw c hc => ?_⟩
    have : s' = s := by simpa using hs'
    subst this
    exact List.mem_flatten.mpr ⟨w, hw, hc⟩
  · exact ⟨nm, by omega, by omega, fun s hs' w hw c hc => ((ok s hs').word hw).2.2 c hc⟩
theorem law_sheet_eq : EV.law_sheet = fnB [.pin] false 4
  (mSeq (mAsg (mOp fIx (mFz (mLst (mCons (mOp fAdd (mC (.int 2)) (mCallI 0 2 EV.law_next (mCons (mC (.int 5)) mNil))) (mCons (mOp fAdd (mC (.int 7)) (mCallI 0 2 EV.law_next (mCons (mC (.int 6)) mNil))) mNil)))) (mCall fInt (mCons (mOp fEq (mCallI 0 2 EV.law_next (mCons (mC (.int 6)) mNil)) (mC (.int 5))) mNil))) (gmName 1))
  (mSeq (mAsg (mCallI 0 2 EV.law_names (mCons (mVar 1) mNil)) (gmName 2))
  (mSeq (mAsg (mFz (mLst (mCons (mCallI 0 3 EV.law_sum (mCons (mVar 1) (mCons (mVar 2) mNil))) mNil))) (gmName 3))
  (mSeq (mIf (mTest (mOp fLt (mVar 1) (mC (.int 7)))) (mAsg (mOp fAdd (mVar 3) (mFz (mLc (mRng1 (mCons (mOp fIx (mFz (mLst (mCons (mC (.int 0)) (mCons (mC (.int 0)) (mCons (mC (.int 1)) (mCons (mC (.int 2)) mNil)))))) (mCallI 0 2 EV.law_next (mCons (mC (.int 4)) mNil))) mNil)) [4] (gmName 4) mYes (mCallI 0 3 EV.law_sum (mCons (mVar 1) (mCons (mVar 2) mNil)))))) (gmName 3)) mSkip)
  (mRet (mTup (mCons (mVar 1) (mCons (mVar 3) mNil)))))))) := rfl
theorem sums_lc (nm : T) (base : Int) (hb : 2 ≤ base) (hb2 : base ≤ 12) (hn : (nm.length : Int) = base) (x3 : Option D) (m : Nat) (d : D) (hd : Dice d) :
    ∃ (ss : List Su) (d' : D), lcGo [4] (gmName 4) mYes (mCallI 0 3 EV.law_sum (mCons (mVar 1) (mCons (mVar 2) mNil))) (rangeD 0 m) [some d, some (.int base), some (encN nm), x3, none] [] = .ok (ss.map encS) [some d', some (.int base), some (encN nm), x3, none] ∧ Dice d' ∧ ss.length = m ∧ ∀ s, s ∈ ss → SuOk nm base s := by
  obtain ⟨ys, s', e, d', rfl, hd', w, rfl, h1, h2⟩ := lcGo_inv (vs := [4]) (mg := gmName 4) (me := mCallI 0 3 EV.law_sum (mCons (mVar 1) (mCons (mVar 2) mNil)))
    (fun done acc s => ∃ d', s = [some d', some (.int base), some (encN nm), x3, none] ∧ Dice d' ∧ ∃ ss : List Su, acc = ss.map encS ∧ ss.length = done.length ∧ ∀ s, s ∈ ss → SuOk nm base s)
    (rangeD 0 m) [] [] _ ⟨d, rfl, hd, [], rfl, rfl, fun n hn => by cases hn⟩ (by
      rintro pre dd post acc s hall ⟨d1, rfl, hd1, w, rfl, hl1, hs⟩
      obtain ⟨su, d2, e2, hd2, ok⟩ := sum_spec nm base hb hb2 hn d1 hd1
      refine ⟨_, rfl, encS su, [some d2, some (.int base), some (encN nm), x3, some dd], ?_, ⟨d2, rfl, hd2, w ++ [su], by simp, by simp [hl1], fun v hv => ?_⟩⟩
      · simp [bind_ok, bind_err, bind_exc, ofO_some, ofO_none, ap_mVar, ap_mC, ap_mOp, ap_mTest, ap_mAnd, ap_mOr, ap_mNot, ap_mAndV, ap_mOrV, ap_mNotV, ap_mIfE, ap_mNil, ap_mCons, ap_mTup, ap_mLst, ap_mCall, ap_mMeth, ap_mNoPart, ap_mPart, ap_mSl, ap_mFz, ap_mFzI, ap_mDnew, ap_gmName, ap_gmNil, ap_gmCons, ap_gmTup, ap_mSkip, ap_mSeq, ap_mErr, ap_mDrop, ap_mIf, ap_mRet, ap_mAsg, ap_mSetO, ap_mItems, ap_mRng1, ap_mRng2, ap_mRev, ap_mFor, ap_mLc, ap_mYes, ap_mFld, dFld, ap_mFldO, ap_mBor, mskFrom, mdOf, flatT, flatTs, ap_mBorT, ap_mMove, ap_mRetMove, ap_getV, ap_setV, ap_getF, ap_setF, ap_mApp, ap_mClear, ap_mPut, ap_mSetL, ap_mPopD, ap_mSetFld, ap_mSetFldO, ap_mCallF, ap_mMethF, ap_mCallI, ap_mMethI, ap_mMethT, ap_mMake, ap_mIsi, ap_mRevS, ap_mLcK, ap_mNeg, ap_mLenSet, ap_mLenSetT, ap_mChain, ap_mGet2, ap_fnB, mskP, isLD_lst, isLD_dic, isIns_mk, items_lst, items_tup, items_str, items_scr, wipeS, e2]
      · rcases List.mem_append.mp hv with q | q
        · exact hs v q
        · rw [List.mem_singleton.mp q]; exact ok)
  exact ⟨w, d', e, hd', by rw [h1]; simp [rangeD], h2⟩
/-- a sheet as law_sheet makes it: in a large base one small sum -/
def Narrow (base : Int) (ss : List Su) : Prop := 7 ≤ base → ∃ s, ss = [s] ∧ s.1.length = 2 ∧ (∀ w, w ∈ s.1 → w.length ≤ 1) ∧ s.2.length ≤ 2
theorem sheet_specN (d : D) (hd : Dice d) : ∃ (base : Int) (ss : List Su) (d' : D), EV.law_sheet [some d] = .ok (.tup [.int base, encSums ss]) [some d'] ∧ Dice d' ∧ SheetOk base ss ∧ Narrow base ss := by
  obtain ⟨r1, d1, e1, a1, b1, hd1⟩ := next_spec d hd 5 (by omega) (by omega)
  obtain ⟨r2, d2, e2, a2, b2, hd2⟩ := next_spec d1 hd1 6 (by omega) (by omega)
  obtain ⟨r3, d3, e3, a3, b3, hd3⟩ := next_spec d2 hd2 6 (by omega) (by omega)
  have lb1 : 1 ≤ LB := by decide
  have lb2 : 2 ≤ LB := by decide
  have lb4 : 4 ≤ LB := by decide
  -- whatever the base is
  have go : ∀ base : Int, 2 ≤ base → base ≤ 12 → ∃ (ss : List Su) (d' : D) (s' : Sl),
      (mSeq (mAsg (mCallI 0 2 EV.law_names (mCons (mVar 1) mNil)) (gmName 2))
      (mSeq (mAsg (mFz (mLst (mCons (mCallI 0 3 EV.law_sum (mCons (mVar 1) (mCons (mVar 2) mNil))) mNil))) (gmName 3))
      (mSeq (mIf (mTest (mOp fLt (mVar 1) (mC (.int 7)))) (mAsg (mOp fAdd (mVar 3) (mFz (mLc (mRng1 (mCons (mOp fIx (mFz (mLst (mCons (mC (.int 0)) (mCons (mC (.int 0)) (mCons (mC (.int 1)) (mCons (mC (.int 2)) mNil)))))) (mCallI 0 2 EV.law_next (mCons (mC (.int 4)) mNil))) mNil)) [4] (gmName 4) mYes (mCallI 0 3 EV.law_sum (mCons (mVar 1) (mCons (mVar 2) mNil)))))) (gmName 3)) mSkip)
      (mRet (mTup (mCons (mVar 1) (mCons (mVar 3) mNil))))))) [some d3, some (.int base), none, none, none] = .ok (.rt (.tup [.int base, encSums ss])) (some d' :: s') ∧ Dice d' ∧ SheetOk base ss ∧ Narrow base ss := by
    intro base hb hb2
    obtain ⟨nm, d4, e4, hd4, hn, hs⟩ := names_spec d3 hd3 base (by omega) (by omega)
    obtain ⟨su, d5, e5, hd5, ok5⟩ := sum_spec nm base hb hb2 hn d4 hd4
    by_cases h7 : base < 7
    · obtain ⟨q, d6, e6, q1, q2, hd6⟩ := next_spec d5 hd5 4 (by omega) (by omega)
      obtain ⟨k, hk, hk0, hk1⟩ : ∃ k : Int, atI [D.int 0, .int 0, .int 1, .int 2] q = some (.int k) ∧ 0 ≤ k ∧ k ≤ 2 := by
        have : q = 0 ∨ q = 1 ∨ q = 2 ∨ q = 3 := by omega
        rcases this with rfl | rfl | rfl | rfl
        · exact ⟨0, rfl, by decide, by decide⟩
        · exact ⟨0, rfl, by decide, by decide⟩
        · exact ⟨1, rfl, by decide, by decide⟩
        · exact ⟨2, rfl, by decide, by decide⟩
      obtain ⟨ss, d7, e7, hd7, l7, ok7⟩ := sums_lc nm base hb hb2 hn (some (.lst [encS su])) k.toNat d6 hd6
      have hk3 : -4611686018427387904 ≤ k ∧ k ≤ 1000000 := ⟨by omega, by omega⟩
      have lbs : 1 + ss.length ≤ LB := Nat.le_trans (by omega : 1 + ss.length ≤ 10) (by decide)
      refine ⟨su :: ss, d7, [some (.int base), some (encN nm), some (encSums (su :: ss)), none], ?_, hd7, sheetOk_of hb hb2 hn hs (by simp) (by simp; omega) (fun s h => ?_) (fun h => by omega), fun h => by omega⟩
      rotate_left
      · rcases List.mem_cons.mp h with rfl | h
        · exact ok5
        · exact ok7 s h
      · simp [bind_ok, bind_err, bind_exc, ofO_some, ofO_none, ap_mVar, ap_mC, ap_mOp, ap_mTest, ap_mAnd, ap_mOr, ap_mNot, ap_mAndV, ap_mOrV, ap_mNotV, ap_mIfE, ap_mNil, ap_mCons, ap_mTup, ap_mLst, ap_mCall, ap_mMeth, ap_mNoPart, ap_mPart, ap_mSl, ap_mFz, ap_mFzI, ap_mDnew, ap_gmName, ap_gmNil, ap_gmCons, ap_gmTup, ap_mSkip, ap_mSeq, ap_mErr, ap_mDrop, ap_mIf, ap_mRet, ap_mAsg, ap_mSetO, ap_mItems, ap_mRng1, ap_mRng2, ap_mRev, ap_mFor, ap_mLc, ap_mYes, ap_mFld, dFld, ap_mFldO, ap_mBor, mskFrom, mdOf, flatT, flatTs, ap_mBorT, ap_mMove, ap_mRetMove, ap_getV, ap_setV, ap_getF, ap_setF, ap_mApp, ap_mClear, ap_mPut, ap_mSetL, ap_mPopD, ap_mSetFld, ap_mSetFldO, ap_mCallF, ap_mMethF, ap_mCallI, ap_mMethI, ap_mMethT, ap_mMake, ap_mIsi, ap_mRevS, ap_mLcK, ap_mNeg, ap_mLenSet, ap_mLenSetT, ap_mChain, ap_mGet2, ap_fnB, mskP, isLD_lst, isLD_dic, isIns_mk, items_lst, items_tup, items_str, items_scr, fLt, h7, e4, e5, e6, fIx, hk, hk3, lb1, lb2, lb4, e7, fAdd, encSums, lbs]
    · refine ⟨[su], d5, [some (.int base), some (encN nm), some (encSums [su]), none], ?_, hd5, sheetOk_of hb hb2 hn hs (by simp) (by simp) (fun s h => ?_) (fun h => by simp), fun h => ⟨su, rfl, ok5.wide h⟩⟩
      · simp [bind_ok, bind_err, bind_exc, ofO_some, ofO_none, ap_mVar, ap_mC, ap_mOp, ap_mTest, ap_mAnd, ap_mOr, ap_mNot, ap_mAndV, ap_mOrV, ap_mNotV, ap_mIfE, ap_mNil, ap_mCons, ap_mTup, ap_mLst, ap_mCall, ap_mMeth, ap_mNoPart, ap_mPart, ap_mSl, ap_mFz, ap_mFzI, ap_mDnew, ap_gmName, ap_gmNil, ap_gmCons, ap_gmTup, ap_mSkip, ap_mSeq, ap_mErr, ap_mDrop, ap_mIf, ap_mRet, ap_mAsg, ap_mSetO, ap_mItems, ap_mRng1, ap_mRng2, ap_mRev, ap_mFor, ap_mLc, ap_mYes, ap_mFld, dFld, ap_mFldO, ap_mBor, mskFrom, mdOf, flatT, flatTs, ap_mBorT, ap_mMove, ap_mRetMove, ap_getV, ap_setV, ap_getF, ap_setF, ap_mApp, ap_mClear, ap_mPut, ap_mSetL, ap_mPopD, ap_mSetFld, ap_mSetFldO, ap_mCallF, ap_mMethF, ap_mCallI, ap_mMethI, ap_mMethT, ap_mMake, ap_mIsi, ap_mRevS, ap_mLcK, ap_mNeg, ap_mLenSet, ap_mLenSetT, ap_mChain, ap_mGet2, ap_fnB, mskP, isLD_lst, isLD_dic, isIns_mk, items_lst, items_tup, items_str, items_scr, fLt, h7, e4, e5, lb1, lb2, encSums]
      · have : s = su := by simpa using h
        rw [this]
        exact ok5
  rw [law_sheet_eq]
  by_cases h5 : r3 = 5
  · obtain ⟨ss, d', s', e, hd', ok⟩ := go (7 + r2) (by omega) (by omega)
    refine ⟨7 + r2, ss, d', ?_, hd', ok⟩
    rw [ap_fnB, ap_mSeq]
    simp [ap_mAsg, ap_mOp, ap_mFz, ap_mLst, ap_mCons, ap_mNil, ap_mC, ap_mCallI, ap_mCall, ap_gmName, bind_ok, ofO_some, e1, e2, e3, fAdd, fEq, eqD, h5, fInt, fIx, lb2, isLD, MM.atI_pos, e, mskP]
  · obtain ⟨ss, d', s', e, hd', ok⟩ := go (2 + r1) (by omega) (by omega)
    refine ⟨2 + r1, ss, d', ?_, hd', ok⟩
    rw [ap_fnB, ap_mSeq]
    simp [ap_mAsg, ap_mOp, ap_mFz, ap_mLst, ap_mCons, ap_mNil, ap_mC, ap_mCallI, ap_mCall, ap_gmName, bind_ok, ofO_some, e1, e2, e3, fAdd, fEq, eqD, h5, fInt, fIx, lb2, isLD, MM.atI_pos, e, mskP]
theorem sheet_spec (d : D) (hd : Dice d) : ∃ (base : Int) (ss : List Su) (d' : D), EV.law_sheet [some d] = .ok (.tup [.int base, encSums ss]) [some d'] ∧ Dice d' ∧ SheetOk base ss := by
  obtain ⟨base, ss, d', e, hd', ok, _⟩ := sheet_specN d hd
  exact ⟨base, ss, d', e, hd', ok⟩
end PP

set_option Elab.async false
set_option linter.all false
set_option maxRecDepth 100000
set_option maxHeartbeats 4000000
namespace PP
open MM PySem L2
/-! walks of encoded lists -/
theorem lcGo_filter {X : Type} {vs : List Nat} {mg : MG} {mt : MT} {me : ME} (e f : X → D) (p : X → Bool) (s : Sl) : ∀ (xs : List X) (acc : List D), (∀ x, x ∈ xs → ∃ s1 s2, mg (e x) (wipeS s vs) = some s1 ∧ mt s1 = .ok (p x) s2 ∧ rest vs s s2 = s ∧ (p x = true → ∃ s3, me s2 = .ok (f x) s3 ∧ rest vs s s3 = s)) →
    lcGo vs mg mt me (xs.map e) s acc = .ok (acc ++ (xs.filter p).map f) s
  | [], acc, _ => by simp [lcGo]
  | x :: r, acc, h => by
    obtain ⟨s1, s2, e1, e2, e3, e4⟩ := h x List.mem_cons_self
    have ih := fun acc => lcGo_filter e f p s r acc fun y hy => h y (List.mem_cons_of_mem _ hy)
    rw [List.map_cons]
    unfold lcGo
    rw [e1]
    dsimp only
    rw [e2]
    cases hp : p x with
    | true =>
      obtain ⟨s3, e5, e6⟩ := e4 hp
      dsimp only
      rw [e5]
      dsimp only
      rw [e6, ih, List.filter_cons_of_pos hp]
      simp
    | false =>
      dsimp only
      rw [e3, ih, List.filter_cons_of_neg (by rw [hp]; decide)]
theorem lcGo_map {X : Type} {vs : List Nat} {mg : MG} {me : ME} (e f : X → D) (s : Sl) (xs : List X) (acc : List D) (h : ∀ x, x ∈ xs → ∃ s1 s3, mg (e x) (wipeS s vs) = some s1 ∧ me s1 = .ok (f x) s3 ∧ rest vs s s1 = s ∧ rest vs s s3 = s) :
    lcGo vs mg mYes me (xs.map e) s acc = .ok (acc ++ xs.map f) s := by
  have q := lcGo_filter (vs := vs) (mg := mg) (mt := mYes) (me := me) e f (fun _ => true) s xs acc fun x hx => by
    obtain ⟨s1, s3, e1, e2, e3, e4⟩ := h x hx
    exact ⟨s1, s1, e1, rfl, e3, fun _ => ⟨s3, e2, e4⟩⟩
  rw [q, List.filter_eq_self.mpr fun _ _ => rfl]
theorem forGo_fold {X β : Type} {mg : MG} {mb : MS} (e : X → D) (step : β → X → β) (S : β → Sl → Prop) : ∀ (xs : List X) (b : β) (s : Sl), S b s → (∀ b x s, x ∈ xs → S b s → ∃ s1 s2, mg (e x) s = some s1 ∧ mb s1 = .ok .nx s2 ∧ S (step b x) s2) →
    ∃ s', forGo mg mb (xs.map e) s = .ok .nx s' ∧ S (xs.foldl step b) s'
  | [], b, s, h, _ => ⟨s, rfl, h⟩
  | x :: r, b, s, h, st => by
    obtain ⟨s1, s2, e1, e2, h2⟩ := st b x s List.mem_cons_self h
    obtain ⟨s', e3, h3⟩ := forGo_fold e step S r (step b x) s2 h2 fun b y s hy => st b y s (List.mem_cons_of_mem _ hy)
    refine ⟨s', ?_, h3⟩
    rw [List.map_cons]
    unfold forGo
    rw [e1]
    dsimp only
    rw [e2]
    exact e3
/-! letters in columns -/
def letAt (w : T) (p : Nat) : T := (w.reverse.drop p).take 1
theorem letAt_lt {w : T} {p : Nat} (h : p < w.length) : letAt w p = [w[w.length - 1 - p]'(by omega)] := by
  unfold letAt
  have hp : p < w.reverse.length := by simpa using h
  rw [List.drop_eq_getElem_cons hp]
  simp
theorem letAt_ge {w : T} {p : Nat} (h : w.length ≤ p) : letAt w p = [] := by
  unfold letAt
  rw [List.drop_eq_nil_of_le (by simpa using h)]
  rfl
theorem letter_at_spec (w : T) (p : Nat) : EV.letter_at [some (.str w), some (.int p)] = .ok (.str (letAt w p)) [none, none] := by
  unfold EV.letter_at
  by_cases h : w.length ≤ p
  · have h2 : (w.length : Int) ≤ p := by omega
    simp [bind_ok, bind_err, bind_exc, ofO_some, ofO_none, ap_mVar, ap_mC, ap_mOp, ap_mTest, ap_mAnd, ap_mOr, ap_mNot, ap_mAndV, ap_mOrV, ap_mNotV, ap_mIfE, ap_mNil, ap_mCons, ap_mTup, ap_mLst, ap_mCall, ap_mMeth, ap_mNoPart, ap_mPart, ap_mSl, ap_mFz, ap_mFzI, ap_mDnew, ap_gmName, ap_gmNil, ap_gmCons, ap_gmTup, ap_mSkip, ap_mSeq, ap_mErr, ap_mDrop, ap_mIf, ap_mRet, ap_mAsg, ap_mSetO, ap_mItems, ap_mRng1, ap_mRng2, ap_mRev, ap_mFor, ap_mLc, ap_mYes, ap_mFld, dFld, ap_mFldO, ap_mBor, mskFrom, mdOf, flatT, flatTs, ap_mBorT, ap_mMove, ap_mRetMove, ap_getV, ap_setV, ap_getF, ap_setF, ap_mApp, ap_mClear, ap_mPut, ap_mSetL, ap_mPopD, ap_mSetFld, ap_mSetFldO, ap_mCallF, ap_mMethF, ap_mCallI, ap_mMethI, ap_mMethT, ap_mMake, ap_mIsi, ap_mRevS, ap_mLcK, ap_mNeg, ap_mLenSet, ap_mLenSetT, ap_mChain, ap_mGet2, ap_fnB, mskP, isLD_lst, isLD_dic, isIns_mk, items_lst, items_tup, items_str, items_scr, fAdd, fSub, fMul, fDiv, fMod, fLt, fLe, fGt, fGe, fEq, fNe, eqD, fIs, fIsNot, fIn, fNotIn, fIx, fLen, fMax, fMin, fSum, fAbs, fInt, fList, fTuple, fSl, fIsi, isTy, fJoin, h2, letAt_ge h]
  · have h2 : ¬ (w.length : Int) ≤ p := by omega
    have h3 : (w.length : Int) - 1 - p = ((w.length - 1 - p : Nat) : Int) := by omega
    have h4 : w.length - 1 - p < w.length := by omega
    rw [letAt_lt (by omega)]
    simp [bind_ok, bind_err, bind_exc, ofO_some, ofO_none, ap_mVar, ap_mC, ap_mOp, ap_mTest, ap_mAnd, ap_mOr, ap_mNot, ap_mAndV, ap_mOrV, ap_mNotV, ap_mIfE, ap_mNil, ap_mCons, ap_mTup, ap_mLst, ap_mCall, ap_mMeth, ap_mNoPart, ap_mPart, ap_mSl, ap_mFz, ap_mFzI, ap_mDnew, ap_gmName, ap_gmNil, ap_gmCons, ap_gmTup, ap_mSkip, ap_mSeq, ap_mErr, ap_mDrop, ap_mIf, ap_mRet, ap_mAsg, ap_mSetO, ap_mItems, ap_mRng1, ap_mRng2, ap_mRev, ap_mFor, ap_mLc, ap_mYes, ap_mFld, dFld, ap_mFldO, ap_mBor, mskFrom, mdOf, flatT, flatTs, ap_mBorT, ap_mMove, ap_mRetMove, ap_getV, ap_setV, ap_getF, ap_setF, ap_mApp, ap_mClear, ap_mPut, ap_mSetL, ap_mPopD, ap_mSetFld, ap_mSetFldO, ap_mCallF, ap_mMethF, ap_mCallI, ap_mMethI, ap_mMethT, ap_mMake, ap_mIsi, ap_mRevS, ap_mLcK, ap_mNeg, ap_mLenSet, ap_mLenSetT, ap_mChain, ap_mGet2, ap_fnB, mskP, isLD_lst, isLD_dic, isIns_mk, items_lst, items_tup, items_str, items_scr, fGe, fLen, h2, fIx, fSub]
    rw [h3, MM.atI_nat, List.getElem?_eq_getElem h4]
    simp [bind_ok, bind_err, bind_exc, ofO_some, ofO_none, ap_mVar, ap_mC, ap_mOp, ap_mTest, ap_mAnd, ap_mOr, ap_mNot, ap_mAndV, ap_mOrV, ap_mNotV, ap_mIfE, ap_mNil, ap_mCons, ap_mTup, ap_mLst, ap_mCall, ap_mMeth, ap_mNoPart, ap_mPart, ap_mSl, ap_mFz, ap_mFzI, ap_mDnew, ap_gmName, ap_gmNil, ap_gmCons, ap_gmTup, ap_mSkip, ap_mSeq, ap_mErr, ap_mDrop, ap_mIf, ap_mRet, ap_mAsg, ap_mSetO, ap_mItems, ap_mRng1, ap_mRng2, ap_mRev, ap_mFor, ap_mLc, ap_mYes, ap_mFld, dFld, ap_mFldO, ap_mBor, mskFrom, mdOf, flatT, flatTs, ap_mBorT, ap_mMove, ap_mRetMove, ap_getV, ap_setV, ap_getF, ap_setF, ap_mApp, ap_mClear, ap_mPut, ap_mSetL, ap_mPopD, ap_mSetFld, ap_mSetFldO, ap_mCallF, ap_mMethF, ap_mCallI, ap_mMethI, ap_mMethT, ap_mMake, ap_mIsi, ap_mRevS, ap_mLcK, ap_mNeg, ap_mLenSet, ap_mLenSetT, ap_mChain, ap_mGet2, ap_fnB, mskP, isLD_lst, isLD_dic, isIns_mk, items_lst, items_tup, items_str, items_scr]
def widthI (s : Su) : Int := match (allW s).map (fun w => (w.length : Int)) with
  | n :: r => maxL n r
  | [] => 0
theorem maxL_le (k : Int) : ∀ (r : List Int) (n : Int), n ≤ k → (∀ m, m ∈ r → m ≤ k) → maxL n r ≤ k
  | [], n, h, _ => h
  | m :: r, n, h, hr => by
    unfold maxL
    refine maxL_le k r _ ?_ fun j hj => hr j (List.mem_cons_of_mem _ hj)
    split
    · exact hr m List.mem_cons_self
    · exact h
theorem le_maxL : ∀ (r : List Int) (n : Int), n ≤ maxL n r ∧ ∀ m, m ∈ r → m ≤ maxL n r
  | [], n => ⟨Int.le_refl _, fun m hm => by cases hm⟩
  | m :: r, n => by
    unfold maxL
    obtain ⟨h1, h2⟩ := le_maxL r (if m > n then m else n)
    have hm : n ≤ (if m > n then m else n) ∧ m ≤ (if m > n then m else n) := by split <;> omega
    refine ⟨Int.le_trans hm.1 h1, fun j hj => ?_⟩
    rcases List.mem_cons.mp hj with e | hj
    · rw [e]; exact Int.le_trans hm.2 h1
    · exact h2 j hj
theorem widthI_bdN {s : Su} (k : Nat) (h : ∀ w, w ∈ allW s → w.length ≤ k) : 0 ≤ widthI s ∧ widthI s ≤ k := by
  unfold widthI
  cases e : (allW s).map (fun w => (w.length : Int)) with
  | nil => exact ⟨by decide, Int.natCast_nonneg _⟩
  | cons n r =>
    have key : ∀ m, m ∈ n :: r → 0 ≤ m ∧ m ≤ (k : Int) := fun m hm => by
      rw [← e] at hm
      obtain ⟨w, hw, rfl⟩ := List.mem_map.mp hm
      have := h w hw
      exact ⟨by omega, by omega⟩
    exact ⟨Int.le_trans (key n List.mem_cons_self).1 (le_maxL r n).1, maxL_le k r n (key n List.mem_cons_self).2 fun m hm => (key m (List.mem_cons_of_mem _ hm)).2⟩
theorem widthI_bd {s : Su} (h : ∀ w, w ∈ allW s → w.length ≤ 6) : 0 ≤ widthI s ∧ widthI s ≤ 6 := widthI_bdN 6 h
theorem width_ge {s : Su} {w : T} (hw : w ∈ allW s) : (w.length : Int) ≤ widthI s := by
  unfold widthI
  have hm : (w.length : Int) ∈ (allW s).map (fun w => (w.length : Int)) := List.mem_map.mpr ⟨w, hw, rfl⟩
  cases e : (allW s).map (fun w => (w.length : Int)) with
  | nil => rw [e] at hm; cases hm
  | cons n r =>
    rw [e] at hm
    rcases List.mem_cons.mp hm with q | q
    · rw [q]; exact (le_maxL r n).1
    · exact (le_maxL r n).2 _ q
theorem allW_add {s : Su} (h : s.1.length ≤ 4) : fAdd (encW s.1) (.tup [.str s.2]) = some (.tup ((allW s).map D.str)) := by
  unfold fAdd encW allW
  dsimp only
  rw [if_pos]
  · simp
  · simp
    exact Nat.le_trans (by omega : s.1.length + 1 ≤ 5) (by decide)
theorem lens_max (s : Su) : fMax [.lst ((allW s).map fun w => .int (w.length : Nat))] = some (.int (widthI s)) := by
  have e : ((allW s).map fun w => D.int ((w.length : Nat) : Int)) = ((allW s).map fun w => ((w.length : Nat) : Int)).map D.int := by rw [List.map_map]; rfl
  unfold fMax widthI
  dsimp only
  rw [e, asInts_map]
  have : (allW s) ≠ [] := by unfold allW; simp
  cases ha : allW s with
  | nil => exact absurd ha this
  | cons a r => rfl
def sheetD (base : Int) (ss : List Su) : D := .ins 0 [.int base, encSums ss]
theorem encSums_at {ss : List Su} {n : Nat} {s : Su} (h : ss[n]? = some s) : fIx (encSums ss) (.int (n : Int)) = some (encS s) := by
  unfold encSums fIx
  dsimp only
  rw [MM.atI_nat, List.getElem?_map, h]
  rfl
theorem columns_spec (base : Int) (ss : List Su) (n : Nat) (s : Su) (h : ss[n]? = some s) (h4 : s.1.length ≤ 4) : EV.Sheet_columns [some (sheetD base ss), some (.int (n : Int))] = .ok (.int (widthI s)) [none, none] := by
  have e1 := lcGo_map (vs := [4]) (mg := gmName 4) (me := mCall fLen (mCons (mVar 4) mNil)) D.str (fun w => .int (w.length : Nat)) [some (sheetD base ss), some (.int n), some (encW s.1), some (.str s.2), none] (allW s) [] fun w hw => ⟨_, _, rfl, rfl, rfl, rfl⟩
  have e2 := encSums_at h
  have e3 := allW_add h4
  have e4 := lens_max s
  have lb : 1 ≤ LB := by decide
  unfold EV.Sheet_columns
  simp only [List.nil_append] at e1
  simp [bind_ok, bind_err, bind_exc, ofO_some, ofO_none, ap_mVar, ap_mC, ap_mOp, ap_mTest, ap_mAnd, ap_mOr, ap_mNot, ap_mAndV, ap_mOrV, ap_mNotV, ap_mIfE, ap_mNil, ap_mCons, ap_mTup, ap_mLst, ap_mCall, ap_mMeth, ap_mNoPart, ap_mPart, ap_mSl, ap_mFz, ap_mFzI, ap_mDnew, ap_gmName, ap_gmNil, ap_gmCons, ap_gmTup, ap_mSkip, ap_mSeq, ap_mErr, ap_mDrop, ap_mIf, ap_mRet, ap_mAsg, ap_mSetO, ap_mItems, ap_mRng1, ap_mRng2, ap_mRev, ap_mFor, ap_mLc, ap_mYes, ap_mFld, dFld, ap_mFldO, ap_mBor, mskFrom, mdOf, flatT, flatTs, ap_mBorT, ap_mMove, ap_mRetMove, ap_getV, ap_setV, ap_getF, ap_setF, ap_mApp, ap_mClear, ap_mPut, ap_mSetL, ap_mPopD, ap_mSetFld, ap_mSetFldO, ap_mCallF, ap_mMethF, ap_mCallI, ap_mMethI, ap_mMethT, ap_mMake, ap_mIsi, ap_mRevS, ap_mLcK, ap_mNeg, ap_mLenSet, ap_mLenSetT, ap_mChain, ap_mGet2, ap_fnB, mskP, isLD_lst, isLD_dic, isIns_mk, items_lst, items_tup, items_str, items_scr, sheetD, e2, encS, e3, lb]
  simp only [sheetD] at e1
  simp [bind_ok, bind_err, bind_exc, ofO_some, ofO_none, ap_mVar, ap_mC, ap_mOp, ap_mTest, ap_mAnd, ap_mOr, ap_mNot, ap_mAndV, ap_mOrV, ap_mNotV, ap_mIfE, ap_mNil, ap_mCons, ap_mTup, ap_mLst, ap_mCall, ap_mMeth, ap_mNoPart, ap_mPart, ap_mSl, ap_mFz, ap_mFzI, ap_mDnew, ap_gmName, ap_gmNil, ap_gmCons, ap_gmTup, ap_mSkip, ap_mSeq, ap_mErr, ap_mDrop, ap_mIf, ap_mRet, ap_mAsg, ap_mSetO, ap_mItems, ap_mRng1, ap_mRng2, ap_mRev, ap_mFor, ap_mLc, ap_mYes, ap_mFld, dFld, ap_mFldO, ap_mBor, mskFrom, mdOf, flatT, flatTs, ap_mBorT, ap_mMove, ap_mRetMove, ap_getV, ap_setV, ap_getF, ap_setF, ap_mApp, ap_mClear, ap_mPut, ap_mSetL, ap_mPopD, ap_mSetFld, ap_mSetFldO, ap_mCallF, ap_mMethF, ap_mCallI, ap_mMethI, ap_mMethT, ap_mMake, ap_mIsi, ap_mRevS, ap_mLcK, ap_mNeg, ap_mLenSet, ap_mLenSetT, ap_mChain, ap_mGet2, ap_fnB, mskP, isLD_lst, isLD_dic, isIns_mk, items_lst, items_tup, items_str, items_scr, e1, e4]
def neT (t : T) : Bool := decide (t ≠ [])
def cells (s : Su) (p : Nat) : List T := ((s.1.map fun w => letAt w p).filter neT) ++ [letAt s.2 p]
theorem column_spec (base : Int) (ss : List Su) (n : Nat) (s : Su) (h : ss[n]? = some s) (p : Nat) : EV.Sheet_column [some (sheetD base ss), some (.int (n : Int)), some (.int (p : Int))] =
    .ok (.tup [.lst (((s.1.map fun w => letAt w p).filter neT).map D.str), .str (letAt s.2 p)]) [none, none, none] := by
  have e2 := encSums_at h
  have lb : 2 ≤ LB := by decide
  have e1 := lcGo_map (vs := [6]) (mg := gmName 6) (me := mCallF 2 EV.letter_at (mCons (mVar 6) (mCons (mVar 2) mNil))) D.str (fun w => .str (letAt w p)) [some (sheetD base ss), some (.int n), some (.int p), none, some (encW s.1), some (.str s.2), none, none] s.1 [] fun w hw =>
    ⟨_, [some (sheetD base ss), some (.int n), some (.int p), none, some (encW s.1), some (.str s.2), some (.str w), none], rfl, by simp [bind_ok, bind_err, bind_exc, ofO_some, ofO_none, ap_mVar, ap_mC, ap_mOp, ap_mTest, ap_mAnd, ap_mOr, ap_mNot, ap_mAndV, ap_mOrV, ap_mNotV, ap_mIfE, ap_mNil, ap_mCons, ap_mTup, ap_mLst, ap_mCall, ap_mMeth, ap_mNoPart, ap_mPart, ap_mSl, ap_mFz, ap_mFzI, ap_mDnew, ap_gmName, ap_gmNil, ap_gmCons, ap_gmTup, ap_mSkip, ap_mSeq, ap_mErr, ap_mDrop, ap_mIf, ap_mRet, ap_mAsg, ap_mSetO, ap_mItems, ap_mRng1, ap_mRng2, ap_mRev, ap_mFor, ap_mLc, ap_mYes, ap_mFld, dFld, ap_mFldO, ap_mBor, mskFrom, mdOf, flatT, flatTs, ap_mBorT, ap_mMove, ap_mRetMove, ap_getV, ap_setV, ap_getF, ap_setF, ap_mApp, ap_mClear, ap_mPut, ap_mSetL, ap_mPopD, ap_mSetFld, ap_mSetFldO, ap_mCallF, ap_mMethF, ap_mCallI, ap_mMethI, ap_mMethT, ap_mMake, ap_mIsi, ap_mRevS, ap_mLcK, ap_mNeg, ap_mLenSet, ap_mLenSetT, ap_mChain, ap_mGet2, ap_fnB, mskP, isLD_lst, isLD_dic, isIns_mk, items_lst, items_tup, items_str, items_scr, wipeS, letter_at_spec], rfl, rfl⟩
  have e3 := lcGo_filter (vs := [7]) (mg := gmName 7) (mt := mTest (mOp fNe (mVar 7) (mC (.str [])))) (me := mVar 7) D.str D.str (neT) [some (sheetD base ss), some (.int n), some (.int p), some (.lst ((s.1.map fun w => letAt w p).map D.str)), some (encW s.1), some (.str s.2), none, none] (s.1.map fun w => letAt w p) [] fun w hw =>
    ⟨_, [some (sheetD base ss), some (.int n), some (.int p), some (.lst ((s.1.map fun w => letAt w p).map D.str)), some (encW s.1), some (.str s.2), none, some (.str w)], rfl, by simp [bind_ok, bind_err, bind_exc, ofO_some, ofO_none, ap_mVar, ap_mC, ap_mOp, ap_mTest, ap_mAnd, ap_mOr, ap_mNot, ap_mAndV, ap_mOrV, ap_mNotV, ap_mIfE, ap_mNil, ap_mCons, ap_mTup, ap_mLst, ap_mCall, ap_mMeth, ap_mNoPart, ap_mPart, ap_mSl, ap_mFz, ap_mFzI, ap_mDnew, ap_gmName, ap_gmNil, ap_gmCons, ap_gmTup, ap_mSkip, ap_mSeq, ap_mErr, ap_mDrop, ap_mIf, ap_mRet, ap_mAsg, ap_mSetO, ap_mItems, ap_mRng1, ap_mRng2, ap_mRev, ap_mFor, ap_mLc, ap_mYes, ap_mFld, dFld, ap_mFldO, ap_mBor, mskFrom, mdOf, flatT, flatTs, ap_mBorT, ap_mMove, ap_mRetMove, ap_getV, ap_setV, ap_getF, ap_setF, ap_mApp, ap_mClear, ap_mPut, ap_mSetL, ap_mPopD, ap_mSetFld, ap_mSetFldO, ap_mCallF, ap_mMethF, ap_mCallI, ap_mMethI, ap_mMethT, ap_mMake, ap_mIsi, ap_mRevS, ap_mLcK, ap_mNeg, ap_mLenSet, ap_mLenSetT, ap_mChain, ap_mGet2, ap_fnB, mskP, isLD_lst, isLD_dic, isIns_mk, items_lst, items_tup, items_str, items_scr, wipeS, fNe, eqD, neT], rfl, fun _ => ⟨_, rfl, rfl⟩⟩
  simp only [List.nil_append, List.map_map] at e1 e3
  unfold EV.Sheet_column
  simp only [sheetD] at e1 e3
  have em : (fun w => D.str (letAt w p)) = D.str ∘ fun w => letAt w p := rfl
  rw [em] at e1
  simp [bind_ok, bind_err, bind_exc, ofO_some, ofO_none, ap_mVar, ap_mC, ap_mOp, ap_mTest, ap_mAnd, ap_mOr, ap_mNot, ap_mAndV, ap_mOrV, ap_mNotV, ap_mIfE, ap_mNil, ap_mCons, ap_mTup, ap_mLst, ap_mCall, ap_mMeth, ap_mNoPart, ap_mPart, ap_mSl, ap_mFz, ap_mFzI, ap_mDnew, ap_gmName, ap_gmNil, ap_gmCons, ap_gmTup, ap_mSkip, ap_mSeq, ap_mErr, ap_mDrop, ap_mIf, ap_mRet, ap_mAsg, ap_mSetO, ap_mItems, ap_mRng1, ap_mRng2, ap_mRev, ap_mFor, ap_mLc, ap_mYes, ap_mFld, dFld, ap_mFldO, ap_mBor, mskFrom, mdOf, flatT, flatTs, ap_mBorT, ap_mMove, ap_mRetMove, ap_getV, ap_setV, ap_getF, ap_setF, ap_mApp, ap_mClear, ap_mPut, ap_mSetL, ap_mPopD, ap_mSetFld, ap_mSetFldO, ap_mCallF, ap_mMethF, ap_mCallI, ap_mMethI, ap_mMethT, ap_mMake, ap_mIsi, ap_mRevS, ap_mLcK, ap_mNeg, ap_mLenSet, ap_mLenSetT, ap_mChain, ap_mGet2, ap_fnB, mskP, isLD_lst, isLD_dic, isIns_mk, items_lst, items_tup, items_str, items_scr, sheetD, e2, encS]
  unfold encW at e1 e3 ⊢
  simp [bind_ok, bind_err, bind_exc, ofO_some, ofO_none, ap_mVar, ap_mC, ap_mOp, ap_mTest, ap_mAnd, ap_mOr, ap_mNot, ap_mAndV, ap_mOrV, ap_mNotV, ap_mIfE, ap_mNil, ap_mCons, ap_mTup, ap_mLst, ap_mCall, ap_mMeth, ap_mNoPart, ap_mPart, ap_mSl, ap_mFz, ap_mFzI, ap_mDnew, ap_gmName, ap_gmNil, ap_gmCons, ap_gmTup, ap_mSkip, ap_mSeq, ap_mErr, ap_mDrop, ap_mIf, ap_mRet, ap_mAsg, ap_mSetO, ap_mItems, ap_mRng1, ap_mRng2, ap_mRev, ap_mFor, ap_mLc, ap_mYes, ap_mFld, dFld, ap_mFldO, ap_mBor, mskFrom, mdOf, flatT, flatTs, ap_mBorT, ap_mMove, ap_mRetMove, ap_getV, ap_setV, ap_getF, ap_setF, ap_mApp, ap_mClear, ap_mPut, ap_mSetL, ap_mPopD, ap_mSetFld, ap_mSetFldO, ap_mCallF, ap_mMethF, ap_mCallI, ap_mMethI, ap_mMethT, ap_mMake, ap_mIsi, ap_mRevS, ap_mLcK, ap_mNeg, ap_mLenSet, ap_mLenSetT, ap_mChain, ap_mGet2, ap_fnB, mskP, isLD_lst, isLD_dic, isIns_mk, items_lst, items_tup, items_str, items_scr, e1, letter_at_spec, lb]
  simp [bind_ok, bind_err, bind_exc, ofO_some, ofO_none, ap_mVar, ap_mC, ap_mOp, ap_mTest, ap_mAnd, ap_mOr, ap_mNot, ap_mAndV, ap_mOrV, ap_mNotV, ap_mIfE, ap_mNil, ap_mCons, ap_mTup, ap_mLst, ap_mCall, ap_mMeth, ap_mNoPart, ap_mPart, ap_mSl, ap_mFz, ap_mFzI, ap_mDnew, ap_gmName, ap_gmNil, ap_gmCons, ap_gmTup, ap_mSkip, ap_mSeq, ap_mErr, ap_mDrop, ap_mIf, ap_mRet, ap_mAsg, ap_mSetO, ap_mItems, ap_mRng1, ap_mRng2, ap_mRev, ap_mFor, ap_mLc, ap_mYes, ap_mFld, dFld, ap_mFldO, ap_mBor, mskFrom, mdOf, flatT, flatTs, ap_mBorT, ap_mMove, ap_mRetMove, ap_getV, ap_setV, ap_getF, ap_setF, ap_mApp, ap_mClear, ap_mPut, ap_mSetL, ap_mPopD, ap_mSetFld, ap_mSetFldO, ap_mCallF, ap_mMethF, ap_mCallI, ap_mMethI, ap_mMethT, ap_mMake, ap_mIsi, ap_mRevS, ap_mLcK, ap_mNeg, ap_mLenSet, ap_mLenSetT, ap_mChain, ap_mGet2, ap_fnB, mskP, isLD_lst, isLD_dic, isIns_mk, items_lst, items_tup, items_str, items_scr, e3, lb, letter_at_spec]
end PP

set_option Elab.async false
set_option linter.all false
set_option maxRecDepth 100000
set_option maxHeartbeats 4000000
namespace PP
open MM PySem L2
def addT (f : T) (t : T) : T := match t with
  | [c] => if c ∈ f then f else f ++ [c]
  | _ => f
def sumL (f : T) (s : Su) : T := (List.range (widthI s).toNat).foldl (fun f p => ((allW s).map fun w => letAt w p).foldl addT f) f
def lettersN (ss : List Su) (n : Nat) : T := (ss.take n).foldl sumL []
def letters (ss : List Su) : T := ss.foldl sumL []
theorem letAt_le1 (w : T) (p : Nat) : (letAt w p).length ≤ 1 := by
  unfold letAt
  rw [List.length_take]
  omega
theorem letAt_mem {w : T} {p c : Nat} (h : c ∈ letAt w p) : c ∈ w := by
  unfold letAt at h
  exact List.mem_reverse.mp (List.mem_of_mem_drop (List.mem_of_mem_take h))
theorem foldl_addT_skip (f : T) : ∀ l : List T, (l.filter neT).foldl addT f = l.foldl addT f := by
  intro l
  induction l generalizing f with
  | nil => rfl
  | cons t r ih =>
    by_cases h : t = []
    · subst h
      rw [List.filter_cons_of_neg (by simp [neT])]
      exact ih f
    · rw [List.filter_cons_of_pos (by simpa [neT] using h)]
      exact ih _
theorem cells_fold (s : Su) (p : Nat) (f : T) : (cells s p).foldl addT f = ((allW s).map fun w => letAt w p).foldl addT f := by
  unfold cells allW
  rw [List.foldl_append, foldl_addT_skip, List.map_append, List.foldl_append]
  rfl
theorem nodup_le : ∀ (f L : T), f.Nodup → (∀ c, c ∈ f → c ∈ L) → f.length ≤ L.length
  | [], L, _, _ => Nat.zero_le _
  | c :: r, L, h, hs => by
    have hc := hs c List.mem_cons_self
    obtain ⟨h1, h2⟩ := List.nodup_cons.mp h
    have ih := nodup_le r (L.erase c) h2 fun d hd => (List.mem_erase_of_ne (fun e => h1 (by rw [← e]; exact hd))).mpr (hs d (List.mem_cons_of_mem _ hd))
    rw [List.length_erase_of_mem hc] at ih
    have : 0 < L.length := List.length_pos_of_mem hc
    rw [List.length_cons]
    omega
structure Good (L : T) (f : T) : Prop where
  nd : f.Nodup
  sub : ∀ c, c ∈ f → c ∈ L
theorem Good.nil (L : T) : Good L [] := ⟨List.nodup_nil, fun c h => by cases h⟩
theorem Good.le {L f : T} (h : Good L f) : f.length ≤ L.length := nodup_le f L h.nd h.sub
theorem Good.add {L f t : T} (h : Good L f) (ht : ∀ c, c ∈ t → c ∈ L) : Good L (addT f t) := by
  unfold addT
  split
  · rename_i c
    split
    · exact h
    · rename_i hc
      refine ⟨List.nodup_append.mpr ⟨h.nd, by simp, fun a ha b hb e => ?_⟩, fun d hd => ?_⟩
      · rw [List.mem_singleton.mp hb] at e
        rw [e] at ha
        exact hc ha
      · rcases List.mem_append.mp hd with q | q
        · exact h.sub d q
        · rw [List.mem_singleton.mp q]; exact ht c (by simp)
  · exact h
theorem Good.adds {L : T} : ∀ (l : List T) {f : T}, Good L f → (∀ t, t ∈ l → ∀ c, c ∈ t → c ∈ L) → Good L (l.foldl addT f)
  | [], f, h, _ => h
  | t :: r, f, h, ht => Good.adds r (h.add (ht t List.mem_cons_self)) fun u hu => ht u (List.mem_cons_of_mem _ hu)
theorem Good.sumL {L : T} {f : T} {s : Su} (h : Good L f) (hs : ∀ w, w ∈ allW s → ∀ c, c ∈ w → c ∈ L) : Good L (sumL f s) := by
  unfold PP.sumL
  generalize List.range (widthI s).toNat = l
  induction l generalizing f with
  | nil => exact h
  | cons p r ih =>
    refine ih (h.adds _ fun t ht c hc => ?_)
    obtain ⟨w, hw, rfl⟩ := List.mem_map.mp ht
    exact hs w hw c (letAt_mem hc)
theorem Good.letters {L : T} : ∀ (ss : List Su) {f : T}, Good L f → (∀ s, s ∈ ss → ∀ w, w ∈ allW s → ∀ c, c ∈ w → c ∈ L) → Good L (ss.foldl PP.sumL f)
  | [], f, h, _ => h
  | s :: r, f, h, hs => Good.letters r (h.sumL (hs s List.mem_cons_self)) fun u hu => hs u (List.mem_cons_of_mem _ hu)
theorem feq_str (a b : Nat) : feq (.str [a]) (.str [b]) = decide (a = b) := by
  unfold feq
  by_cases h : a = b
  · simp [h]
  · simp [h]
theorem isIn_encN (c : Nat) (f : T) : isIn (.str [c]) (encN f) = some (decide (c ∈ f)) := by
  unfold isIn encN
  dsimp only
  have h1 : flatD (.str [c]) = true := rfl
  have h2 : (f.map fun c => D.str [c]).all flatD = true := by simp [flatD]
  rw [if_pos ⟨h1, h2⟩]
  congr 1
  induction f with
  | nil => rfl
  | cons a r ih =>
    have h3 : (r.map fun c => D.str [c]).all flatD = true := by simp [flatD]
    rw [List.map_cons, List.any_cons, ih h3, feq_str]
    by_cases e : a = c
    · subst e
      simp
    · have e2 : ¬ c = a := fun z => e z.symm
      simp [e, e2]
theorem app_encN (f : T) (c : Nat) : D.lst ((f.map fun c => D.str [c]) ++ [D.str [c]]) = encN (f ++ [c]) := by
  unfold encN
  rw [List.map_append]
  rfl
/-- one column into the found letters: the program's inner loop -/
theorem inner_loop (x0 x1 x3 x4 x6 x7 : Option D) (L : T) (hL : L.length ≤ 1000) (l : List T) (hl : ∀ t, t ∈ l → t.length ≤ 1 ∧ ∀ c, c ∈ t → c ∈ L) (f : T) (hf : Good L f) (x5 : Option D) :
    ∃ y5 : Option D, forGo (gmName 5) (mIf (mAnd (mTest (mOp fNe (mVar 5) (mC (.str [])))) (mBorT [.frz, .frz, .own, .frz, .frz, .frz, .frz, .frz] 2 (mTest (mOp fNotIn (mVar 5) (mVar 2))))) (mApp (getV 2) (setV 2) (mVar 5)) mSkip) (l.map D.str)
      [x0, x1, some (encN f), x3, x4, x5, x6, x7] = .ok .nx [x0, x1, some (encN (l.foldl addT f)), x3, x4, y5, x6, x7] := by
  obtain ⟨s', e, y5, rfl, _⟩ := forGo_fold (mg := gmName 5) (mb := mIf (mAnd (mTest (mOp fNe (mVar 5) (mC (.str [])))) (mBorT [.frz, .frz, .own, .frz, .frz, .frz, .frz, .frz] 2 (mTest (mOp fNotIn (mVar 5) (mVar 2))))) (mApp (getV 2) (setV 2) (mVar 5)) mSkip) D.str addT
    (fun f s => ∃ y5, s = [x0, x1, some (encN f), x3, x4, y5, x6, x7] ∧ Good L f) l f [x0, x1, some (encN f), x3, x4, x5, x6, x7] ⟨x5, rfl, hf⟩ (by
      rintro f t s ht ⟨y5, rfl, hg⟩
      obtain ⟨h1, h2⟩ := hl t ht
      have hle := hg.le
      have hg2 := hg.add h2
      match t, h1 with
      | [], _ =>
        refine ⟨_, [x0, x1, some (encN f), x3, x4, some (.str []), x6, x7], rfl, ?_, some (.str []), rfl, hg2⟩
        simp [bind_ok, bind_err, bind_exc, ofO_some, ofO_none, ap_mVar, ap_mC, ap_mOp, ap_mTest, ap_mAnd, ap_mOr, ap_mNot, ap_mAndV, ap_mOrV, ap_mNotV, ap_mIfE, ap_mNil, ap_mCons, ap_mTup, ap_mLst, ap_mCall, ap_mMeth, ap_mNoPart, ap_mPart, ap_mSl, ap_mFz, ap_mFzI, ap_mDnew, ap_gmName, ap_gmNil, ap_gmCons, ap_gmTup, ap_mSkip, ap_mSeq, ap_mErr, ap_mDrop, ap_mIf, ap_mRet, ap_mAsg, ap_mSetO, ap_mItems, ap_mRng1, ap_mRng2, ap_mRev, ap_mFor, ap_mLc, ap_mYes, ap_mFld, dFld, ap_mFldO, ap_mBor, mskFrom, mdOf, flatT, flatTs, ap_mBorT, ap_mMove, ap_mRetMove, ap_getV, ap_setV, ap_getF, ap_setF, ap_mApp, ap_mClear, ap_mPut, ap_mSetL, ap_mPopD, ap_mSetFld, ap_mSetFldO, ap_mCallF, ap_mMethF, ap_mCallI, ap_mMethI, ap_mMethT, ap_mMake, ap_mIsi, ap_mRevS, ap_mLcK, ap_mNeg, ap_mLenSet, ap_mLenSetT, ap_mChain, ap_mGet2, ap_fnB, mskP, isLD_lst, isLD_dic, isIns_mk, items_lst, items_tup, items_str, items_scr, fNe, eqD]
      | [c], _ =>
        have hin := isIn_encN c f
        have lb : f.length < LB := Nat.lt_of_lt_of_le (by omega : f.length < 2000) (by decide)
        by_cases hc : c ∈ f
        · have e2 : addT f [c] = f := by simp [addT, hc]
          rw [e2] at hg2 ⊢
          refine ⟨_, [x0, x1, some (encN f), x3, x4, some (.str [c]), x6, x7], rfl, ?_, some (.str [c]), rfl, hg2⟩
          simp [bind_ok, bind_err, bind_exc, ofO_some, ofO_none, ap_mVar, ap_mC, ap_mOp, ap_mTest, ap_mAnd, ap_mOr, ap_mNot, ap_mAndV, ap_mOrV, ap_mNotV, ap_mIfE, ap_mNil, ap_mCons, ap_mTup, ap_mLst, ap_mCall, ap_mMeth, ap_mNoPart, ap_mPart, ap_mSl, ap_mFz, ap_mFzI, ap_mDnew, ap_gmName, ap_gmNil, ap_gmCons, ap_gmTup, ap_mSkip, ap_mSeq, ap_mErr, ap_mDrop, ap_mIf, ap_mRet, ap_mAsg, ap_mSetO, ap_mItems, ap_mRng1, ap_mRng2, ap_mRev, ap_mFor, ap_mLc, ap_mYes, ap_mFld, dFld, ap_mFldO, ap_mBor, mskFrom, mdOf, flatT, flatTs, ap_mBorT, ap_mMove, ap_mRetMove, ap_getV, ap_setV, ap_getF, ap_setF, ap_mApp, ap_mClear, ap_mPut, ap_mSetL, ap_mPopD, ap_mSetFld, ap_mSetFldO, ap_mCallF, ap_mMethF, ap_mCallI, ap_mMethI, ap_mMethT, ap_mMake, ap_mIsi, ap_mRevS, ap_mLcK, ap_mNeg, ap_mLenSet, ap_mLenSetT, ap_mChain, ap_mGet2, ap_fnB, mskP, isLD_lst, isLD_dic, isIns_mk, items_lst, items_tup, items_str, items_scr, fNe, eqD, fNotIn, hin, hc]
        · have e2 : addT f [c] = f ++ [c] := by simp [addT, hc]
          rw [e2] at hg2 ⊢
          refine ⟨_, [x0, x1, some (encN (f ++ [c])), x3, x4, some (.str [c]), x6, x7], rfl, ?_, some (.str [c]), rfl, hg2⟩
          simp [bind_ok, bind_err, bind_exc, ofO_some, ofO_none, ap_mVar, ap_mC, ap_mOp, ap_mTest, ap_mAnd, ap_mOr, ap_mNot, ap_mAndV, ap_mOrV, ap_mNotV, ap_mIfE, ap_mNil, ap_mCons, ap_mTup, ap_mLst, ap_mCall, ap_mMeth, ap_mNoPart, ap_mPart, ap_mSl, ap_mFz, ap_mFzI, ap_mDnew, ap_gmName, ap_gmNil, ap_gmCons, ap_gmTup, ap_mSkip, ap_mSeq, ap_mErr, ap_mDrop, ap_mIf, ap_mRet, ap_mAsg, ap_mSetO, ap_mItems, ap_mRng1, ap_mRng2, ap_mRev, ap_mFor, ap_mLc, ap_mYes, ap_mFld, dFld, ap_mFldO, ap_mBor, mskFrom, mdOf, flatT, flatTs, ap_mBorT, ap_mMove, ap_mRetMove, ap_getV, ap_setV, ap_getF, ap_setF, ap_mApp, ap_mClear, ap_mPut, ap_mSetL, ap_mPopD, ap_mSetFld, ap_mSetFldO, ap_mCallF, ap_mMethF, ap_mCallI, ap_mMethI, ap_mMethT, ap_mMake, ap_mIsi, ap_mRevS, ap_mLcK, ap_mNeg, ap_mLenSet, ap_mLenSetT, ap_mChain, ap_mGet2, ap_fnB, mskP, isLD_lst, isLD_dic, isIns_mk, items_lst, items_tup, items_str, items_scr, fNe, eqD, fNotIn, hin, hc]
          unfold encN
          simp [bind_ok, bind_err, bind_exc, ofO_some, ofO_none, ap_mVar, ap_mC, ap_mOp, ap_mTest, ap_mAnd, ap_mOr, ap_mNot, ap_mAndV, ap_mOrV, ap_mNotV, ap_mIfE, ap_mNil, ap_mCons, ap_mTup, ap_mLst, ap_mCall, ap_mMeth, ap_mNoPart, ap_mPart, ap_mSl, ap_mFz, ap_mFzI, ap_mDnew, ap_gmName, ap_gmNil, ap_gmCons, ap_gmTup, ap_mSkip, ap_mSeq, ap_mErr, ap_mDrop, ap_mIf, ap_mRet, ap_mAsg, ap_mSetO, ap_mItems, ap_mRng1, ap_mRng2, ap_mRev, ap_mFor, ap_mLc, ap_mYes, ap_mFld, dFld, ap_mFldO, ap_mBor, mskFrom, mdOf, flatT, flatTs, ap_mBorT, ap_mMove, ap_mRetMove, ap_getV, ap_setV, ap_getF, ap_setF, ap_mApp, ap_mClear, ap_mPut, ap_mSetL, ap_mPopD, ap_mSetFld, ap_mSetFldO, ap_mCallF, ap_mMethF, ap_mCallI, ap_mMethI, ap_mMethT, ap_mMake, ap_mIsi, ap_mRevS, ap_mLcK, ap_mNeg, ap_mLenSet, ap_mLenSetT, ap_mChain, ap_mGet2, ap_fnB, mskP, isLD_lst, isLD_dic, isIns_mk, items_lst, items_tup, items_str, items_scr, lb])
  exact ⟨y5, e⟩

theorem range_fold (ss : List Su) : ∀ n, n ≤ ss.length → ∀ f, (List.range n).foldl (fun f k => sumL f (ss.getD k ([], []))) f = (ss.take n).foldl sumL f := by
  intro n
  induction n with
  | zero => intro _ f; rfl
  | succ n ih =>
    intro h f
    have hn : n < ss.length := by omega
    rw [List.range_succ, List.foldl_append, ih (by omega), List.take_succ_eq_append_getElem hn, List.foldl_append]
    simp [List.getD, hn]
theorem rangeD_map (n : Nat) : rangeD 0 n = (List.range n).map fun (k : Nat) => D.int (k : Int) := by
  unfold rangeD
  refine List.map_congr_left fun k _ => ?_
  rw [Int.zero_add]
/-- the sheet's sums, as far as reading goes -/
structure Sums (L : T) (ss : List Su) : Prop where
  hL : L.length ≤ 1000
  ad : ∀ s, s ∈ ss → s.1.length ≤ 4
  len : ∀ s, s ∈ ss → ∀ w, w ∈ allW s → w.length ≤ 100
  ls : ∀ s, s ∈ ss → ∀ w, w ∈ allW s → ∀ c, c ∈ w → c ∈ L
theorem Sums.take {L : T} {ss : List Su} (h : Sums L ss) (n : Nat) : Sums L (ss.take n) :=
  ⟨h.hL, fun s hs => h.ad s (List.mem_of_mem_take hs), fun s hs => h.len s (List.mem_of_mem_take hs), fun s hs => h.ls s (List.mem_of_mem_take hs)⟩
theorem letters_to_specT {L : T} {ss : List Su} (n : Nat) (hs : Sums L (ss.take n)) (hn : ss.length ≤ 1000) (base last : Int) (hl : last + 1 = n) (h : n ≤ ss.length) :
    EV.Sheet_letters_to [some (sheetD base ss), some (.int last)] = .ok (encN (lettersN ss n)) [none, none] := by
  have mid : ∀ (k : Nat) (s : Su), k < n → ss[k]? = some s → ∀ (f : T) (x4 x5 x6 x7 : Option D), Good L f → ∃ y4 y5 y6 y7 : Option D,
      forGo (gmName 4) (mSeq (mAsg (mMethF 0 3 EV.Sheet_column (mVar 0) (mCons (mVar 3) (mCons (mVar 4) mNil))) (gmTup 2 (gmCons (gmName 6) (gmCons (gmName 7) gmNil))))
  (mFor (mItems (mOp fAdd (mVar 6) (mFz (mLst (mCons (mVar 7) mNil))))) (gmName 5) (mIf (mAnd (mTest (mOp fNe (mVar 5) (mC (.str [])))) (mBorT [.frz, .frz, .own, .frz, .frz, .frz, .frz, .frz] 2 (mTest (mOp fNotIn (mVar 5) (mVar 2))))) (mApp (getV 2) (setV 2) (mVar 5)) mSkip))) (rangeD 0 (widthI s).toNat)
        [some (sheetD base ss), some (.int last), some (encN f), some (.int (k : Int)), x4, x5, x6, x7] = .ok .nx [some (sheetD base ss), some (.int last), some (encN (sumL f s)), some (.int (k : Int)), y4, y5, y6, y7] := by
    intro k s hkn hk f x4 x5 x6 x7 hg
    have hmem : s ∈ ss.take n := List.mem_of_getElem? (i := k) (by rw [List.getElem?_take, if_pos hkn]; exact hk)
    rw [rangeD_map]
    obtain ⟨s', e, y4, y5, y6, y7, rfl, _⟩ := forGo_fold (mg := gmName 4) (mb := (mSeq (mAsg (mMethF 0 3 EV.Sheet_column (mVar 0) (mCons (mVar 3) (mCons (mVar 4) mNil))) (gmTup 2 (gmCons (gmName 6) (gmCons (gmName 7) gmNil))))
  (mFor (mItems (mOp fAdd (mVar 6) (mFz (mLst (mCons (mVar 7) mNil))))) (gmName 5) (mIf (mAnd (mTest (mOp fNe (mVar 5) (mC (.str [])))) (mBorT [.frz, .frz, .own, .frz, .frz, .frz, .frz, .frz] 2 (mTest (mOp fNotIn (mVar 5) (mVar 2))))) (mApp (getV 2) (setV 2) (mVar 5)) mSkip)))) (fun (k : Nat) => D.int (k : Int)) (fun f p => ((allW s).map fun w => letAt w p).foldl addT f)
      (fun f sl => ∃ y4 y5 y6 y7 : Option D, sl = [some (sheetD base ss), some (.int last), some (encN f), some (.int (k : Int)), y4, y5, y6, y7] ∧ Good L f) (List.range (widthI s).toNat) f _ ⟨x4, x5, x6, x7, rfl, hg⟩ (by
        rintro f p sl hp ⟨y4, y5, y6, y7, rfl, hg⟩
        have ec := column_spec base ss k s hk p
        have hcell : ∀ t, t ∈ cells s p → t.length ≤ 1 ∧ ∀ c, c ∈ t → c ∈ L := fun t ht => by
          have : ∃ w, w ∈ allW s ∧ t = letAt w p := by
            unfold cells at ht
            rcases List.mem_append.mp ht with q | q
            · obtain ⟨w, hw, e⟩ := List.mem_map.mp (List.mem_filter.mp q).1
              exact ⟨w, List.mem_append.mpr (.inl hw), e.symm⟩
            · exact ⟨s.2, List.mem_append.mpr (.inr (by simp)), List.mem_singleton.mp q⟩
          obtain ⟨w, hw, rfl⟩ := this
          exact ⟨letAt_le1 w p, fun c hc => hs.ls s hmem w hw c (letAt_mem hc)⟩
        obtain ⟨z5, ei⟩ := inner_loop (some (sheetD base ss)) (some (.int last)) (some (.int (k : Int))) (some (.int (p : Int))) (some (.lst (((s.1.map fun w => letAt w p).filter neT).map D.str))) (some (.str (letAt s.2 p))) L hs.hL (cells s p) hcell f hg y5
        rw [cells_fold] at ei
        refine ⟨_, _, rfl, ?_, ⟨some (.int (p : Int)), z5, some (.lst (((s.1.map fun w => letAt w p).filter neT).map D.str)), some (.str (letAt s.2 p)), rfl, hg.adds _ fun t ht c hc => ?_⟩⟩
        rotate_left
        · obtain ⟨w, hw, rfl⟩ := List.mem_map.mp ht
          exact hs.ls s hmem w hw c (letAt_mem hc)
        · have lb1 : 1 ≤ LB := by decide
          have hc4 : ((s.1.map fun w => letAt w p).filter neT).length + 1 ≤ LB := by
            have h1 := List.length_filter_le neT (s.1.map fun w => letAt w p)
            rw [List.length_map] at h1
            have h2 := hs.ad s hmem
            exact Nat.le_trans (by omega) (by decide : 100 ≤ LB)
          have e1 : fAdd (.lst (((s.1.map fun w => letAt w p).filter neT).map D.str)) (.lst [.str (letAt s.2 p)]) = some (.lst ((cells s p).map D.str)) := by
            unfold fAdd
            dsimp only
            rw [if_pos (by simpa using hc4)]
            unfold cells
            rw [List.map_append]
            rfl
          simp [bind_ok, bind_err, bind_exc, ofO_some, ofO_none, ap_mVar, ap_mC, ap_mOp, ap_mTest, ap_mAnd, ap_mOr, ap_mNot, ap_mAndV, ap_mOrV, ap_mNotV, ap_mIfE, ap_mNil, ap_mCons, ap_mTup, ap_mLst, ap_mCall, ap_mMeth, ap_mNoPart, ap_mPart, ap_mSl, ap_mFz, ap_mFzI, ap_mDnew, ap_gmName, ap_gmNil, ap_gmCons, ap_gmTup, ap_mSkip, ap_mSeq, ap_mErr, ap_mDrop, ap_mIf, ap_mRet, ap_mAsg, ap_mSetO, ap_mItems, ap_mRng1, ap_mRng2, ap_mRev, ap_mFor, ap_mLc, ap_mYes, ap_mFld, dFld, ap_mFldO, ap_mBor, mskFrom, mdOf, flatT, flatTs, ap_mBorT, ap_mMove, ap_mRetMove, ap_getV, ap_setV, ap_getF, ap_setF, ap_mApp, ap_mClear, ap_mPut, ap_mSetL, ap_mPopD, ap_mSetFld, ap_mSetFldO, ap_mCallF, ap_mMethF, ap_mCallI, ap_mMethI, ap_mMethT, ap_mMake, ap_mIsi, ap_mRevS, ap_mLcK, ap_mNeg, ap_mLenSet, ap_mLenSetT, ap_mChain, ap_mGet2, ap_fnB, mskP, isLD_lst, isLD_dic, isIns_mk, items_lst, items_tup, items_str, items_scr, sheetD]
          simp only [sheetD] at ec ei
          simp only [ec, ap_gmTup, ap_gmCons, ap_gmName, ap_gmNil]
          simp [bind_ok, bind_err, bind_exc, ofO_some, ofO_none, ap_mVar, ap_mC, ap_mOp, ap_mTest, ap_mAnd, ap_mOr, ap_mNot, ap_mAndV, ap_mOrV, ap_mNotV, ap_mIfE, ap_mNil, ap_mCons, ap_mTup, ap_mLst, ap_mCall, ap_mMeth, ap_mNoPart, ap_mPart, ap_mSl, ap_mFz, ap_mFzI, ap_mDnew, ap_gmName, ap_gmNil, ap_gmCons, ap_gmTup, ap_mSkip, ap_mSeq, ap_mErr, ap_mDrop, ap_mIf, ap_mRet, ap_mAsg, ap_mSetO, ap_mItems, ap_mRng1, ap_mRng2, ap_mRev, ap_mFor, ap_mLc, ap_mYes, ap_mFld, dFld, ap_mFldO, ap_mBor, mskFrom, mdOf, flatT, flatTs, ap_mBorT, ap_mMove, ap_mRetMove, ap_getV, ap_setV, ap_getF, ap_setF, ap_mApp, ap_mClear, ap_mPut, ap_mSetL, ap_mPopD, ap_mSetFld, ap_mSetFldO, ap_mCallF, ap_mMethF, ap_mCallI, ap_mMethI, ap_mMethT, ap_mMake, ap_mIsi, ap_mRevS, ap_mLcK, ap_mNeg, ap_mLenSet, ap_mLenSetT, ap_mChain, ap_mGet2, ap_fnB, mskP, isLD_lst, isLD_dic, isIns_mk, items_lst, items_tup, items_str, items_scr, e1, lb1]
          exact ei)
    exact ⟨y4, y5, y6, y7, e⟩
  have outer := forGo_fold (mg := gmName 3) (mb := mFor (mRng1 (mCons (mMethF 0 2 EV.Sheet_columns (mVar 0) (mCons (mVar 3) mNil)) mNil)) (gmName 4) (mSeq (mAsg (mMethF 0 3 EV.Sheet_column (mVar 0) (mCons (mVar 3) (mCons (mVar 4) mNil))) (gmTup 2 (gmCons (gmName 6) (gmCons (gmName 7) gmNil))))
  (mFor (mItems (mOp fAdd (mVar 6) (mFz (mLst (mCons (mVar 7) mNil))))) (gmName 5) (mIf (mAnd (mTest (mOp fNe (mVar 5) (mC (.str [])))) (mBorT [.frz, .frz, .own, .frz, .frz, .frz, .frz, .frz] 2 (mTest (mOp fNotIn (mVar 5) (mVar 2))))) (mApp (getV 2) (setV 2) (mVar 5)) mSkip)))) (fun (k : Nat) => D.int (k : Int)) (fun f k => sumL f (ss.getD k ([], [])))
    (fun f sl => ∃ y3 y4 y5 y6 y7 : Option D, sl = [some (sheetD base ss), some (.int last), some (encN f), y3, y4, y5, y6, y7] ∧ Good L f) (List.range n) [] [some (sheetD base ss), some (.int last), some (encN []), none, none, none, none, none] ⟨none, none, none, none, none, rfl, Good.nil L⟩ (by
      rintro f k sl hk ⟨y3, y4, y5, y6, y7, rfl, hg⟩
      have hk2 : k < ss.length := by have := List.mem_range.mp hk; omega
      have hks : ss[k]? = some ss[k] := List.getElem?_eq_getElem hk2
      have hd : ss.getD k ([], []) = ss[k] := by simp [List.getD, hk2]
      rw [hd]
      have hkn : k < n := List.mem_range.mp hk
      have hmem : ss[k] ∈ ss.take n := List.mem_of_getElem? (i := k) (by rw [List.getElem?_take, if_pos hkn]; exact hks)
      have ew := columns_spec base ss k ss[k] hks (hs.ad _ hmem)
      have hw := widthI_bdN 100 fun w hw => hs.len _ hmem w hw
      have hw2 : -4611686018427387904 ≤ widthI ss[k] ∧ widthI ss[k] ≤ 1000000 := ⟨by omega, by omega⟩
      obtain ⟨z4, z5, z6, z7, em⟩ := mid k ss[k] hkn hks f y4 y5 y6 y7 hg
      refine ⟨_, _, rfl, ?_, ⟨some (.int (k : Int)), z4, z5, z6, z7, rfl, hg.sumL fun w hw => hs.ls _ hmem w hw⟩⟩
      rw [ap_mFor]
      simp only [sheetD] at ew em
      simp [ap_mRng1, ap_mCons, ap_mNil, ap_mMethF, ap_mVar, bind_ok, isIns_mk, sheetD, ew, hw2, em])
  obtain ⟨s', e, y3, y4, y5, y6, y7, rfl, _⟩ := outer
  rw [range_fold ss n h, ← rangeD_map] at e
  have lb : 0 ≤ LB := by decide
  have hn3 : last + 1 ≤ 1000000 := by omega
  have hn4 : (-4611686018427387904 : Int) ≤ last + 1 := by omega
  have hn5 : (last + 1).toNat = n := by omega
  have e0 : encN [] = D.lst [] := rfl
  rw [e0] at e
  unfold EV.Sheet_letters_to
  rw [ap_fnB, ap_mSeq]
  simp only [ap_mSetO, ap_mLst, ap_mNil, bind_ok, lb]
  simp [ap_mSeq, ap_mFor (mRng1 (mCons (mOp fAdd (mVar 1) (mC (.int 1))) mNil)), ap_mRng1, ap_mCons, ap_mNil, ap_mOp, ap_mVar, ap_mC, fAdd, bind_ok, ofO_some, hn3, hn4, hn5]
  rw [e]
  simp [ap_mRetMove, mskP, lettersN]
theorem letters_to_spec {L : T} {ss : List Su} (hs : Sums L ss) (hn : ss.length ≤ 1000) (base last : Int) (n : Nat) (hl : last + 1 = n) (h : n ≤ ss.length) :
    EV.Sheet_letters_to [some (sheetD base ss), some (.int last)] = .ok (encN (lettersN ss n)) [none, none] := letters_to_specT n (hs.take n) hn base last hl h
end PP

set_option Elab.async false
set_option linter.all false
set_option maxRecDepth 100000
set_option maxHeartbeats 4000000
namespace PP
open MM PySem L2
theorem mMethF_ok {f : Sl → R D} {k np : Nat} {m : ME} {n : MA} {o d : D} {ds : List D} {sl s1 s2 r : Sl} (h1 : m sl = .ok o s1) (hi : isIns k o = true) (h2 : n s1 = .ok ds s2) (hl : ds.length + 1 = np) (h3 : f ((o :: ds).map some) = .ok d r) : mMethF k np f m n sl = .ok d s2 := by
  rw [ap_mMethF, h1, bind_ok, if_pos hi, h2, bind_ok, if_pos hl, h3]
theorem mCallF_ok {f : Sl → R D} {np : Nat} {n : MA} {d : D} {ds : List D} {sl s2 r : Sl} (h2 : n sl = .ok ds s2) (hl : ds.length = np) (h3 : f (ds.map some) = .ok d r) : mCallF np f n sl = .ok d s2 := by
  rw [ap_mCallF, h2, bind_ok, if_pos hl, h3]
theorem mem_abc {c : Nat} (h : Small c) : c ∈ ([97, 98, 99, 100, 101, 102, 103, 104, 105, 106, 107, 108, 109, 110, 111, 112, 113, 114, 115, 116, 117, 118, 119, 120, 121, 122] : T) := by
  obtain ⟨k, rfl⟩ : ∃ k, c = 97 + k := ⟨c - 97, by have := h.1; omega⟩
  have hk : k < 26 := by have := h.2; omega
  have key : ∀ m, m < 26 → (97 + m) ∈ ([97, 98, 99, 100, 101, 102, 103, 104, 105, 106, 107, 108, 109, 110, 111, 112, 113, 114, 115, 116, 117, 118, 119, 120, 121, 122] : T) := by decide
  exact key k hk
theorem is_word_spec (w : T) (h0 : w ≠ []) (h6 : w.length ≤ 6) (hs : ∀ c, c ∈ w → Small c) : EV.is_word [some (.str w)] = .ok (.bl true) [none] := by
  obtain ⟨s', e, x, rfl⟩ := forGo_fold (mg := gmName 1) (mb := mIf (mTest (mOp fNotIn (mVar 1) (mC (.str [97, 98, 99, 100, 101, 102, 103, 104, 105, 106, 107, 108, 109, 110, 111, 112, 113, 114, 115, 116, 117, 118, 119, 120, 121, 122])))) (mRet (mC (.bl false))) mSkip) (fun c : Nat => D.str [c]) (fun (u : Unit) _ => u)
    (fun _ s => ∃ x, s = [some (.str w), x]) w () [some (.str w), none] ⟨none, rfl⟩ (by
      rintro u c s hc ⟨x, rfl⟩
      have hm := mem_abc (hs c hc)
      refine ⟨_, [some (.str w), some (.str [c])], rfl, ?_, _, rfl⟩
      have hi : fNotIn (.str [c]) (.str [97, 98, 99, 100, 101, 102, 103, 104, 105, 106, 107, 108, 109, 110, 111, 112, 113, 114, 115, 116, 117, 118, 119, 120, 121, 122]) = some (.bl false) := by
        unfold fNotIn isIn
        simp only [decide_eq_true hm]
        rfl
      simp [bind_ok, bind_err, bind_exc, ofO_some, ofO_none, ap_mVar, ap_mC, ap_mOp, ap_mTest, ap_mAnd, ap_mOr, ap_mNot, ap_mAndV, ap_mOrV, ap_mNotV, ap_mIfE, ap_mNil, ap_mCons, ap_mTup, ap_mLst, ap_mCall, ap_mMeth, ap_mNoPart, ap_mPart, ap_mSl, ap_mFz, ap_mFzI, ap_mDnew, ap_gmName, ap_gmNil, ap_gmCons, ap_gmTup, ap_mSkip, ap_mSeq, ap_mErr, ap_mDrop, ap_mIf, ap_mRet, ap_mAsg, ap_mSetO, ap_mItems, ap_mRng1, ap_mRng2, ap_mRev, ap_mFor, ap_mLc, ap_mYes, ap_mFld, dFld, ap_mFldO, ap_mBor, mskFrom, mdOf, flatT, flatTs, ap_mBorT, ap_mMove, ap_mRetMove, ap_getV, ap_setV, ap_getF, ap_setF, ap_mApp, ap_mClear, ap_mPut, ap_mSetL, ap_mPopD, ap_mSetFld, ap_mSetFldO, ap_mCallF, ap_mMethF, ap_mCallI, ap_mMethI, ap_mMethT, ap_mMake, ap_mIsi, ap_mRevS, ap_mLcK, ap_mNeg, ap_mLenSet, ap_mLenSetT, ap_mChain, ap_mGet2, ap_fnB, mskP, isLD_lst, isLD_dic, isIns_mk, items_lst, items_tup, items_str, items_scr, hi])
  have h7 : ¬ (6 : Int) < w.length := by omega
  unfold EV.is_word
  simp [bind_ok, bind_err, bind_exc, ofO_some, ofO_none, ap_mVar, ap_mC, ap_mOp, ap_mTest, ap_mAnd, ap_mOr, ap_mNot, ap_mAndV, ap_mOrV, ap_mNotV, ap_mIfE, ap_mNil, ap_mCons, ap_mTup, ap_mLst, ap_mCall, ap_mMeth, ap_mNoPart, ap_mPart, ap_mSl, ap_mFz, ap_mFzI, ap_mDnew, ap_gmName, ap_gmNil, ap_gmCons, ap_gmTup, ap_mSkip, ap_mSeq, ap_mErr, ap_mDrop, ap_mIf, ap_mRet, ap_mAsg, ap_mSetO, ap_mItems, ap_mRng1, ap_mRng2, ap_mRev, ap_mFor, ap_mLc, ap_mYes, ap_mFld, dFld, ap_mFldO, ap_mBor, mskFrom, mdOf, flatT, flatTs, ap_mBorT, ap_mMove, ap_mRetMove, ap_getV, ap_setV, ap_getF, ap_setF, ap_mApp, ap_mClear, ap_mPut, ap_mSetL, ap_mPopD, ap_mSetFld, ap_mSetFldO, ap_mCallF, ap_mMethF, ap_mCallI, ap_mMethI, ap_mMethT, ap_mMake, ap_mIsi, ap_mRevS, ap_mLcK, ap_mNeg, ap_mLenSet, ap_mLenSetT, ap_mChain, ap_mGet2, ap_fnB, mskP, isLD_lst, isLD_dic, isIns_mk, items_lst, items_tup, items_str, items_scr, fEq, eqD, h0, fGt, fLen, h7, e]
theorem SheetOk.sums {base : Int} {ss : List Su} (h : SheetOk base ss) : ∃ L, Sums L ss ∧ (L.length : Int) ≤ base ∧ L.length ≤ 8 := by
  obtain ⟨L, h1, h2, h3⟩ := h.ls
  exact ⟨L, ⟨by omega, fun s hs => (h.ad s hs).2, fun s hs w hw => Nat.le_trans (h.wd s hs w hw).2.1 (by omega), h3⟩, h1, h2⟩
theorem lettersN_good {L : T} {ss : List Su} (hs : Sums L ss) (n : Nat) : Good L (lettersN ss n) := Good.letters (ss.take n) (Good.nil L) fun s h => hs.ls s (List.mem_of_mem_take h)
theorem letters_eq (ss : List Su) : letters ss = lettersN ss ss.length := by unfold letters lettersN; rw [List.take_length]
theorem init_words (base : Int) (ss : List Su) (h : SheetOk base ss) (k : Int) (s : Su) (hs : s ∈ ss) (x4 : Option D) : ∃ y4 : Option D, forGo (gmName 4) (mIf (mNot (mTest (mCallF 1 EV.is_word (mCons (mVar 4) mNil)))) (mRaiseO 9 2 (mCons (mVar 3) (mCons (mC (.str [119, 111, 114, 100])) mNil))) mSkip) ((allW s).map D.str)
      [some (sheetD base ss), some (.int base), some (encSums ss), some (.int k), x4, some (encW s.1), some (.str s.2)] = .ok .nx [some (sheetD base ss), some (.int base), some (encSums ss), some (.int k), y4, some (encW s.1), some (.str s.2)] := by
  obtain ⟨s', e, y4, rfl⟩ := forGo_fold (mg := gmName 4) (mb := mIf (mNot (mTest (mCallF 1 EV.is_word (mCons (mVar 4) mNil)))) (mRaiseO 9 2 (mCons (mVar 3) (mCons (mC (.str [119, 111, 114, 100])) mNil))) mSkip) D.str (fun (u : Unit) _ => u)
    (fun _ sl => ∃ y4, sl = [some (sheetD base ss), some (.int base), some (encSums ss), some (.int k), y4, some (encW s.1), some (.str s.2)]) (allW s) () _ ⟨x4, rfl⟩ (by
      rintro u w sl hw ⟨y4, rfl⟩
      obtain ⟨h1, h2, h3⟩ := h.wd s hs w hw
      have ew := is_word_spec w h1 h2 h3
      refine ⟨_, [some (sheetD base ss), some (.int base), some (encSums ss), some (.int k), some (.str w), some (encW s.1), some (.str s.2)], rfl, ?_, _, rfl⟩
      simp [bind_ok, bind_err, bind_exc, ofO_some, ofO_none, ap_mVar, ap_mC, ap_mOp, ap_mTest, ap_mAnd, ap_mOr, ap_mNot, ap_mAndV, ap_mOrV, ap_mNotV, ap_mIfE, ap_mNil, ap_mCons, ap_mTup, ap_mLst, ap_mCall, ap_mMeth, ap_mNoPart, ap_mPart, ap_mSl, ap_mFz, ap_mFzI, ap_mDnew, ap_gmName, ap_gmNil, ap_gmCons, ap_gmTup, ap_mSkip, ap_mSeq, ap_mErr, ap_mDrop, ap_mIf, ap_mRet, ap_mAsg, ap_mSetO, ap_mItems, ap_mRng1, ap_mRng2, ap_mRev, ap_mFor, ap_mLc, ap_mYes, ap_mFld, dFld, ap_mFldO, ap_mBor, mskFrom, mdOf, flatT, flatTs, ap_mBorT, ap_mMove, ap_mRetMove, ap_getV, ap_setV, ap_getF, ap_setF, ap_mApp, ap_mClear, ap_mPut, ap_mSetL, ap_mPopD, ap_mSetFld, ap_mSetFldO, ap_mCallF, ap_mMethF, ap_mCallI, ap_mMethI, ap_mMethT, ap_mMake, ap_mIsi, ap_mRevS, ap_mLcK, ap_mNeg, ap_mLenSet, ap_mLenSetT, ap_mChain, ap_mGet2, ap_fnB, mskP, isLD_lst, isLD_dic, isIns_mk, items_lst, items_tup, items_str, items_scr, ew])
  exact ⟨y4, e⟩
def initBody : MS := (mSeq (mAsg (mOp fIx (mVar 2) (mVar 3)) (gmTup 2 (gmCons (gmName 5) (gmCons (gmName 6) gmNil))))
  (mSeq (mIf (mOr (mTest (mOp fLt (mCall fLen (mCons (mVar 5) mNil)) (mC (.int 1)))) (mTest (mOp fGt (mCall fLen (mCons (mVar 5) mNil)) (mC (.int 4))))) (mRaiseO 9 2 (mCons (mVar 3) (mCons (mC (.str [97, 100, 100, 101, 110, 100, 115])) mNil))) mSkip)
  (mSeq (mFor (mItems (mOp fAdd (mVar 5) (mTup (mCons (mVar 6) mNil)))) (gmName 4) (mIf (mNot (mTest (mCallF 1 EV.is_word (mCons (mVar 4) mNil)))) (mRaiseO 9 2 (mCons (mVar 3) (mCons (mC (.str [119, 111, 114, 100])) mNil))) mSkip))
  (mIf (mTest (mOp fGt (mBor [.pin, .frz, .frz, .frz, .frz, .frz, .frz] 0 (mCall fLen (mCons (mFz (mMethF 0 2 EV.Sheet_letters_to (mVar 0) (mCons (mVar 3) mNil))) mNil))) (mCall fMin (mCons (mVar 1) (mCons (mC (.int 8)) mNil))))) (mRaiseO 9 2 (mCons (mVar 3) (mCons (mC (.str [108, 101, 116, 116, 101, 114, 115])) mNil))) mSkip))))
theorem init_step (base : Int) (ss : List Su) (h : SheetOk base ss) (k : Nat) (hk2 : k < ss.length) (y3 y4 y5 y6 : Option D) : ∃ z3 z4 z5 z6 : Option D, initBody [some (sheetD base ss), some (.int base), some (encSums ss), some (.int (k : Int)), y4, y5, y6] = .ok .nx [some (sheetD base ss), some (.int base), some (encSums ss), z3, z4, z5, z6] := by
  obtain ⟨L, hL, hL1, hL2⟩ := h.sums
  have lb1 : 1 ≤ LB := by decide
  have hks : ss[k]? = some ss[k] := List.getElem?_eq_getElem hk2
  have hmem : ss[k] ∈ ss := List.getElem_mem hk2
  obtain ⟨a1, a2⟩ := h.ad _ hmem
  obtain ⟨z4, ew⟩ := init_words base ss h (k : Int) ss[k] hmem y4
  have e1 := encSums_at hks
  have e2 := allW_add a2
  have e3 := letters_to_spec hL (by have := h.most; omega) base (k : Int) (k + 1) (by push_cast; rfl) (by omega)
  have e4 : fLen [encW ss[k].1] = some (.int (ss[k].1.length : Nat)) := by unfold encW fLen; simp
  have h4 : ¬ ((ss[k].1.length : Nat) : Int) < 1 := by omega
  have h5 : ¬ (4 : Int) < ((ss[k].1.length : Nat) : Int) := by omega
  have hg := (lettersN_good hL (k + 1)).le
  have e5 : fLen [encN (lettersN ss (k + 1))] = some (.int ((lettersN ss (k + 1)).length : Nat)) := by unfold encN fLen; simp
  have e6 : isLD (encN (lettersN ss (k + 1))) = true := rfl
  have h6 : ¬ (if (8 : Int) < base then 8 else base) < (((lettersN ss (k + 1)).length : Nat) : Int) := by split <;> omega
  refine ⟨some (.int (k : Int)), z4, some (encW ss[k].1), some (.str ss[k].2), ?_⟩
  have e7 : encS ss[k] = .tup [encW ss[k].1, .str ss[k].2] := rfl
  have e8 : isIns 0 (sheetD base ss) = true := rfl
  rw [e7] at e1
  unfold initBody
  simp only [ap_mSeq, ap_mAsg, ap_mOp, ap_mVar, ap_mIf, ap_mOr, ap_mTest, ap_mCall, ap_mCons, ap_mNil, ap_mC, ap_mFor, ap_mItems, ap_mTup, ap_gmTup, ap_gmCons, ap_gmName, ap_gmNil, ap_mSkip, bind_ok, ofO_some, List.set, e1, List.getElem?_cons_succ, List.getElem?_cons_zero, List.length_cons, List.length_nil, Option.bind_some, e4, fLt, fGt, h4, h5, decide_false, Bool.false_eq_true, if_false, if_true, lb1, Nat.zero_add, e2, items_tup, ew]
  have hm : fMin [.int base, .int 8] = some (.int (if (8 : Int) < base then 8 else base)) := rfl
  have hb : mBor [.pin, .frz, .frz, .frz, .frz, .frz, .frz] 0 (mCall fLen (mCons (mFz (mMethF 0 2 EV.Sheet_letters_to (mVar 0) (mCons (mVar 3) mNil))) mNil)) [some (sheetD base ss), some (.int base), some (encSums ss), some (.int (k : Int)), z4, some (encW ss[k].1), some (.str ss[k].2)] =
      .ok (.int ((lettersN ss (k + 1)).length : Nat)) [some (sheetD base ss), some (.int base), some (encSums ss), some (.int (k : Int)), z4, some (encW ss[k].1), some (.str ss[k].2)] := by
    have em : mMethF 0 2 EV.Sheet_letters_to (mVar 0) (mCons (mVar 3) mNil) [some (sheetD base ss), some (.int base), some (encSums ss), some (.int (k : Int)), z4, some (encW ss[k].1), some (.str ss[k].2)] =
        .ok (encN (lettersN ss (k + 1))) [some (sheetD base ss), some (.int base), some (encSums ss), some (.int (k : Int)), z4, some (encW ss[k].1), some (.str ss[k].2)] := by
      exact mMethF_ok rfl e8 rfl rfl e3
    have ef : mFz (mMethF 0 2 EV.Sheet_letters_to (mVar 0) (mCons (mVar 3) mNil)) [some (sheetD base ss), some (.int base), some (encSums ss), some (.int (k : Int)), z4, some (encW ss[k].1), some (.str ss[k].2)] =
        .ok (encN (lettersN ss (k + 1))) [some (sheetD base ss), some (.int base), some (encSums ss), some (.int (k : Int)), z4, some (encW ss[k].1), some (.str ss[k].2)] := by
      rw [ap_mFz, em, bind_ok, if_pos e6]
    have ek : mskFrom [.pin, .frz, .frz, .frz, .frz, .frz, .frz] 0 0 [some (sheetD base ss), some (.int base), some (encSums ss), some (.int (k : Int)), z4, some (encW ss[k].1), some (.str ss[k].2)] = [some (sheetD base ss), some (.int base), some (encSums ss), some (.int (k : Int)), z4, some (encW ss[k].1), some (.str ss[k].2)] := by
      simp [mskFrom, mdOf]
    have ec : mCall fLen (mCons (mFz (mMethF 0 2 EV.Sheet_letters_to (mVar 0) (mCons (mVar 3) mNil))) mNil) [some (sheetD base ss), some (.int base), some (encSums ss), some (.int (k : Int)), z4, some (encW ss[k].1), some (.str ss[k].2)] =
        .ok (.int ((lettersN ss (k + 1)).length : Nat)) [some (sheetD base ss), some (.int base), some (encSums ss), some (.int (k : Int)), z4, some (encW ss[k].1), some (.str ss[k].2)] := by
      rw [ap_mCall, ap_mCons, ef]
      simp only [bind_ok, ap_mNil, e5, ofO_some]
    rw [ap_mBor, ek, ec]
    rfl
  rw [hb]
  simp only [bind_ok, List.getElem?_cons_succ, List.getElem?_cons_zero, hm, ofO_some, h6, decide_false, Bool.false_eq_true, if_false]
theorem init_loop (base : Int) (ss : List Su) (h : SheetOk base ss) : ∃ y3 y4 y5 y6 : Option D, forGo (gmName 3) initBody (rangeD 0 ss.length) [some (sheetD base ss), some (.int base), some (encSums ss), none, none, none, none] = .ok .nx [some (sheetD base ss), some (.int base), some (encSums ss), y3, y4, y5, y6] := by
  obtain ⟨s', e, y3, y4, y5, y6, rfl⟩ := forGo_fold (mg := gmName 3) (mb := initBody) (fun (k : Nat) => D.int (k : Int)) (fun (u : Unit) _ => u)
    (fun _ sl => ∃ y3 y4 y5 y6 : Option D, sl = [some (sheetD base ss), some (.int base), some (encSums ss), y3, y4, y5, y6]) (List.range ss.length) () [some (sheetD base ss), some (.int base), some (encSums ss), none, none, none, none] ⟨none, none, none, none, rfl⟩ (by
      rintro u k sl hk ⟨y3, y4, y5, y6, rfl⟩
      obtain ⟨z3, z4, z5, z6, e⟩ := init_step base ss h k (List.mem_range.mp hk) y3 y4 y5 y6
      exact ⟨_, _, rfl, e, z3, z4, z5, z6, rfl⟩)
  rw [← rangeD_map] at e
  exact ⟨y3, y4, y5, y6, e⟩
theorem init_eq : EV.Sheet_init = fnX [.pin, .frz, .frz] false 4
  (mSeq (mIf (mOr (mTest (mOp fLt (mVar 1) (mC (.int 2)))) (mTest (mOp fGt (mVar 1) (mC (.int 12))))) (mRaiseO 9 2 (mCons (mC (.int 0)) (mCons (mC (.str [98, 97, 115, 101])) mNil))) mSkip)
  (mSeq (mIf (mOr (mTest (mOp fLt (mCall fLen (mCons (mVar 2) mNil)) (mC (.int 1)))) (mTest (mOp fGt (mCall fLen (mCons (mVar 2) mNil)) (mC (.int 3))))) (mRaiseO 9 2 (mCons (mC (.int 0)) (mCons (mC (.str [115, 117, 109, 115])) mNil))) mSkip)
  (mSeq (mSetFld 0 0 0 (mVar 1))
  (mSeq (mSetFld 0 0 1 (mFz (mCall fList (mCons (mVar 2) mNil))))
  (mFor (mRng1 (mCons (mCall fLen (mCons (mVar 2) mNil)) mNil)) (gmName 3) initBody))))) := rfl
theorem init_spec (base : Int) (ss : List Su) (h : SheetOk base ss) : EV.Sheet_init [some (.ins 0 []), some (.int base), some (encSums ss)] = .ok .non [some (sheetD base ss), none, none] := by
  obtain ⟨y3, y4, y5, y6, e⟩ := init_loop base ss h
  have h1 := h.b1
  have h2 := h.b2
  have h3 := h.few
  have h4 := h.most
  have n1 : ¬ base < 2 := by omega
  have n2 : ¬ 12 < base := by omega
  have n3 : ¬ (ss.length : Int) < 1 := by omega
  have n4 : ¬ (3 : Int) < (ss.length : Int) := by omega
  have n5 : -(2 ^ 62) ≤ ((ss.length : Nat) : Int) ∧ ((ss.length : Nat) : Int) ≤ 1000000 := ⟨by omega, by omega⟩
  have e4 : fLen [encSums ss] = some (.int (ss.length : Nat)) := by unfold encSums fLen; simp
  have e5 : fList [encSums ss] = some (encSums ss) := rfl
  have e6 : isLD (encSums ss) = true := rfl
  rw [init_eq]
  simp only [sheetD] at e
  refine fnX_ok ?_
  simp [bind_ok, bind_err, bind_exc, ofO_some, ofO_none, ap_mVar, ap_mC, ap_mOp, ap_mTest, ap_mAnd, ap_mOr, ap_mNot, ap_mAndV, ap_mOrV, ap_mNotV, ap_mIfE, ap_mNil, ap_mCons, ap_mTup, ap_mLst, ap_mCall, ap_mMeth, ap_mNoPart, ap_mPart, ap_mSl, ap_mFz, ap_mFzI, ap_mDnew, ap_gmName, ap_gmNil, ap_gmCons, ap_gmTup, ap_mSkip, ap_mSeq, ap_mErr, ap_mDrop, ap_mIf, ap_mRet, ap_mAsg, ap_mSetO, ap_mItems, ap_mRng1, ap_mRng2, ap_mRev, ap_mFor, ap_mLc, ap_mYes, ap_mFld, dFld, ap_mFldO, ap_mBor, mskFrom, mdOf, flatT, flatTs, ap_mBorT, ap_mMove, ap_mRetMove, ap_getV, ap_setV, ap_getF, ap_setF, ap_mApp, ap_mClear, ap_mPut, ap_mSetL, ap_mPopD, ap_mSetFld, ap_mSetFldO, ap_mCallF, ap_mMethF, ap_mCallI, ap_mMethI, ap_mMethT, ap_mMake, ap_mIsi, ap_mRevS, ap_mLcK, ap_mNeg, ap_mLenSet, ap_mLenSetT, ap_mChain, ap_mGet2, ap_fnB, mskP, isLD_lst, isLD_dic, isIns_mk, items_lst, items_tup, items_str, items_scr, fLt, fGt, n1, n2, e4, n3, n4, e5, e6]
  rw [if_pos (by simpa using n5)]
  simp [bind_ok, bind_err, bind_exc, ofO_some, ofO_none, ap_mVar, ap_mC, ap_mOp, ap_mTest, ap_mAnd, ap_mOr, ap_mNot, ap_mAndV, ap_mOrV, ap_mNotV, ap_mIfE, ap_mNil, ap_mCons, ap_mTup, ap_mLst, ap_mCall, ap_mMeth, ap_mNoPart, ap_mPart, ap_mSl, ap_mFz, ap_mFzI, ap_mDnew, ap_gmName, ap_gmNil, ap_gmCons, ap_gmTup, ap_mSkip, ap_mSeq, ap_mErr, ap_mDrop, ap_mIf, ap_mRet, ap_mAsg, ap_mSetO, ap_mItems, ap_mRng1, ap_mRng2, ap_mRev, ap_mFor, ap_mLc, ap_mYes, ap_mFld, dFld, ap_mFldO, ap_mBor, mskFrom, mdOf, flatT, flatTs, ap_mBorT, ap_mMove, ap_mRetMove, ap_getV, ap_setV, ap_getF, ap_setF, ap_mApp, ap_mClear, ap_mPut, ap_mSetL, ap_mPopD, ap_mSetFld, ap_mSetFldO, ap_mCallF, ap_mMethF, ap_mCallI, ap_mMethI, ap_mMethT, ap_mMake, ap_mIsi, ap_mRevS, ap_mLcK, ap_mNeg, ap_mLenSet, ap_mLenSetT, ap_mChain, ap_mGet2, ap_fnB, mskP, isLD_lst, isLD_dic, isIns_mk, items_lst, items_tup, items_str, items_scr, e, sheetD]
end PP

set_option Elab.async false
set_option linter.all false
set_option maxRecDepth 100000
set_option maxHeartbeats 4000000
namespace PP
open MM PySem L2
theorem cut_letAt (w : T) (p : Nat) : cutD w.reverse (some (p : Int)) (some ((p : Int) + 1)) = letAt w p := by
  unfold cutD letAt
  have h1 : HT.sIx w.reverse.length 0 (some (p : Int)) = min p w.reverse.length := by
    have e : ∀ (n d : Nat) (v : Int), HT.sIx n d (some v) = if v < 0 then (v + (n : Int)).toNat else min v.toNat n := fun _ _ _ => rfl
    rw [e, if_neg (by omega), Int.toNat_natCast]
  have h2 : HT.sIx w.reverse.length w.reverse.length (some ((p : Int) + 1)) = min (p + 1) w.reverse.length := by
    have e : ∀ (n d : Nat) (v : Int), HT.sIx n d (some v) = if v < 0 then (v + (n : Int)).toNat else min v.toNat n := fun _ _ _ => rfl
    rw [e, if_neg (by omega)]
    congr 1
  rw [h1, h2]
  by_cases h : p < w.reverse.length
  · have e1 : min p w.reverse.length = p := by omega
    have e2 : min (p + 1) w.reverse.length - p = 1 := by omega
    rw [e1, e2]
  · have e1 : min p w.reverse.length = w.reverse.length := by omega
    rw [e1, List.drop_eq_nil_of_le (Nat.le_refl _), List.drop_eq_nil_of_le (by omega)]
    simp
end PP

set_option Elab.async false
set_option linter.all false
set_option maxRecDepth 100000
set_option maxHeartbeats 4000000
namespace PP
open MM PySem L2
/-- a thing that is like itself: no bools, no dicts -/
def plainN : Nat → D → Prop
  | 0, d => d = .non ∨ (∃ i, d = .int i) ∨ ∃ l, d = .str l
  | n + 1, d => (d = .non ∨ (∃ i, d = .int i) ∨ ∃ l, d = .str l) ∨ ∃ ds, (d = .lst ds ∨ d = .tup ds) ∧ ds.length ≤ LB ∧ ∀ x, x ∈ ds → plainN n x
theorem plain_mono : ∀ (n m : Nat) (d : D), n ≤ m → plainN n d → plainN m d
  | 0, 0, d, _, h => h
  | 0, m + 1, d, _, h => .inl h
  | n + 1, m + 1, d, hm, h => by
    rcases h with h | ⟨ds, h1, h2, h3⟩
    · exact .inl h
    · exact .inr ⟨ds, h1, h2, fun x hx => plain_mono n m x (by omega) (h3 x hx)⟩
theorem plain_encN (f : T) (h : f.length ≤ LB) : plainN 1 (encN f) := .inr ⟨_, .inl rfl, by simpa using h, fun x hx => by
  obtain ⟨c, _, rfl⟩ := List.mem_map.mp hx
  exact .inr (.inr ⟨_, rfl⟩)⟩
theorem like_flat (r : Sl → R D) (d : D) (h : d = .non ∨ (∃ i, d = .int i) ∨ ∃ l, d = .str l) : EV.b_law_like r [some d, some d] = .ok (.bl true) [none, none] := by
  rcases h with rfl | ⟨i, rfl⟩ | ⟨l, rfl⟩
  · unfold EV.b_law_like
    simp [bind_ok, bind_err, bind_exc, ofO_some, ofO_none, ap_mVar, ap_mC, ap_mOp, ap_mTest, ap_mAnd, ap_mOr, ap_mNot, ap_mAndV, ap_mOrV, ap_mNotV, ap_mIfE, ap_mNil, ap_mCons, ap_mTup, ap_mLst, ap_mCall, ap_mMeth, ap_mNoPart, ap_mPart, ap_mSl, ap_mFz, ap_mFzI, ap_mDnew, ap_gmName, ap_gmNil, ap_gmCons, ap_gmTup, ap_mSkip, ap_mSeq, ap_mErr, ap_mDrop, ap_mIf, ap_mRet, ap_mAsg, ap_mSetO, ap_mItems, ap_mRng1, ap_mRng2, ap_mRev, ap_mFor, ap_mLc, ap_mYes, ap_mFld, dFld, ap_mFldO, ap_mBor, mskFrom, mdOf, flatT, flatTs, ap_mBorT, ap_mMove, ap_mRetMove, ap_getV, ap_setV, ap_getF, ap_setF, ap_mApp, ap_mClear, ap_mPut, ap_mSetL, ap_mPopD, ap_mSetFld, ap_mSetFldO, ap_mCallF, ap_mMethF, ap_mCallI, ap_mMethI, ap_mMethT, ap_mMake, ap_mIsi, ap_mRevS, ap_mLcK, ap_mNeg, ap_mLenSet, ap_mLenSetT, ap_mChain, ap_mGet2, ap_fnB, mskP, isLD_lst, isLD_dic, isIns_mk, items_lst, items_tup, items_str, items_scr, fIsi, isTy, fIs, isN]
  · unfold EV.b_law_like
    simp [bind_ok, bind_err, bind_exc, ofO_some, ofO_none, ap_mVar, ap_mC, ap_mOp, ap_mTest, ap_mAnd, ap_mOr, ap_mNot, ap_mAndV, ap_mOrV, ap_mNotV, ap_mIfE, ap_mNil, ap_mCons, ap_mTup, ap_mLst, ap_mCall, ap_mMeth, ap_mNoPart, ap_mPart, ap_mSl, ap_mFz, ap_mFzI, ap_mDnew, ap_gmName, ap_gmNil, ap_gmCons, ap_gmTup, ap_mSkip, ap_mSeq, ap_mErr, ap_mDrop, ap_mIf, ap_mRet, ap_mAsg, ap_mSetO, ap_mItems, ap_mRng1, ap_mRng2, ap_mRev, ap_mFor, ap_mLc, ap_mYes, ap_mFld, dFld, ap_mFldO, ap_mBor, mskFrom, mdOf, flatT, flatTs, ap_mBorT, ap_mMove, ap_mRetMove, ap_getV, ap_setV, ap_getF, ap_setF, ap_mApp, ap_mClear, ap_mPut, ap_mSetL, ap_mPopD, ap_mSetFld, ap_mSetFldO, ap_mCallF, ap_mMethF, ap_mCallI, ap_mMethI, ap_mMethT, ap_mMake, ap_mIsi, ap_mRevS, ap_mLcK, ap_mNeg, ap_mLenSet, ap_mLenSetT, ap_mChain, ap_mGet2, ap_fnB, mskP, isLD_lst, isLD_dic, isIns_mk, items_lst, items_tup, items_str, items_scr, fIsi, isTy, fEq, eqD]
  · unfold EV.b_law_like
    simp [bind_ok, bind_err, bind_exc, ofO_some, ofO_none, ap_mVar, ap_mC, ap_mOp, ap_mTest, ap_mAnd, ap_mOr, ap_mNot, ap_mAndV, ap_mOrV, ap_mNotV, ap_mIfE, ap_mNil, ap_mCons, ap_mTup, ap_mLst, ap_mCall, ap_mMeth, ap_mNoPart, ap_mPart, ap_mSl, ap_mFz, ap_mFzI, ap_mDnew, ap_gmName, ap_gmNil, ap_gmCons, ap_gmTup, ap_mSkip, ap_mSeq, ap_mErr, ap_mDrop, ap_mIf, ap_mRet, ap_mAsg, ap_mSetO, ap_mItems, ap_mRng1, ap_mRng2, ap_mRev, ap_mFor, ap_mLc, ap_mYes, ap_mFld, dFld, ap_mFldO, ap_mBor, mskFrom, mdOf, flatT, flatTs, ap_mBorT, ap_mMove, ap_mRetMove, ap_getV, ap_setV, ap_getF, ap_setF, ap_mApp, ap_mClear, ap_mPut, ap_mSetL, ap_mPopD, ap_mSetFld, ap_mSetFldO, ap_mCallF, ap_mMethF, ap_mCallI, ap_mMethI, ap_mMethT, ap_mMake, ap_mIsi, ap_mRevS, ap_mLcK, ap_mNeg, ap_mLenSet, ap_mLenSetT, ap_mChain, ap_mGet2, ap_fnB, mskP, isLD_lst, isLD_dic, isIns_mk, items_lst, items_tup, items_str, items_scr, fIsi, isTy, fEq, eqD]
theorem like_loop (r : Sl → R D) (d : D) (ds : List D) (hd : ∀ n : Nat, fIx d (.int n) = ds[n]?) (hr : ∀ x, x ∈ ds → r [some x, some x] = .ok (.bl true) [none, none]) :
    ∃ x2 : Option D, forGo (gmName 2) (mIf (mNot (mTest (mCallF 2 r (mCons (mOp fIx (mVar 0) (mVar 2)) (mCons (mOp fIx (mVar 1) (mVar 2)) mNil))))) (mRet (mC (.bl false))) mSkip) (rangeD 0 ds.length) [some d, some d, none] = .ok .nx [some d, some d, x2] := by
  obtain ⟨s', e, x2, rfl⟩ := forGo_fold (mg := gmName 2) (mb := mIf (mNot (mTest (mCallF 2 r (mCons (mOp fIx (mVar 0) (mVar 2)) (mCons (mOp fIx (mVar 1) (mVar 2)) mNil))))) (mRet (mC (.bl false))) mSkip) (fun (k : Nat) => D.int (k : Int)) (fun (u : Unit) _ => u)
    (fun _ s => ∃ x2, s = [some d, some d, x2]) (List.range ds.length) () [some d, some d, none] ⟨none, rfl⟩ (by
      rintro u k s hk ⟨x2, rfl⟩
      have hk2 := List.mem_range.mp hk
      have h1 := hd k
      rw [List.getElem?_eq_getElem hk2] at h1
      have h2 := hr _ (List.getElem_mem hk2)
      refine ⟨_, [some d, some d, some (.int (k : Int))], rfl, ?_, _, rfl⟩
      simp [bind_ok, bind_err, bind_exc, ofO_some, ofO_none, ap_mVar, ap_mC, ap_mOp, ap_mTest, ap_mAnd, ap_mOr, ap_mNot, ap_mAndV, ap_mOrV, ap_mNotV, ap_mIfE, ap_mNil, ap_mCons, ap_mTup, ap_mLst, ap_mCall, ap_mMeth, ap_mNoPart, ap_mPart, ap_mSl, ap_mFz, ap_mFzI, ap_mDnew, ap_gmName, ap_gmNil, ap_gmCons, ap_gmTup, ap_mSkip, ap_mSeq, ap_mErr, ap_mDrop, ap_mIf, ap_mRet, ap_mAsg, ap_mSetO, ap_mItems, ap_mRng1, ap_mRng2, ap_mRev, ap_mFor, ap_mLc, ap_mYes, ap_mFld, dFld, ap_mFldO, ap_mBor, mskFrom, mdOf, flatT, flatTs, ap_mBorT, ap_mMove, ap_mRetMove, ap_getV, ap_setV, ap_getF, ap_setF, ap_mApp, ap_mClear, ap_mPut, ap_mSetL, ap_mPopD, ap_mSetFld, ap_mSetFldO, ap_mCallF, ap_mMethF, ap_mCallI, ap_mMethI, ap_mMethT, ap_mMake, ap_mIsi, ap_mRevS, ap_mLcK, ap_mNeg, ap_mLenSet, ap_mLenSetT, ap_mChain, ap_mGet2, ap_fnB, mskP, isLD_lst, isLD_dic, isIns_mk, items_lst, items_tup, items_str, items_scr, h1, h2])
  rw [← rangeD_map] at e
  exact ⟨x2, e⟩
theorem like_seq (r : Sl → R D) (d : D) (ds : List D) (h : d = .lst ds ∨ d = .tup ds) (hl : ds.length ≤ LB) (hr : ∀ x, x ∈ ds → r [some x, some x] = .ok (.bl true) [none, none]) : EV.b_law_like r [some d, some d] = .ok (.bl true) [none, none] := by
  have hl2 : ds.length ≤ 1000000 := hl
  have e3 : (-4611686018427387904 : Int) ≤ (ds.length : Int) := by omega
  rcases h with rfl | rfl
  · obtain ⟨x2, e⟩ := like_loop r (.lst ds) ds (fun n => by unfold fIx; dsimp only; rw [MM.atI_nat]) hr
    unfold EV.b_law_like
    simp [bind_ok, bind_err, bind_exc, ofO_some, ofO_none, ap_mVar, ap_mC, ap_mOp, ap_mTest, ap_mAnd, ap_mOr, ap_mNot, ap_mAndV, ap_mOrV, ap_mNotV, ap_mIfE, ap_mNil, ap_mCons, ap_mTup, ap_mLst, ap_mCall, ap_mMeth, ap_mNoPart, ap_mPart, ap_mSl, ap_mFz, ap_mFzI, ap_mDnew, ap_gmName, ap_gmNil, ap_gmCons, ap_gmTup, ap_mSkip, ap_mSeq, ap_mErr, ap_mDrop, ap_mIf, ap_mRet, ap_mAsg, ap_mSetO, ap_mItems, ap_mRng1, ap_mRng2, ap_mRev, ap_mFor, ap_mLc, ap_mYes, ap_mFld, dFld, ap_mFldO, ap_mBor, mskFrom, mdOf, flatT, flatTs, ap_mBorT, ap_mMove, ap_mRetMove, ap_getV, ap_setV, ap_getF, ap_setF, ap_mApp, ap_mClear, ap_mPut, ap_mSetL, ap_mPopD, ap_mSetFld, ap_mSetFldO, ap_mCallF, ap_mMethF, ap_mCallI, ap_mMethI, ap_mMethT, ap_mMake, ap_mIsi, ap_mRevS, ap_mLcK, ap_mNeg, ap_mLenSet, ap_mLenSetT, ap_mChain, ap_mGet2, ap_fnB, mskP, isLD_lst, isLD_dic, isIns_mk, items_lst, items_tup, items_str, items_scr, fIsi, isTy, fIs, isN, fNe, eqD, fLen, hl2, e3, e]
    rw [if_pos (by omega)]
    simp [bind_ok, bind_err, bind_exc, ofO_some, ofO_none, ap_mVar, ap_mC, ap_mOp, ap_mTest, ap_mAnd, ap_mOr, ap_mNot, ap_mAndV, ap_mOrV, ap_mNotV, ap_mIfE, ap_mNil, ap_mCons, ap_mTup, ap_mLst, ap_mCall, ap_mMeth, ap_mNoPart, ap_mPart, ap_mSl, ap_mFz, ap_mFzI, ap_mDnew, ap_gmName, ap_gmNil, ap_gmCons, ap_gmTup, ap_mSkip, ap_mSeq, ap_mErr, ap_mDrop, ap_mIf, ap_mRet, ap_mAsg, ap_mSetO, ap_mItems, ap_mRng1, ap_mRng2, ap_mRev, ap_mFor, ap_mLc, ap_mYes, ap_mFld, dFld, ap_mFldO, ap_mBor, mskFrom, mdOf, flatT, flatTs, ap_mBorT, ap_mMove, ap_mRetMove, ap_getV, ap_setV, ap_getF, ap_setF, ap_mApp, ap_mClear, ap_mPut, ap_mSetL, ap_mPopD, ap_mSetFld, ap_mSetFldO, ap_mCallF, ap_mMethF, ap_mCallI, ap_mMethI, ap_mMethT, ap_mMake, ap_mIsi, ap_mRevS, ap_mLcK, ap_mNeg, ap_mLenSet, ap_mLenSetT, ap_mChain, ap_mGet2, ap_fnB, mskP, isLD_lst, isLD_dic, isIns_mk, items_lst, items_tup, items_str, items_scr, e]
  · obtain ⟨x2, e⟩ := like_loop r (.tup ds) ds (fun n => by unfold fIx; dsimp only; rw [MM.atI_nat]) hr
    unfold EV.b_law_like
    simp [bind_ok, bind_err, bind_exc, ofO_some, ofO_none, ap_mVar, ap_mC, ap_mOp, ap_mTest, ap_mAnd, ap_mOr, ap_mNot, ap_mAndV, ap_mOrV, ap_mNotV, ap_mIfE, ap_mNil, ap_mCons, ap_mTup, ap_mLst, ap_mCall, ap_mMeth, ap_mNoPart, ap_mPart, ap_mSl, ap_mFz, ap_mFzI, ap_mDnew, ap_gmName, ap_gmNil, ap_gmCons, ap_gmTup, ap_mSkip, ap_mSeq, ap_mErr, ap_mDrop, ap_mIf, ap_mRet, ap_mAsg, ap_mSetO, ap_mItems, ap_mRng1, ap_mRng2, ap_mRev, ap_mFor, ap_mLc, ap_mYes, ap_mFld, dFld, ap_mFldO, ap_mBor, mskFrom, mdOf, flatT, flatTs, ap_mBorT, ap_mMove, ap_mRetMove, ap_getV, ap_setV, ap_getF, ap_setF, ap_mApp, ap_mClear, ap_mPut, ap_mSetL, ap_mPopD, ap_mSetFld, ap_mSetFldO, ap_mCallF, ap_mMethF, ap_mCallI, ap_mMethI, ap_mMethT, ap_mMake, ap_mIsi, ap_mRevS, ap_mLcK, ap_mNeg, ap_mLenSet, ap_mLenSetT, ap_mChain, ap_mGet2, ap_fnB, mskP, isLD_lst, isLD_dic, isIns_mk, items_lst, items_tup, items_str, items_scr, fIsi, isTy, fIs, isN, fNe, eqD, fLen, hl2, e3, e]
    rw [if_pos (by omega)]
    simp [bind_ok, bind_err, bind_exc, ofO_some, ofO_none, ap_mVar, ap_mC, ap_mOp, ap_mTest, ap_mAnd, ap_mOr, ap_mNot, ap_mAndV, ap_mOrV, ap_mNotV, ap_mIfE, ap_mNil, ap_mCons, ap_mTup, ap_mLst, ap_mCall, ap_mMeth, ap_mNoPart, ap_mPart, ap_mSl, ap_mFz, ap_mFzI, ap_mDnew, ap_gmName, ap_gmNil, ap_gmCons, ap_gmTup, ap_mSkip, ap_mSeq, ap_mErr, ap_mDrop, ap_mIf, ap_mRet, ap_mAsg, ap_mSetO, ap_mItems, ap_mRng1, ap_mRng2, ap_mRev, ap_mFor, ap_mLc, ap_mYes, ap_mFld, dFld, ap_mFldO, ap_mBor, mskFrom, mdOf, flatT, flatTs, ap_mBorT, ap_mMove, ap_mRetMove, ap_getV, ap_setV, ap_getF, ap_setF, ap_mApp, ap_mClear, ap_mPut, ap_mSetL, ap_mPopD, ap_mSetFld, ap_mSetFldO, ap_mCallF, ap_mMethF, ap_mCallI, ap_mMethI, ap_mMethT, ap_mMake, ap_mIsi, ap_mRevS, ap_mLcK, ap_mNeg, ap_mLenSet, ap_mLenSetT, ap_mChain, ap_mGet2, ap_fnB, mskP, isLD_lst, isLD_dic, isIns_mk, items_lst, items_tup, items_str, items_scr, e]
theorem like_refl : ∀ (n : Nat) (d : D), plainN n d → EV.g_law_like (n + 1) [some d, some d] = .ok (.bl true) [none, none]
  | 0, d, h => like_flat _ d h
  | n + 1, d, h => by
    rcases h with h | ⟨ds, h1, h2, h3⟩
    · exact like_flat _ d h
    · exact like_seq _ d ds h1 h2 fun x hx => like_refl n x (h3 x hx)
theorem like_self (d : D) (n : Nat) (hn : n ≤ 63) (h : plainN n d) : EV.g_law_like 64 [some d, some d] = .ok (.bl true) [none, none] := like_refl 63 d (plain_mono n 63 d hn h)
/-! what a word is worth -/
def figOk (kv : List (KD × D)) (fig : Nat → Int) (w : T) : Prop := ∀ c, c ∈ w → lookD kv (.inr [c]) = some (.int (fig c))
def worthV (fig : Nat → Int) (base : Int) (w : T) : Int := w.foldl (fun a c => a * base + fig c) 0
theorem worth_snoc (fig : Nat → Int) (base : Int) (w : T) (c : Nat) : worthV fig base (w ++ [c]) = worthV fig base w * base + fig c := by
  unfold worthV
  rw [List.foldl_append]
  rfl
theorem worth_rev (fig : Nat → Int) (base : Int) : ∀ (l : T) (f s : Int), (l.foldl (fun (a : Int × Int) c => (a.1 + a.2 * fig c, a.2 * base)) (f, s)).1 = f + s * worthV fig base l.reverse
  | [], f, s => by simp [worthV]
  | c :: r, f, s => by
    rw [List.foldl_cons, worth_rev fig base r, List.reverse_cons, worth_snoc]
    dsimp only
    rw [Int.mul_add, Int.mul_assoc, Int.mul_comm base]
    omega
theorem plain_mem {n : Nat} {ds : List D} (h : ds.length ≤ LB) (hx : ∀ x, x ∈ ds → plainN n x) : plainN (n + 1) (.tup ds) := .inr ⟨ds, .inr rfl, h, hx⟩
theorem plain_int (n : Nat) (i : Int) : plainN n (.int i) := plain_mono 0 n _ (by omega) (.inr (.inl ⟨i, rfl⟩))
theorem plain_str (n : Nat) (l : T) : plainN n (.str l) := plain_mono 0 n _ (by omega) (.inr (.inr ⟨l, rfl⟩))
end PP

set_option Elab.async false
set_option linter.all false
set_option maxRecDepth 100000
set_option maxHeartbeats 4000000
namespace PP
open MM PySem L2
theorem mCallI_ok {f : Sl → R D} {i np : Nat} {n : MA} {d d0 d1 : D} {ds : List D} {sl s r : Sl} {x : D} (h0 : sl[i]? = some (some x)) (h1 : n sl = .ok ds s) (h2 : s[i]? = some (some d0)) (hl : ds.length + 1 = np) (h3 : f ((d0 :: ds).map some) = .ok d (some d1 :: r)) : mCallI i np f n sl = .ok d (s.set i (some d1)) := by
  rw [ap_mCallI, h0]
  dsimp only
  rw [h1, bind_ok, h2]
  dsimp only
  rw [if_pos hl, h3]
  rfl
theorem mMake_ok {f : Sl → R D} {k np : Nat} {n : MA} {d1 : D} {ds : List D} {sl s r : Sl} (h1 : n sl = .ok ds s) (hl : ds.length + 1 = np) (h3 : f ((.ins k [] :: ds).map some) = .ok .non (some d1 :: r)) : mMake k np f n sl = .ok d1 s := by
  rw [ap_mMake, h1, bind_ok, if_pos hl, h3]
  rfl
theorem mBor_ok {μ : Ms} {i : Nat} {m : ME} {sl s' : Sl} {x r : D} (h0 : sl[i]? = some (some x)) (h1 : m (mskFrom μ i 0 sl) = .ok r s') (hf : flatT r = true) : mBor μ i m sl = .ok r sl := by
  rw [ap_mBor, h0]
  dsimp only
  rw [h1]
  dsimp only
  rw [if_pos hf]
theorem mCons_ok {m : ME} {n : MA} {d : D} {ds : List D} {sl s1 s2 : Sl} (h1 : m sl = .ok d s1) (h2 : n s1 = .ok ds s2) : mCons m n sl = .ok (d :: ds) s2 := by
  rw [ap_mCons, h1, bind_ok, h2, bind_ok]
theorem mNil_ok {sl : Sl} : mNil sl = .ok [] sl := rfl
theorem mSeq_ok {m n : MS} {sl s : Sl} {x : R Fl} (h1 : m sl = .ok .nx s) (h2 : n s = x) : mSeq m n sl = x := by
  rw [ap_mSeq, h1]
  exact h2
theorem mAsg_ok {m : ME} {g : MG} {d : D} {sl s s2 : Sl} (h1 : m sl = .ok d s) (h2 : g d s = some s2) : mAsg m g sl = .ok .nx s2 := by
  rw [ap_mAsg, h1, bind_ok, h2]
theorem mSetO_ok {m : ME} {i : Nat} {d : D} {sl s : Sl} (h1 : m sl = .ok d s) (h2 : i < s.length) : mSetO m i sl = .ok .nx (s.set i (some d)) := by
  rw [ap_mSetO, h1, bind_ok, if_pos h2]
theorem mSeq_rt {m n : MS} {sl s : Sl} {d : D} (h1 : m sl = .ok (.rt d) s) : mSeq m n sl = .ok (.rt d) s := by
  rw [ap_mSeq, h1]
theorem fnB_rt {pm : Ms} {ρ : Bool} {n : Nat} {m : MS} {ps s r : Sl} {d : D} (h1 : m (ps ++ List.replicate n none) = .ok (.rt d) s) (h2 : mskP pm s = some r) : fnB pm ρ n m ps = .ok d r := by
  rw [ap_fnB, h1]
  dsimp only
  rw [h2]
theorem mRet_ok {m : ME} {d : D} {sl s : Sl} (h1 : m sl = .ok d s) : mRet m sl = .ok (.rt d) s := by
  rw [ap_mRet, h1, bind_ok]
theorem mTest_ok {m : ME} {b : Bool} {sl s : Sl} (h1 : m sl = .ok (.bl b) s) : mTest m sl = .ok b s := by
  rw [ap_mTest, h1, bind_ok]
/-- if not like: return False, when alike -/
theorem notLike_ok {m : ME} {sl s : Sl} (h1 : m sl = .ok (.bl true) s) : mIf (mNot (mTest m)) (mRet (mC (.bl false))) mSkip sl = .ok .nx s := by
  rw [ap_mIf, ap_mNot, mTest_ok h1]
  rfl
theorem mFz_ok {m : ME} {d : D} {sl s : Sl} (h1 : m sl = .ok d s) (h : isLD d = true) : mFz m sl = .ok d s := by
  rw [ap_mFz, h1, bind_ok, if_pos h]
theorem mFzI_ok {m : ME} {k : Nat} {d : D} {sl s : Sl} (h1 : m sl = .ok d s) (h : isIns k d = true) : mFzI k m sl = .ok d s := by
  rw [ap_mFzI, h1, bind_ok, if_pos h]
theorem mFor_ok {mi : MA} {mg : MG} {mb : MS} {ds : List D} {sl s : Sl} {x : R Fl} (h1 : mi sl = .ok ds s) (h2 : forGo mg mb ds s = x) : mFor mi mg mb sl = x := by
  rw [ap_mFor, h1, bind_ok, h2]
theorem mItems_ok {m : ME} {d : D} {ds : List D} {sl s : Sl} (h1 : m sl = .ok d s) (h2 : itemsOf d = some ds) : mItems m sl = .ok ds s := by
  rw [ap_mItems, h1, bind_ok, h2, ofO_some]
/-! dicts -/
theorem lookD_put (kv : List (KD × D)) (k : KD) (d : D) : lookD (putD kv k d) k = some d := by
  unfold putD
  by_cases h : (kv.any fun p => decide (p.1 = k)) = true
  · rw [if_pos h]
    induction kv with
    | nil => cases h
    | cons p r ih =>
      rw [List.map_cons]
      by_cases hp : p.1 = k
      · unfold lookD
        rw [List.find?_cons_of_pos (by simp [hp])]
        simp [hp]
      · have h2 : (r.any fun p => decide (p.1 = k)) = true := by simpa [hp] using h
        have ih := ih h2
        unfold lookD at ih ⊢
        rw [if_neg hp, List.find?_cons_of_neg (by simpa using hp)]
        exact ih
  · rw [if_neg h]
    unfold lookD
    rw [List.find?_append]
    have : kv.find? (fun p => decide (p.1 = k)) = none := by
      rw [List.find?_eq_none]
      intro p hp e
      exact h (List.any_eq_true.mpr ⟨p, hp, e⟩)
    rw [this]
    simp
theorem lookD_ne (kv : List (KD × D)) (k j : KD) (d : D) (hj : j ≠ k) : lookD (putD kv k d) j = lookD kv j := by
  unfold putD
  split
  · rename_i h
    clear h
    induction kv with
    | nil => rfl
    | cons p r ih =>
      rw [List.map_cons]
      unfold lookD at ih ⊢
      by_cases hp : p.1 = k
      · have h1 : ¬ p.1 = j := fun e => hj (by rw [← e, hp])
        rw [if_pos hp, List.find?_cons_of_neg (by simpa using h1), List.find?_cons_of_neg (by simpa using h1)]
        exact ih
      · rw [if_neg hp]
        by_cases hpj : p.1 = j
        · rw [List.find?_cons_of_pos (by simpa using hpj), List.find?_cons_of_pos (by simpa using hpj)]
        · rw [List.find?_cons_of_neg (by simpa using hpj), List.find?_cons_of_neg (by simpa using hpj)]
          exact ih
  · unfold lookD
    rw [List.find?_append]
    have h1 : ¬ k = j := fun e => hj e.symm
    simp [h1]
theorem putD_len (kv : List (KD × D)) (k : KD) (d : D) : (putD kv k d).length ≤ kv.length + 1 := by
  unfold putD
  split
  · rw [List.length_map]; omega
  · rw [List.length_append]; simp
def figK (kv : List (KD × D)) (c : Nat) : Int := match lookD kv (.inr [c]) with
  | some (.int v) => v
  | _ => 0
/-- all of these have a figure below a base -/
def Figs (kv : List (KD × D)) (base : Int) (l : T) : Prop := ∀ c, c ∈ l → lookD kv (.inr [c]) = some (.int (figK kv c)) ∧ 0 ≤ figK kv c ∧ figK kv c < base
theorem Figs.put {kv : List (KD × D)} {base : Int} {l : T} (h : Figs kv base l) (c : Nat) (v : Int) (h0 : 0 ≤ v) (h1 : v < base) : Figs (putD kv (.inr [c]) (.int v)) base (l ++ [c]) := by
  intro d hd
  by_cases e : d = c
  · subst e
    have q := lookD_put kv (.inr [d]) (.int v)
    unfold figK
    rw [q]
    exact ⟨rfl, h0, h1⟩
  · have hk : (Sum.inr [d] : KD) ≠ .inr [c] := fun z => e (by injection z with z; injection z)
    have q := lookD_ne kv (.inr [c]) (.inr [d]) (.int v) hk
    have hd2 : d ∈ l := by
      rcases List.mem_append.mp hd with z | z
      · exact z
      · exact absurd (List.mem_singleton.mp z) e
    obtain ⟨a, b, c⟩ := h d hd2
    unfold figK at a b c ⊢
    rw [q]
    exact ⟨a, b, c⟩
theorem foldl_snoc {α : Type} : ∀ (l b : List α), l.foldl (fun b c => b ++ [c]) b = b ++ l
  | [], b => by simp
  | c :: r, b => by rw [List.foldl_cons, foldl_snoc r]; simp
theorem mem_lettersN_aux {c : Nat} : ∀ (l : List T) (f : T), (c ∈ f ∨ ∃ t, t ∈ l ∧ t = [c]) → c ∈ l.foldl addT f
  | [], f, h => by
    rcases h with h | ⟨t, ht, _⟩
    · exact h
    · cases ht
  | t :: r, f, h => by
    refine mem_lettersN_aux r _ ?_
    have keep : c ∈ f → c ∈ addT f t := fun hc => by
      unfold addT
      split
      · split
        · exact hc
        · exact List.mem_append.mpr (.inl hc)
      · exact hc
    rcases h with h | ⟨u, hu, rfl⟩
    · exact .inl (keep h)
    · rcases List.mem_cons.mp hu with e | hu
      · rw [← e]
        refine .inl ?_
        by_cases hc : c ∈ f
        · simp [addT, hc]
        · simp [addT, hc]
      · exact .inr ⟨_, hu, rfl⟩
theorem mem_sumL_keep {c : Nat} {s : Su} : ∀ {f : T}, c ∈ f → c ∈ sumL f s := by
  intro f h
  unfold sumL
  generalize List.range (widthI s).toNat = l
  induction l generalizing f with
  | nil => exact h
  | cons p r ih => exact ih (mem_lettersN_aux _ f (.inl h))
theorem mem_sumL {c : Nat} {s : Su} {w : T} (hw : w ∈ allW s) (hc : c ∈ w) (f : T) : c ∈ sumL f s := by
  obtain ⟨i, hi, e⟩ := List.getElem_of_mem hc
  have hp : w.length - 1 - i < w.length := by omega
  have hat : letAt w (w.length - 1 - i) = [c] := by
    rw [letAt_lt hp]
    have : w.length - 1 - (w.length - 1 - i) = i := by omega
    simp only [this, e]
  have hwid := width_ge hw
  have hr : w.length - 1 - i ∈ List.range (widthI s).toNat := List.mem_range.mpr (by omega)
  unfold sumL
  generalize List.range (widthI s).toNat = l at hr
  induction l generalizing f with
  | nil => cases hr
  | cons p r ih =>
    rw [List.foldl_cons]
    rcases List.mem_cons.mp hr with q | q
    · have h1 : c ∈ ((allW s).map fun w => letAt w p).foldl addT f := mem_lettersN_aux _ f (.inr ⟨[c], List.mem_map.mpr ⟨w, hw, by rw [← q]; exact hat⟩, rfl⟩)
      clear ih hr
      revert h1
      generalize ((allW s).map fun w => letAt w p).foldl addT f = g
      intro h1
      induction r generalizing g with
      | nil => exact h1
      | cons p r ih2 => exact ih2 _ (mem_lettersN_aux _ g (.inl h1))
    · exact ih _ q
theorem mem_letters {c : Nat} {ss : List Su} {s : Su} {w : T} (hs : s ∈ ss) (hw : w ∈ allW s) (hc : c ∈ w) : c ∈ letters ss := by
  unfold letters
  have keep : ∀ (l : List Su) (f : T), c ∈ f → c ∈ l.foldl sumL f := by
    intro l
    induction l with
    | nil => exact fun f h => h
    | cons s r ih => exact fun f h => ih _ (mem_sumL_keep h)
  have go : ∀ (l : List Su) (f : T), s ∈ l → c ∈ l.foldl sumL f := by
    intro l
    induction l with
    | nil => intro f h; cases h
    | cons t r ih =>
      intro f h
      rw [List.foldl_cons]
      rcases List.mem_cons.mp h with rfl | h
      · exact keep r _ (mem_sumL hw hc f)
      · exact ih _ h
  exact go ss [] hs
end PP

set_option Elab.async false
set_option linter.all false
set_option maxRecDepth 100000
set_option maxHeartbeats 4000000
namespace PP
open MM PySem L2
/-! loops that may answer early -/
theorem forGo_chk {X : Type} {mg : MG} {mb : MS} (e : X → D) (p : X → Bool) (d : D) (S : Sl → Prop) : ∀ (xs : List X) (s : Sl), S s → (∀ x s, x ∈ xs → S s → ∃ s1 s2, mg (e x) s = some s1 ∧ S s2 ∧ mb s1 = if p x = true then .ok (.rt d) s2 else .ok .nx s2) →
    ∃ s', S s' ∧ forGo mg mb (xs.map e) s = if xs.any p = true then .ok (.rt d) s' else .ok .nx s'
  | [], s, h, _ => ⟨s, h, rfl⟩
  | x :: r, s, h, st => by
    obtain ⟨s1, s2, e1, h2, e2⟩ := st x s List.mem_cons_self h
    by_cases hp : p x = true
    · rw [if_pos hp] at e2
      refine ⟨s2, h2, ?_⟩
      rw [List.any_cons, hp, Bool.true_or, if_pos rfl, List.map_cons]
      unfold forGo
      rw [e1]
      dsimp only
      rw [e2]
    · rw [if_neg hp] at e2
      obtain ⟨s', h3, e3⟩ := forGo_chk e p d S r s2 h2 fun y s hy => st y s (List.mem_cons_of_mem _ hy)
      refine ⟨s', h3, ?_⟩
      have hp2 : p x = false := by simpa using hp
      rw [List.any_cons, hp2, Bool.false_or, ← e3, List.map_cons]
      conv => lhs; unfold forGo
      rw [e1]
      dsimp only
      rw [e2]
/-! figures -/
abbrev FD := List (Nat × Int)
def encF (fd : FD) : List (KD × D) := fd.map fun p => (.inr [p.1], .int p.2)
def figF (fd : FD) (c : Nat) : Int := (fd.lookup c).getD 0
theorem look_encF (fd : FD) (c : Nat) : lookD (encF fd) (.inr [c]) = (fd.lookup c).map D.int := by
  induction fd with
  | nil => rfl
  | cons p r ih =>
    obtain ⟨a, v⟩ := p
    unfold encF lookD at ih ⊢
    rw [List.map_cons, List.lookup_cons]
    by_cases h : c = a
    · subst h
      rw [List.find?_cons_of_pos (by simp)]
      simp
    · have h2 : ¬ (Sum.inr [a] : KD) = .inr [c] := fun z => h (by injection z with z; injection z with z; exact z.symm)
      have h3 : (c == a) = false := by simpa using h
      rw [List.find?_cons_of_neg (by simpa using h2), h3]
      exact ih
theorem lookup_mem {fd : FD} (nd : (fd.map (·.1)).Nodup) {p : Nat × Int} (h : p ∈ fd) : fd.lookup p.1 = some p.2 := by
  induction fd with
  | nil => cases h
  | cons q r ih =>
    rw [List.map_cons] at nd
    obtain ⟨n1, n2⟩ := List.nodup_cons.mp nd
    obtain ⟨a, v⟩ := q
    rw [List.lookup_cons]
    rcases List.mem_cons.mp h with e | h
    · subst e
      simp
    · have hne : (p.1 == a) = false := by
        have : p.1 ≠ a := fun z => n1 (by rw [← z]; exact List.mem_map.mpr ⟨p, h, rfl⟩)
        simpa using this
      rw [hne]
      exact ih n2 h
theorem figF_mem {fd : FD} (nd : (fd.map (·.1)).Nodup) {p : Nat × Int} (h : p ∈ fd) : figF fd p.1 = p.2 := by
  unfold figF
  rw [lookup_mem nd h]
  rfl
theorem lookup_key {fd : FD} {c : Nat} (h : c ∈ fd.map (·.1)) : fd.lookup c = some (figF fd c) := by
  unfold figF
  induction fd with
  | nil => cases h
  | cons q r ih =>
    obtain ⟨a, v⟩ := q
    rw [List.lookup_cons]
    by_cases e : c = a
    · subst e
      simp
    · have e2 : (c == a) = false := by simpa using e
      rw [e2]
      rw [List.map_cons] at h
      rcases List.mem_cons.mp h with z | z
      · exact absurd z e
      · exact ih z
theorem fix_encF {fd : FD} {c : Nat} (h : c ∈ fd.map (·.1)) : fIx (.dic (encF fd)) (.str [c]) = some (.int (figF fd c)) := by
  unfold fIx
  show (kd (.str [c])).bind (lookD (encF fd)) = _
  show lookD (encF fd) (.inr [c]) = _
  rw [look_encF, lookup_key h]
  rfl
theorem keys_encF (fd : FD) : ((encF fd).map fun p => keyD p.1) = fd.map fun p => D.str [p.1] := by
  unfold encF
  rw [List.map_map]
  rfl
theorem keysOk_encF (fd : FD) : ((encF fd).all fun p => keyOk p.1) = true := by
  unfold encF
  rw [List.all_map, List.all_eq_true]
  intro p _
  show decide ([p.1].length ≤ LB) = true
  exact decide_eq_true (by simp; decide)
theorem isIn_ints (v : Int) (l : List Int) : isIn (.int v) (.lst (l.map D.int)) = some (decide (v ∈ l)) := by
  unfold isIn
  dsimp only
  have h1 : flatD (.int v) = true := rfl
  have h2 : (l.map D.int).all flatD = true := by simp [flatD]
  rw [if_pos ⟨h1, h2⟩]
  congr 1
  induction l with
  | nil => rfl
  | cons a r ih =>
    have h3 : (r.map D.int).all flatD = true := by simp [flatD]
    rw [List.map_cons, List.any_cons, ih h3]
    show ((a == v) || decide (v ∈ r)) = decide (v ∈ a :: r)
    by_cases e : a = v
    · subst e; simp
    · have e2 : ¬ v = a := fun z => e z.symm
      simp [e, e2]
def leadsW (c : Nat) (w : T) : Bool := decide (1 < w.length) && decide (w.take 1 = [c])
def leadsB (ss : List Su) (c : Nat) : Bool := ss.any fun s => (allW s).any (leadsW c)
theorem fix_head {w : T} (h : w ≠ []) : fIx (.str w) (.int 0) = some (.str (w.take 1)) := by
  cases w with
  | nil => exact absurd rfl h
  | cons a r =>
    show (atI (a :: r) 0).map (fun k => D.str [k]) = _
    rw [MM.atI_pos _ _ (by decide)]
    rfl
def othersF (fd : FD) (c : Nat) : List Int := (fd.filter fun p => decide (p.1 ≠ c)).map (·.2)
def freeB (ss : List Su) (fd : FD) (c : Nat) (v : Int) : Bool := !(decide (v = 0) && leadsB ss c) && !decide (v ∈ othersF fd c)
end PP

set_option Elab.async false
set_option linter.all false
set_option maxRecDepth 100000
set_option maxHeartbeats 4000000
namespace PP
open MM PySem L2
/-! a sum by figures -/
def sumB (fd : FD) (base : Int) (s : Su) : Bool := decide ((s.1.map (worthV (figF fd) base)).sum = worthV (figF fd) base s.2)
theorem figOk_encF {fd : FD} {w : T} (h : ∀ c, c ∈ w → c ∈ fd.map (·.1)) : figOk (encF fd) (figF fd) w := fun c hc => by
  rw [look_encF, lookup_key (h c hc)]
  rfl
theorem minL_le : ∀ (r : List Int) (n : Int), minL n r ≤ n ∧ (∀ m, m ∈ r → minL n r ≤ m) ∧ minL n r ∈ n :: r
  | [], n => ⟨Int.le_refl _, fun m hm => (by cases hm), by simp [minL]⟩
  | m :: r, n => by
    unfold minL
    obtain ⟨h1, h2, h3⟩ := minL_le r (if m < n then m else n)
    have hm : (if m < n then m else n) ≤ n ∧ (if m < n then m else n) ≤ m ∧ ((if m < n then m else n) = m ∨ (if m < n then m else n) = n) := by split <;> refine ⟨by omega, by omega, ?_⟩ <;> simp
    refine ⟨Int.le_trans h1 hm.1, fun j hj => ?_, ?_⟩
    · rcases List.mem_cons.mp hj with e | hj
      · rw [e]; exact Int.le_trans h1 hm.2.1
      · exact h2 j hj
    · rcases List.mem_cons.mp h3 with e | h3
      · rcases hm.2.2 with q | q
        · rw [e, q]; simp
        · rw [e, q]; simp
      · simp [h3]
theorem maxL_mem : ∀ (r : List Int) (n : Int), maxL n r ∈ n :: r
  | [], n => by simp [maxL]
  | m :: r, n => by
    unfold maxL
    have h3 := maxL_mem r (if m > n then m else n)
    have hm : (if m > n then m else n) = m ∨ (if m > n then m else n) = n := by split <;> simp
    rcases List.mem_cons.mp h3 with e | h3
    · rcases hm with q | q
      · rw [e, q]; simp
      · rw [e, q]; simp
    · simp [h3]
/-! no two alike -/
theorem fold_len (l : List Int) : ∀ acc : List Int, (l.foldl PyProof.Rows.step_dedup acc).length ≤ acc.length + l.length ∧ ((l.foldl PyProof.Rows.step_dedup acc).length = acc.length + l.length ↔ l.Nodup ∧ ∀ x, x ∈ l → x ∉ acc) := by
  induction l with
  | nil => intro acc; simp
  | cons a r ih =>
    intro acc
    rw [List.foldl_cons]
    unfold PyProof.Rows.step_dedup
    by_cases h : acc.any (· == a) = true
    · have hm : a ∈ acc := by
        obtain ⟨y, hy, e⟩ := List.any_eq_true.mp h
        rw [← eq_of_beq e]; exact hy
      rw [if_pos h]
      obtain ⟨h1, h2⟩ := ih acc
      unfold PyProof.Rows.step_dedup at h1 h2
      refine ⟨by rw [List.length_cons]; omega, ⟨fun e => ?_, fun e => absurd hm (e.2 a List.mem_cons_self)⟩⟩
      rw [List.length_cons] at e
      omega
    · have hm : a ∉ acc := fun z => h (List.any_eq_true.mpr ⟨a, z, by simp⟩)
      rw [if_neg h]
      obtain ⟨h1, h2⟩ := ih (acc ++ [a])
      unfold PyProof.Rows.step_dedup at h1 h2
      rw [List.length_append, List.length_singleton] at h1 h2
      refine ⟨by rw [List.length_cons]; omega, ?_⟩
      rw [List.length_cons, show acc.length + (r.length + 1) = acc.length + 1 + r.length by omega, h2, List.nodup_cons]
      constructor
      · rintro ⟨n1, n2⟩
        exact ⟨⟨fun z => n2 a z (by simp), n1⟩, fun x hx => by
          rcases List.mem_cons.mp hx with e | hx
          · rw [e]; exact hm
          · exact fun z => n2 x hx (by simp [z])⟩
      · rintro ⟨⟨n1, n2⟩, n3⟩
        exact ⟨n2, fun x hx z => by
          rcases List.mem_append.mp z with q | q
          · exact n3 x (List.mem_cons_of_mem _ hx) q
          · rw [List.mem_singleton.mp q] at hx; exact n1 hx⟩
theorem firstMet_fold (ns : List Int) : ∀ n, n ≤ ns.length → PyProof.Rows.firstMet (fun i => ns.getD i 0) n = (ns.take n).foldl PyProof.Rows.step_dedup []
  | 0, _ => rfl
  | n + 1, h => by
    rw [PyProof.Rows.firstMet_succ, firstMet_fold ns n (by omega), List.take_succ_eq_append_getElem (by omega), List.foldl_append]
    have : ns.getD n 0 = ns[n] := by simp [List.getD, List.getElem?_eq_getElem (show n < ns.length by omega)]
    rw [this]
    rfl
theorem ded_iff (ns : List Int) : (dedI ns).length = ns.length ↔ ns.Nodup := by
  unfold dedI
  rw [firstMet_fold ns ns.length (Nat.le_refl _), List.take_length]
  have := (fold_len ns []).2
  simpa using this
def keepsB (base : Int) (ss : List Su) (fd : FD) : Bool := !((letters ss).any fun c => !(decide (0 ≤ figF fd c) && decide (figF fd c < base)) || !freeB ss fd c (figF fd c)) && !(ss.any fun s => !sumB fd base s)
end PP

set_option Elab.async false
set_option linter.all false
set_option maxRecDepth 100000
set_option maxHeartbeats 4000000
namespace PP
open MM PySem L2
def zeroLead (fd : FD) (w : T) : Bool := decide (1 < w.length) && decide (figF fd (w.headD 0) = 0)
def usedF (fd : FD) : List Int := fd.map (·.2)
def badUsed (base : Int) : List Int → Bool
  | [] => false
  | n :: r => decide ((dedI (n :: r)).length ≠ (n :: r).length) || (decide (minL n r < 0) || decide (base ≤ maxL n r))
def lawKeepsB (base : Int) (ss : List Su) (fd : FD) : Bool := !badUsed base (usedF fd) && !(ss.any fun s => (allW s).any (zeroLead fd) || !sumB fd base s)
end PP

set_option Elab.async false
set_option linter.all false
set_option maxRecDepth 100000
set_option maxHeartbeats 4000000
namespace PP
open MM PySem L2
theorem nodup_inj {α β : Type} (f : α → β) : ∀ {l : List α}, (l.map f).Nodup → ∀ {a b : α}, a ∈ l → b ∈ l → f a = f b → a = b
  | [], _, a, b, h, _, _ => by cases h
  | x :: r, nd, a, b, ha, hb, e => by
    rw [List.map_cons] at nd
    obtain ⟨n1, n2⟩ := List.nodup_cons.mp nd
    rcases List.mem_cons.mp ha with h1 | h1
    · rcases List.mem_cons.mp hb with h2 | h2
      · rw [h1, h2]
      · exact absurd (List.mem_map.mpr ⟨b, h2, by rw [← e, h1]⟩) n1
    · rcases List.mem_cons.mp hb with h2 | h2
      · exact absurd (List.mem_map.mpr ⟨a, h1, by rw [e, h2]⟩) n1
      · exact nodup_inj f n2 h1 h2 e
theorem nodup_of_inj {α β : Type} (f : α → β) : ∀ {l : List α}, l.Nodup → (∀ a b, a ∈ l → b ∈ l → f a = f b → a = b) → (l.map f).Nodup
  | [], _, _ => List.nodup_nil
  | x :: r, nd, h => by
    obtain ⟨n1, n2⟩ := List.nodup_cons.mp nd
    rw [List.map_cons]
    refine List.nodup_cons.mpr ⟨fun hm => ?_, nodup_of_inj f n2 fun a b ha hb e => h a b (List.mem_cons_of_mem _ ha) (List.mem_cons_of_mem _ hb) e⟩
    obtain ⟨y, hy, e⟩ := List.mem_map.mp hm
    have := h x y List.mem_cons_self (List.mem_cons_of_mem _ hy) e.symm
    rw [this] at n1
    exact n1 hy
theorem badUsed_iff (base : Int) (u : List Int) : badUsed base u = false ↔ u = [] ∨ (u.Nodup ∧ ∀ v, v ∈ u → 0 ≤ v ∧ v < base) := by
  cases u with
  | nil => simp [badUsed]
  | cons n r =>
    unfold badUsed
    have h1 := minL_le r n
    have h2 := le_maxL r n
    have h3 := maxL_mem r n
    simp only [Bool.or_eq_false_iff, decide_eq_false_iff_not, ne_eq, Classical.not_not, ded_iff]
    constructor
    · rintro ⟨a, b, c⟩
      refine .inr ⟨a, fun v hv => ?_⟩
      rcases List.mem_cons.mp hv with e | hv
      · rw [e]
        exact ⟨by omega, by omega⟩
      · have := h1.2.1 v hv
        have := h2.2 v hv
        exact ⟨by omega, by omega⟩
    · rintro (e | ⟨a, b⟩)
      · cases e
      · have e1 := b _ h1.2.2
        have e2 := b _ h3
        exact ⟨a, by omega, by omega⟩
theorem leadsB_iff (ss : List Su) (c : Nat) : leadsB ss c = true ↔ ∃ s w, s ∈ ss ∧ w ∈ allW s ∧ 1 < w.length ∧ w.take 1 = [c] := by
  unfold leadsB leadsW
  simp only [List.any_eq_true, Bool.and_eq_true, decide_eq_true_eq]
  constructor
  · rintro ⟨s, hs, w, hw, h1, h2⟩
    exact ⟨s, w, hs, hw, h1, h2⟩
  · rintro ⟨s, w, hs, hw, h1, h2⟩
    exact ⟨s, hs, w, hw, h1, h2⟩
theorem keepsB_iff (base : Int) (ss : List Su) (fd : FD) : keepsB base ss fd = true ↔ (∀ c, c ∈ letters ss → 0 ≤ figF fd c ∧ figF fd c < base ∧ freeB ss fd c (figF fd c) = true) ∧ ∀ s, s ∈ ss → sumB fd base s = true := by
  unfold keepsB
  simp only [Bool.and_eq_true, Bool.not_eq_true', List.any_eq_false, Bool.or_eq_true, decide_eq_true_eq, Bool.not_eq_false', Bool.and_eq_false_iff, not_or]
  constructor
  · rintro ⟨h1, h2⟩
    refine ⟨fun c hc => ?_, fun s hs => by simpa using h2 s hs⟩
    obtain ⟨a, b⟩ := h1 c hc
    simp at a b
    exact ⟨a.1, a.2, b⟩
  · rintro ⟨h1, h2⟩
    refine ⟨fun c hc => ?_, fun s hs => by simpa using h2 s hs⟩
    obtain ⟨a, b, d⟩ := h1 c hc
    simp [a, b, d]
theorem lawKeepsB_iff (base : Int) (ss : List Su) (fd : FD) : lawKeepsB base ss fd = true ↔ badUsed base (usedF fd) = false ∧ ∀ s, s ∈ ss → (∀ w, w ∈ allW s → zeroLead fd w = false) ∧ sumB fd base s = true := by
  unfold lawKeepsB
  simp only [Bool.and_eq_true, Bool.not_eq_true', List.any_eq_false, Bool.or_eq_true]
  constructor
  · rintro ⟨h1, h2⟩
    refine ⟨h1, fun s hs => ?_⟩
    have := h2 s hs
    simp at this
    exact ⟨fun w hw => this.1 w hw, this.2⟩
  · rintro ⟨h1, h2⟩
    refine ⟨h1, fun s hs => ?_⟩
    obtain ⟨a, b⟩ := h2 s hs
    simp [b]
    exact fun w hw => a w hw
theorem keeps_same (base : Int) (ss : List Su) (fd : FD) (nd : (fd.map (·.1)).Nodup) (hk : ∀ c, c ∈ fd.map (·.1) ↔ c ∈ letters ss) : keepsB base ss fd = lawKeepsB base ss fd := by
  have inj1 := @nodup_inj _ _ (fun p : Nat × Int => p.1) fd nd
  have ndfd : fd.Nodup := by
    have := nd
    clear inj1 hk nd
    induction fd with
    | nil => exact List.nodup_nil
    | cons x r ih =>
      rw [List.map_cons] at this
      obtain ⟨n1, n2⟩ := List.nodup_cons.mp this
      exact List.nodup_cons.mpr ⟨fun z => n1 (List.mem_map.mpr ⟨x, z, rfl⟩), ih n2⟩
  have key : keepsB base ss fd = true ↔ lawKeepsB base ss fd = true := by
    rw [keepsB_iff, lawKeepsB_iff]
    constructor
    · rintro ⟨h1, h2⟩
      refine ⟨(badUsed_iff _ _).mpr (.inr ⟨nodup_of_inj _ ndfd fun a b ha hb e => ?_, fun v hv => ?_⟩), fun s hs => ⟨fun w hw => ?_, h2 s hs⟩⟩
      · by_cases ne : a.1 = b.1
        · exact inj1 ha hb ne
        · exfalso
          obtain ⟨_, _, hf⟩ := h1 a.1 ((hk _).mp (List.mem_map.mpr ⟨a, ha, rfl⟩))
          unfold freeB at hf
          rw [figF_mem nd ha] at hf
          simp only [Bool.and_eq_true, Bool.not_eq_true', decide_eq_false_iff_not] at hf
          exact hf.2 (List.mem_map.mpr ⟨b, List.mem_filter.mpr ⟨hb, decide_eq_true fun z => ne z.symm⟩, e.symm⟩)
      · obtain ⟨p, hp, rfl⟩ := List.mem_map.mp hv
        obtain ⟨a, b, _⟩ := h1 p.1 ((hk _).mp (List.mem_map.mpr ⟨p, hp, rfl⟩))
        rw [figF_mem nd hp] at a b
        exact ⟨a, b⟩
      · cases hz : zeroLead fd w with
        | false => rfl
        | true =>
          exfalso
          unfold zeroLead at hz
          simp only [Bool.and_eq_true, decide_eq_true_eq] at hz
          cases w with
          | nil => simp at hz
          | cons c r =>
            obtain ⟨_, _, hf⟩ := h1 c (mem_letters hs hw List.mem_cons_self)
            have hz2 : figF fd c = 0 := hz.2
            unfold freeB at hf
            rw [hz2] at hf
            have hl : leadsB ss c = true := (leadsB_iff ss c).mpr ⟨s, c :: r, hs, hw, hz.1, rfl⟩
            rw [hl] at hf
            simp at hf
    · rintro ⟨h1, h2⟩
      refine ⟨fun c hc => ?_, fun s hs => (h2 s hs).2⟩
      obtain ⟨p, hp, rfl⟩ := List.mem_map.mp ((hk c).mpr hc)
      rcases (badUsed_iff _ _).mp h1 with e | ⟨n1, n2⟩
      · have : p.2 ∈ usedF fd := List.mem_map.mpr ⟨p, hp, rfl⟩
        rw [e] at this
        cases this
      · obtain ⟨a, b⟩ := n2 p.2 (List.mem_map.mpr ⟨p, hp, rfl⟩)
        rw [figF_mem nd hp]
        refine ⟨a, b, ?_⟩
        unfold freeB
        simp only [Bool.and_eq_true, Bool.not_eq_true', decide_eq_false_iff_not, Bool.and_eq_false_iff]
        refine ⟨?_, fun hm => ?_⟩
        · by_cases hz : p.2 = 0
          · right
            cases hl : leadsB ss p.1 with
            | false => rfl
            | true =>
              exfalso
              obtain ⟨s, w, hs, hw, l1, l2⟩ := (leadsB_iff ss p.1).mp hl
              have hzl := (h2 s hs).1 w hw
              unfold zeroLead at hzl
              cases w with
              | nil => simp at l1
              | cons c r =>
                have ec : c = p.1 := by simpa using l2
                subst ec
                simp only [l1, decide_true, Bool.true_and, List.headD_cons, figF_mem nd hp, hz] at hzl
                cases hzl
          · left
            exact hz
        · obtain ⟨q, hq, e⟩ := List.mem_map.mp hm
          obtain ⟨q1, q2⟩ := List.mem_filter.mp hq
          have := @nodup_inj _ _ (fun p : Nat × Int => p.2) fd n1 q p q1 hp e
          rw [this] at q2
          simp at q2
  cases h1 : keepsB base ss fd with
  | true => exact (key.mp h1).symm
  | false =>
    cases h2 : lawKeepsB base ss fd with
    | false => rfl
    | true => rw [key.mpr h2] at h1; cases h1
end PP

set_option Elab.async false
set_option linter.all false
set_option maxRecDepth 100000
set_option maxHeartbeats 4000000
namespace PP
open MM PySem L2
/-! the search over columns, plainly -/
inductive Tb where
  | ans | over (at_ : Nat) | off (at_ place : Nat) | taken (at_ place : Nat) | so (at_ place : Nat) (t : Tb) | cases (c : Nat) (rows : List (Int × Tb))
def wAns : T := [97, 110, 115, 119, 101, 114]
def wOver : T := [111, 118, 101, 114]
def wOff : T := [111, 102, 102]
def wTaken : T := [116, 97, 107, 101, 110]
def wSo : T := [115, 111]
def wCases : T := [99, 97, 115, 101, 115]
mutual
def encT : Tb → D
  | .ans => .tup [.str wAns]
  | .over a => .tup [.str wOver, .int a]
  | .off a p => .tup [.str wOff, .int a, .int p]
  | .taken a p => .tup [.str wTaken, .int a, .int p]
  | .so a p t => .tup [.str wSo, .int a, .int p, encT t]
  | .cases c rows => .tup [.str wCases, .str [c], .tup (encR rows)]
def encR : List (Int × Tb) → List D
  | [] => []
  | (v, t) :: r => .tup [.int v, encT t] :: encR r
end
def aboveT (s : Su) (p : Nat) : List T := (s.1.map fun w => letAt w p).filter neT
def unknown (fd : FD) : List T → Option Nat
  | [c] :: r => if c ∈ fd.map (·.1) then unknown fd r else some c
  | _ :: r => unknown fd r
  | [] => none
def figT (fd : FD) (t : T) : Int := match t with
  | [c] => figF fd c
  | _ => 0
section
variable (base : Int) (ss : List Su)
mutual
def caseP : Nat → Nat → Nat → Int → FD → Tb × List (List Int)
  | 0, _, _, _, _ => (.ans, [])
  | n + 1, a, p, k, fd => match ss[a]? with
    | none => (.ans, [(letters ss).map (figF fd)])
    | some s => if (p : Int) = widthI s then (if 0 < k then (.over a, []) else caseP n (a + 1) 0 0 fd) else
      match unknown fd (aboveT s p) with
      | some c => casesP n c a p k fd
      | none => belowP n (letAt s.2 p) a p (k + ((aboveT s p).map (figT fd)).sum) fd
def casesP : Nat → Nat → Nat → Nat → Int → FD → Tb × List (List Int)
  | 0, _, _, _, _, _ => (.ans, [])
  | n + 1, c, a, p, k, fd =>
    let vs := ((List.range base.toNat).filter fun (v : Nat) => freeB ss fd c (v : Int)).map fun (v : Nat) => ((v : Int), caseP n a p k (fd ++ [(c, (v : Int))]))
    (.cases c (vs.map fun q => (q.1, q.2.1)), (vs.map fun q => q.2.2).flatten)
def belowP : Nat → T → Nat → Nat → Int → FD → Tb × List (List Int)
  | 0, _, _, _, _, _ => (.ans, [])
  | n + 1, t, a, p, tog, fd => match t with
    | [c] => if c ∈ fd.map (·.1) then (if figF fd c ≠ tog % base then (.off a p, []) else caseP n a (p + 1) (tog / base) fd) else
        if freeB ss fd c (tog % base) = true then
          let q := caseP n a (p + 1) (tog / base) (fd ++ [(c, tog % base)])
          (.so a p q.1, q.2)
        else (.taken a p, [])
    | _ => if tog % base ≠ 0 then (.off a p, []) else caseP n a (p + 1) (tog / base) fd
end
end
end PP

set_option Elab.async false
set_option linter.all false
set_option maxRecDepth 100000
set_option maxHeartbeats 4000000
namespace PP
open MM PySem L2
end PP

set_option Elab.async false
set_option linter.all false
set_option maxRecDepth 100000
set_option maxHeartbeats 4000000
namespace PP
open MM PySem L2
end PP

set_option Elab.async false
set_option linter.all false
set_option maxRecDepth 100000
set_option maxHeartbeats 4000000
namespace PP
open MM PySem L2
end PP

set_option Elab.async false
set_option linter.all false
set_option maxRecDepth 100000
set_option maxHeartbeats 4000000
namespace PP
open MM PySem L2
end PP

set_option Elab.async false
set_option linter.all false
set_option maxRecDepth 100000
set_option maxHeartbeats 4000000
namespace PP
open MM PySem L2
end PP

set_option Elab.async false
set_option linter.all false
set_option maxRecDepth 100000
set_option maxHeartbeats 4000000
namespace PP
open MM PySem L2
end PP

set_option Elab.async false
set_option linter.all false
set_option maxRecDepth 100000
set_option maxHeartbeats 4000000
namespace PP
open MM PySem L2
end PP

set_option Elab.async false
set_option linter.all false
set_option maxRecDepth 100000
set_option maxHeartbeats 4000000
namespace PP
open MM PySem L2
end PP

set_option Elab.async false
set_option linter.all false
set_option maxRecDepth 100000
set_option maxHeartbeats 4000000
namespace PP
open MM PySem L2
end PP

set_option Elab.async false
set_option linter.all false
set_option maxRecDepth 100000
set_option maxHeartbeats 4000000
namespace PP
open MM PySem L2
end PP

set_option Elab.async false
set_option linter.all false
set_option maxRecDepth 100000
set_option maxHeartbeats 4000000
namespace PP
open MM PySem L2
end PP

set_option Elab.async false
set_option linter.all false
set_option maxRecDepth 100000
set_option maxHeartbeats 4000000
namespace PP
open MM PySem L2
/-! a sheet of law_wide -/
def Broad (base : Int) (ss : List Su) : Prop := 8 ≤ base ∧ ∃ s, ss = [s] ∧ s.1.flatten.length ≤ 6 ∧ (9 ≤ base → s.1.flatten.length ≤ 4)
theorem mem_dedT {l : List Nat} {c : Nat} (h : c ∈ l) : c ∈ dedT l := by
  have key : ∀ (l a : List Nat), (c ∈ a ∨ c ∈ l) → c ∈ l.foldl (fun a v => if a.any (· == v) then a else a ++ [v]) a := by
    intro l
    induction l with
    | nil => intro a h; simpa using h
    | cons v r ih =>
      intro a h
      rw [List.foldl_cons]
      refine ih _ ?_
      by_cases hv : a.any (· == v) = true
      · rw [if_pos hv]
        rcases h with h | h
        · exact .inl h
        · rcases List.mem_cons.mp h with e | h
          · left
            obtain ⟨y, hy, e2⟩ := List.any_eq_true.mp hv
            rw [e, ← eq_of_beq e2]
            exact hy
          · exact .inr h
      · rw [if_neg hv]
        rcases h with h | h
        · exact .inl (List.mem_append.mpr (.inl h))
        · rcases List.mem_cons.mp h with e | h
          · exact .inl (by rw [e]; simp)
          · exact .inr h
  exact key l [] (.inr h)
theorem joinT_nil : ∀ ws : List T, joinT [] ws = ws.flatten
  | [] => rfl
  | [w] => by
    show w = [w].flatten
    simp
  | w :: v :: r => by
    show w ++ [] ++ joinT [] (v :: r) = _
    rw [joinT_nil (v :: r)]
    simp
theorem flatten_le {k : Nat} : ∀ ws : List T, (∀ w, w ∈ ws → w.length ≤ k) → ws.flatten.length ≤ k * ws.length
  | [], _ => by simp
  | w :: r, h => by
    have h1 := h w List.mem_cons_self
    have h2 := flatten_le r fun v hv => h v (List.mem_cons_of_mem _ hv)
    rw [List.flatten_cons, List.length_append, List.length_cons, Nat.mul_add]
    omega
theorem fJoin_nil (ws : List T) (hl : ws.flatten.length ≤ 1000) : fJoin (.str []) [.lst (ws.map D.str)] = some (.str ws.flatten) := by
  unfold fJoin
  dsimp only
  rw [textsD_map]
  dsimp only
  have e : (ws.map (·.length)).sum = ws.flatten.length := by rw [List.length_flatten]
  rw [e, if_pos, joinT_nil]
  simp
  exact Nat.le_trans (by simpa using hl) (by decide)
theorem cut2 {α : Type} (l : List α) : cutD l none (some 2) = l.take 2 := by
  unfold cutD
  have e1 : HT.sIx l.length 0 none = 0 := rfl
  have e2 : HT.sIx l.length l.length (some 2) = min 2 l.length := by
    unfold HT.sIx
    simp
  rw [e1, e2, List.drop_zero, Nat.sub_zero]
  by_cases h : 2 ≤ l.length
  · rw [Nat.min_eq_left h]
  · rw [Nat.min_eq_right (by omega), List.take_length, List.take_of_length_le (by omega)]
/-- drawn numbers, one at a time -/
theorem r_lcN {X : Type} {vs : List Nat} {mg : MG} {me : ME} {ds : List D} {sl : Sl} (S : D → Sl) (e : X → D) (P : D → Prop) (R : D → Prop) (xs : List X) (d0 : D) (hP : P d0) (hds : ds = xs.map e) (hs : sl = S d0)
    (h : ∀ d x, x ∈ xs → P d → ∃ y d' s1 s3, P d' ∧ R y ∧ mg (e x) (wipeS (S d) vs) = some s1 ∧ me s1 = .ok y s3 ∧ rest vs (S d) s3 = S d') :
    ∃ ys d', lcGo vs mg mYes me ds sl [] = .ok ys (S d') ∧ P d' ∧ ys.length = xs.length ∧ ∀ y, y ∈ ys → R y := by
  rw [hds, hs]
  have key : ∀ (xs : List X) (d0 : D) (acc : List D), P d0 → (∀ d x, x ∈ xs → P d → ∃ y d' s1 s3, P d' ∧ R y ∧ mg (e x) (wipeS (S d) vs) = some s1 ∧ me s1 = .ok y s3 ∧ rest vs (S d) s3 = S d') →
      ∃ ys d', lcGo vs mg mYes me (xs.map e) (S d0) acc = .ok (acc ++ ys) (S d') ∧ P d' ∧ ys.length = xs.length ∧ ∀ y, y ∈ ys → R y := by
    intro xs
    induction xs with
    | nil => intro d0 acc hP _; exact ⟨[], d0, by simp [lcGo], hP, rfl, fun y hy => by cases hy⟩
    | cons x r ih =>
      intro d0 acc hP h
      obtain ⟨y, d1, s1, s3, hP1, hR, e1, e2, e3⟩ := h d0 x List.mem_cons_self hP
      obtain ⟨ys, d2, e4, hP2, hl, hR2⟩ := ih d1 (acc ++ [y]) hP1 fun d x hx => h d x (List.mem_cons_of_mem _ hx)
      refine ⟨y :: ys, d2, ?_, hP2, by simp [hl], fun z hz => ?_⟩
      · rw [List.map_cons]
        unfold lcGo
        rw [e1]
        dsimp only [mYes]
        rw [e2]
        dsimp only
        rw [e3, e4, List.append_assoc]
        rfl
      · rcases List.mem_cons.mp hz with rfl | hz
        · exact hR
        · exact hR2 z hz
  obtain ⟨ys, d', e1, r⟩ := key xs d0 [] hP h
  exact ⟨ys, d', by rw [e1, List.nil_append], r⟩
end PP

set_option Elab.async false
set_option linter.all false
set_option maxRecDepth 100000
set_option maxHeartbeats 4000000
namespace PP
open MM PySem L2
end PP

set_option Elab.async false
set_option linter.all false
set_option maxRecDepth 100000
set_option maxHeartbeats 40000000
namespace PP
open MM PySem L2
end PP

set_option Elab.async false
set_option linter.all false
set_option maxRecDepth 100000
set_option maxHeartbeats 40000000
namespace PP
open MM PySem L2
end PP

set_option Elab.async false
set_option linter.all false
set_option maxRecDepth 100000
set_option maxHeartbeats 40000000
namespace PP
open MM PySem L2
end PP

set_option Elab.async false
set_option linter.all false
set_option maxRecDepth 100000
set_option maxHeartbeats 40000000
namespace PP
open MM PySem L2
end PP

set_option Elab.async false
set_option linter.all false
set_option maxRecDepth 100000
set_option maxHeartbeats 4000000
namespace PP
open MM PySem L2
end PP

set_option Elab.async false
set_option linter.all false
set_option maxRecDepth 100000
set_option maxHeartbeats 4000000
namespace PP
open MM PySem L2
end PP

set_option Elab.async false
set_option linter.all false
set_option maxRecDepth 100000
set_option maxHeartbeats 4000000
namespace PP
open MM PySem L2
end PP

set_option Elab.async false
set_option linter.all false
set_option maxRecDepth 100000
set_option maxHeartbeats 4000000
namespace PP
open MM PySem L2
end PP

set_option Elab.async false
set_option linter.all false
set_option maxRecDepth 100000
set_option maxHeartbeats 4000000
namespace PP
open MM PySem L2
end PP

set_option Elab.async false
set_option linter.all false
set_option maxRecDepth 100000
set_option maxHeartbeats 4000000
namespace PP
open MM PySem L2
end PP

set_option Elab.async false
set_option linter.all false
set_option maxRecDepth 100000
set_option maxHeartbeats 4000000
namespace PP
open MM PySem L2
end PP

set_option Elab.async false
set_option linter.all false
set_option maxRecDepth 100000
set_option maxHeartbeats 4000000
namespace PP
open MM PySem L2
end PP

set_option Elab.async false
set_option linter.all false
set_option maxRecDepth 100000
set_option maxHeartbeats 4000000
namespace PP
open MM PySem L2
end PP

set_option Elab.async false
set_option linter.all false
set_option maxRecDepth 100000
set_option maxHeartbeats 4000000
namespace PP
open MM PySem L2
end PP

set_option Elab.async false
set_option linter.all false
set_option maxRecDepth 100000
set_option maxHeartbeats 4000000
namespace PP
open MM PySem L2
end PP

set_option Elab.async false
set_option linter.all false
set_option maxRecDepth 100000
set_option maxHeartbeats 4000000
namespace PP
open MM PySem L2
end PP

set_option Elab.async false
set_option linter.all false
set_option maxRecDepth 100000
set_option maxHeartbeats 4000000
namespace PP
open MM PySem L2
end PP

set_option Elab.async false
set_option linter.all false
set_option maxRecDepth 100000
set_option maxHeartbeats 4000000
namespace PP
open MM PySem L2
end PP

set_option Elab.async false
set_option linter.all false
set_option maxRecDepth 100000
set_option maxHeartbeats 4000000
namespace PP
open MM PySem L2
end PP

set_option Elab.async false
set_option linter.all false
set_option maxRecDepth 100000
set_option maxHeartbeats 4000000
namespace PP
open MM PySem L2
end PP

set_option Elab.async false
set_option linter.all false
set_option maxRecDepth 100000
set_option maxHeartbeats 4000000
namespace PP
open MM PySem L2
end PP

set_option Elab.async false
set_option linter.all false
set_option maxRecDepth 100000
set_option maxHeartbeats 4000000
namespace PP
open MM PySem L2
end PP

set_option Elab.async false
set_option linter.all false
set_option maxRecDepth 100000
set_option maxHeartbeats 4000000
namespace PP
open MM PySem L2
end PP

set_option Elab.async false
set_option linter.all false
set_option maxRecDepth 100000
set_option maxHeartbeats 4000000
namespace PP
open MM PySem L2
end PP

set_option Elab.async false
set_option linter.all false
set_option maxRecDepth 100000
set_option maxHeartbeats 4000000
namespace PP
open MM PySem L2
end PP

set_option Elab.async false
set_option linter.all false
set_option maxRecDepth 100000
set_option maxHeartbeats 4000000
namespace PP
open MM PySem L2
end PP

set_option Elab.async false
set_option linter.all false
set_option maxRecDepth 100000
set_option maxHeartbeats 4000000
namespace PP
open MM PySem L2
local macro_rules | `(tactic| infer_instance) => `(tactic| with_reducible first | (apply stp; constructor) | assumption | exact soC | (with_unfolding_all exact rfT) | exact msC | exact gtC | exact stC | exact siC | (apply stg; constructor) | apply q_nx | exact q_rt | apply r_t | apply r_f | (apply r_yes; · (with_unfolding_all first | assumption | rfl | (simp only [decide_eq_true_eq, decide_eq_false_iff_not, Bool.not_eq_true', Bool.not_eq_false', not_true_eq_false, not_false_eq_true, ne_eq]; first | done | assumption | omega))) | (apply r_no; · (with_unfolding_all first | assumption | rfl | (simp only [decide_eq_true_eq, decide_eq_false_iff_not, Bool.not_eq_true', Bool.not_eq_false', not_true_eq_false, not_false_eq_true, ne_eq]; first | done | assumption | omega))) | exact rdC | exact wrC | exact mpC | exact q_exc | exact ok_refl | exact snC | exact apC | apply r_fnEN | apply r_fnE | apply lc_m | apply lc_o | apply lc_n | apply lc_e | apply fo_e | (with_unfolding_all exact rs_of rfl) | apply wp_one | apply wp_two | (intro (_ : _ = true)) | apply o_mod | apply o_mul | apply o_div | apply o_addS | apply o_addL | apply o_addT | (with_unfolding_all exact (rfl : (_ : Option D) = _)) | (with_unfolding_all exact (rfl : (_ : Sl) = _)) | (exact of_decide_eq_true (by with_unfolding_all rfl)) | omega | apply g_name | (with_unfolding_all exact st_z) | apply st_s | apply siW | apply wr_v | apply wr_f | (with_unfolding_all exact sd_z) | apply sd_s)
/-! sheets that are refused -/
def isWord (w : T) : Bool := decide (w ≠ []) && decide (w.length ≤ 6) && w.all fun c => decide (97 ≤ c ∧ c ≤ 122)
theorem isWord_iff {w : T} : isWord w = true ↔ w ≠ [] ∧ w.length ≤ 6 ∧ ∀ c, c ∈ w → Small c := by
  unfold isWord Small
  simp [and_assoc]
theorem mem_abc_iff {c : Nat} : c ∈ ([97, 98, 99, 100, 101, 102, 103, 104, 105, 106, 107, 108, 109, 110, 111, 112, 113, 114, 115, 116, 117, 118, 119, 120, 121, 122] : T) ↔ (97 ≤ c ∧ c ≤ 122) := by
  constructor
  · intro h
    simp only [List.mem_cons, List.not_mem_nil, or_false] at h
    omega
  · intro h
    exact mem_abc h
theorem is_word_gen (w : T) (hl : w.length ≤ LB) : EV.is_word [some (.str w)] = .ok (.bl (isWord w)) [none] := by
  obtain ⟨s', ⟨y, rfl⟩, e⟩ := forGo_chk (mg := gmName 1) (mb := mIf (mTest (mOp fNotIn (mVar 1) (mC (.str [97, 98, 99, 100, 101, 102, 103, 104, 105, 106, 107, 108, 109, 110, 111, 112, 113, 114, 115, 116, 117, 118, 119, 120, 121, 122])))) (mRet (mC (.bl false))) mSkip) (fun c : Nat => D.str [c])
    (fun c => !decide (97 ≤ c ∧ c ≤ 122)) (.bl false) (fun sl => ∃ y, sl = [some (.str w), y]) w [some (.str w), none] ⟨none, rfl⟩ (by
      rintro c s hc ⟨y, rfl⟩
      refine ⟨[some (.str w), some (.str [c])], [some (.str w), some (.str [c])], rfl, ⟨_, rfl⟩, ?_⟩
      by_cases hm : 97 ≤ c ∧ c ≤ 122
      · have hi : fNotIn (.str [c]) (.str [97, 98, 99, 100, 101, 102, 103, 104, 105, 106, 107, 108, 109, 110, 111, 112, 113, 114, 115, 116, 117, 118, 119, 120, 121, 122]) = some (.bl false) := by
          rw [o_ninS, decide_eq_true (mem_abc_iff.mpr hm)]
          rfl
        rw [if_neg (by simp [hm])]
        iterate 5 repeat infer_instance
      · have hi : fNotIn (.str [c]) (.str [97, 98, 99, 100, 101, 102, 103, 104, 105, 106, 107, 108, 109, 110, 111, 112, 113, 114, 115, 116, 117, 118, 119, 120, 121, 122]) = some (.bl true) := by
          rw [o_ninS, decide_eq_false fun z => hm (mem_abc_iff.mp z)]
          rfl
        rw [if_pos (by simp [hm])]
        iterate 5 repeat infer_instance)
  have hit : itemsOf (.str w) = some (w.map fun c => D.str [c]) := rfl
  unfold EV.is_word
  by_cases h0 : w = []
  · subst h0
    with_unfolding_all rfl
  by_cases h6 : 6 < w.length
  · have hb : isWord w = false := by
      rw [Bool.eq_false_iff, ne_eq, isWord_iff]
      omega
    rw [hb]
    have n1 : decide (w = []) = false := decide_eq_false h0
    have n2 : (6 : Int) < (w.length : Nat) := by omega
    iterate 5 repeat infer_instance
  · have n1 : decide (w = []) = false := decide_eq_false h0
    have n2 : ¬ (6 : Int) < (w.length : Nat) := by omega
    by_cases ha : (w.any fun c => !decide (97 ≤ c ∧ c ≤ 122)) = true
    · have hb : isWord w = false := by
        unfold isWord
        rw [List.any_eq_true] at ha
        obtain ⟨c, hc, h⟩ := ha
        rw [Bool.eq_false_iff]
        intro z
        simp only [Bool.and_eq_true, List.all_eq_true] at z
        have := z.2 c hc
        rw [this] at h
        cases h
      rw [hb]
      rw [if_pos ha] at e
      iterate 5 repeat infer_instance
    · have hb : isWord w = true := by
        rw [isWord_iff]
        refine ⟨h0, by omega, fun c hc => ?_⟩
        have ha2 : (w.any fun c => !decide (97 ≤ c ∧ c ≤ 122)) = false := by simpa using ha
        rw [List.any_eq_false] at ha2
        have := ha2 c hc
        simpa [Small] using this
      rw [hb]
      rw [if_neg ha] at e
      iterate 5 repeat infer_instance
def wAdd : T := [97, 100, 100, 101, 110, 100, 115]
def wWord : T := [119, 111, 114, 100]
def wLet : T := [108, 101, 116, 116, 101, 114, 115]
def wBase : T := [98, 97, 115, 101]
def wSums : T := [115, 117, 109, 115]
def badStep (base : Int) (ss : List Su) (k : Nat) (s : Su) : Option T :=
  if s.1.length < 1 ∨ 4 < s.1.length then some wAdd
  else if (allW s).any (fun w => !isWord w) = true then some wWord
  else if (if (8 : Int) < base then 8 else base) < ((lettersN ss (k + 1)).length : Int) then some wLet else none
def badFrom (base : Int) (ss : List Su) : List Nat → Option (Nat × T)
  | [] => none
  | k :: r => match badStep base ss k (ss.getD k ([], [])) with
    | some w => some (k, w)
    | none => badFrom base ss r
def badSheet (base : Int) (ss : List Su) : Option (Nat × T) :=
  if base < 2 ∨ 12 < base then some (0, wBase)
  else if ss.length < 1 ∨ 3 < ss.length then some (0, wSums)
  else badFrom base ss (List.range ss.length)
/-- limits within which all is looked at -/
structure Lim (ss : List Su) : Prop where
  n : ss.length ≤ 1000
  ad : ∀ s, s ∈ ss → s.1.length ≤ 1000
  w : ∀ s, s ∈ ss → ∀ w, w ∈ allW s → w.length ≤ 1000
theorem encS_ad (s : Su) (h : s.1.length ≤ 1000) : fAdd (encW s.1) (.tup [.str s.2]) = some (.tup ((allW s).map D.str)) := by
  unfold encW fAdd
  dsimp only
  rw [if_pos (by simp; exact Nat.le_trans (by omega : s.1.length + 1 ≤ 2000) (by decide))]
  unfold allW
  rw [List.map_append]
  rfl
/-- words up to k are good -/
def GoodTo (base : Int) (ss : List Su) (k : Nat) : Prop := ∀ j, j < k → ∀ s, ss[j]? = some s → badStep base ss j s = none
theorem step_good {base : Int} {ss : List Su} {k : Nat} {s : Su} (h : badStep base ss k s = none) : 1 ≤ s.1.length ∧ s.1.length ≤ 4 ∧ (∀ w, w ∈ allW s → w ≠ [] ∧ w.length ≤ 6 ∧ ∀ c, c ∈ w → Small c) ∧ ((lettersN ss (k + 1)).length : Int) ≤ (if (8 : Int) < base then 8 else base) := by
  unfold badStep at h
  by_cases h1 : s.1.length < 1 ∨ 4 < s.1.length
  · rw [if_pos h1] at h; cases h
  rw [if_neg h1] at h
  by_cases h2 : (allW s).any (fun w => !isWord w) = true
  · rw [if_pos h2] at h; cases h
  rw [if_neg h2] at h
  by_cases h3 : (if (8 : Int) < base then 8 else base) < ((lettersN ss (k + 1)).length : Int)
  · rw [if_pos h3] at h; cases h
  refine ⟨by omega, by omega, fun w hw => ?_, Int.not_lt.mp h3⟩
  have h2 : (allW s).any (fun w => !isWord w) = false := by simpa using h2
  rw [List.any_eq_false] at h2
  have := h2 w hw
  exact isWord_iff.mp (by simpa using this)
theorem lim_sums {ss : List Su} (n : Nat) (h : ∀ s, s ∈ ss.take n → s.1.length ≤ 4 ∧ ∀ w, w ∈ allW s → w.length ≤ 6) (h3 : ss.length ≤ 3) : ∃ L, Sums L (ss.take n) := by
  have key : ∀ l : List Su, (∀ s, s ∈ l → s.1.length ≤ 4 ∧ ∀ w, w ∈ allW s → w.length ≤ 6) → ((l.flatMap fun s => (allW s).flatten).length ≤ 30 * l.length) := by
    intro l
    induction l with
    | nil => intro _; simp
    | cons s r ih =>
      intro h
      obtain ⟨h1, h2⟩ := h s List.mem_cons_self
      have h3 := ih fun s hs => h s (List.mem_cons_of_mem _ hs)
      have h4 := flatten_le (k := 6) (allW s) h2
      have h5 : (allW s).length = s.1.length + 1 := by unfold allW; simp
      rw [List.flatMap_cons, List.length_append, List.length_cons]
      omega
  have hk := key (ss.take n) h
  have hl := List.length_take_le' n ss
  refine ⟨(ss.take n).flatMap fun s => (allW s).flatten, ⟨by omega, fun s hs => (h s hs).1, fun s hs w hw => Nat.le_trans ((h s hs).2 w hw) (by omega), fun s hs w hw c hc => ?_⟩⟩
  exact List.mem_flatMap.mpr ⟨s, hs, List.mem_flatten.mpr ⟨w, hw, hc⟩⟩
abbrev csI (base : Int) (ss : List Su) (y3 y4 y5 y6 : Option D) : Sl := [some (sheetD base ss), some (.int base), some (encSums ss), y3, y4, y5, y6]
/-- the words of a sum, with the raise -/
theorem words_bad (base : Int) (ss : List Su) (k : Nat) (s : Su) (hl : ∀ w, w ∈ allW s → w.length ≤ 1000) (x4 : Option D) : ∃ y4 : Option D, forGo (gmName 4) (mIf (mNot (mTest (mCallF 1 EV.is_word (mCons (mVar 4) mNil)))) (mRaiseO 9 2 (mCons (mVar 3) (mCons (mC (.str [119, 111, 114, 100])) mNil))) mSkip) ((allW s).map D.str)
      (csI base ss (some (.int (k : Int))) x4 (some (encW s.1)) (some (.str s.2))) = if (allW s).any (fun w => !isWord w) = true then .exc 9 [.str wWord, .int k] (csI base ss (some (.int (k : Int))) y4 (some (encW s.1)) (some (.str s.2))) else .ok .nx (csI base ss (some (.int (k : Int))) y4 (some (encW s.1)) (some (.str s.2))) := by
  generalize allW s = l at hl
  induction l generalizing x4 with
  | nil => exact ⟨x4, rfl⟩
  | cons w r ih =>
    have ew := is_word_gen w (Nat.le_trans (hl w List.mem_cons_self) (by decide))
    rw [List.map_cons, List.any_cons]
    by_cases hw : isWord w = true
    · rw [hw] at ew
      obtain ⟨y4, e⟩ := ih (some (.str w)) (fun v hv => hl v (List.mem_cons_of_mem _ hv))
      refine ⟨y4, ?_⟩
      rw [hw, show (!true || r.any fun w => !isWord w) = r.any fun w => !isWord w from rfl, ← e]
      refine forGo_step (s1 := csI base ss (some (.int (k : Int))) (some (.str w)) (some (encW s.1)) (some (.str s.2))) rfl ?_
      iterate 5 repeat infer_instance
    · have hw2 : isWord w = false := by simpa using hw
      rw [hw2] at ew
      refine ⟨some (.str w), ?_⟩
      rw [hw2, show (!false || r.any fun w => !isWord w) = true from rfl, if_pos rfl]
      unfold forGo
      have eg : gmName 4 (D.str w) (csI base ss (some (.int (k : Int))) x4 (some (encW s.1)) (some (.str s.2))) = some (csI base ss (some (.int (k : Int))) (some (.str w)) (some (encW s.1)) (some (.str s.2))) := rfl
      rw [eg]
      dsimp only
      have et0 : mTest (mCallF 1 EV.is_word (mCons (mVar 4) mNil)) (csI base ss (some (.int (k : Int))) (some (.str w)) (some (encW s.1)) (some (.str s.2))) = .ok false (csI base ss (some (.int (k : Int))) (some (.str w)) (some (encW s.1)) (some (.str s.2))) := mTest_ok (mCallF_ok (ds := [.str w]) rfl rfl ew)
      have et : mNot (mTest (mCallF 1 EV.is_word (mCons (mVar 4) mNil))) (csI base ss (some (.int (k : Int))) (some (.str w)) (some (encW s.1)) (some (.str s.2))) = .ok true (csI base ss (some (.int (k : Int))) (some (.str w)) (some (encW s.1)) (some (.str s.2))) := by
        rw [ap_mNot, et0]
        rfl
      rw [ap_mIf, et]
      rfl
theorem step_gen (base : Int) (hb : 2 ≤ base) (ss : List Su) (hn : ss.length ≤ 3) (lim : Lim ss) (k : Nat) (s : Su) (hs : ss[k]? = some s) (hg : GoodTo base ss k) (y3 y4 y5 y6 : Option D) :
    ∃ z3 z4 z5 z6 : Option D, initBody (csI base ss (some (.int (k : Int))) y4 y5 y6) = match badStep base ss k s with
      | some w => .exc 9 [.str w, .int k] (csI base ss z3 z4 z5 z6)
      | none => .ok .nx (csI base ss z3 z4 z5 z6) := by
  have hmem := List.mem_of_getElem? hs
  have hk2 : k < ss.length := (List.getElem?_eq_some_iff.mp hs).1
  have e1 : fIx (encSums ss) (.int (k : Int)) = some (.tup [encW s.1, .str s.2]) := encSums_at hs
  have e2 := encS_ad s (lim.ad s hmem)
  have e4 : fLen [encW s.1] = some (.int (s.1.length : Nat)) := by unfold encW fLen; simp
  have lb1 : 1 ≤ LB := by decide
  obtain ⟨z4, ew⟩ := words_bad base ss k s (lim.w s hmem) y4
  have q0 : mAsg (mOp fIx (mVar 2) (mVar 3)) (gmTup 2 (gmCons (gmName 5) (gmCons (gmName 6) gmNil))) (csI base ss (some (.int (k : Int))) y4 y5 y6) = .ok .nx (csI base ss (some (.int (k : Int))) y4 (some (encW s.1)) (some (.str s.2))) := by
    iterate 5 repeat infer_instance
  unfold initBody
  rw [ap_mSeq, q0]
  dsimp only
  have q1 : ∀ b : Bool, decide (s.1.length < 1 ∨ 4 < s.1.length) = b → mOr (mTest (mOp fLt (mCall fLen (mCons (mVar 5) mNil)) (mC (.int 1)))) (mTest (mOp fGt (mCall fLen (mCons (mVar 5) mNil)) (mC (.int 4)))) (csI base ss (some (.int (k : Int))) y4 (some (encW s.1)) (some (.str s.2))) = .ok b (csI base ss (some (.int (k : Int))) y4 (some (encW s.1)) (some (.str s.2))) := by
    intro b hb
    have n1 : decide (((s.1.length : Nat) : Int) < 1) = decide (s.1.length < 1) := by rw [decide_eq_decide]; omega
    have n2 : decide ((4 : Int) < ((s.1.length : Nat) : Int)) = decide (4 < s.1.length) := by rw [decide_eq_decide]; omega
    have t1 : mTest (mOp fLt (mCall fLen (mCons (mVar 5) mNil)) (mC (.int 1))) (csI base ss (some (.int (k : Int))) y4 (some (encW s.1)) (some (.str s.2))) = .ok (decide (s.1.length < 1)) (csI base ss (some (.int (k : Int))) y4 (some (encW s.1)) (some (.str s.2))) := by
      rw [← n1]
      iterate 5 repeat infer_instance
    have t2 : mTest (mOp fGt (mCall fLen (mCons (mVar 5) mNil)) (mC (.int 4))) (csI base ss (some (.int (k : Int))) y4 (some (encW s.1)) (some (.str s.2))) = .ok (decide (4 < s.1.length)) (csI base ss (some (.int (k : Int))) y4 (some (encW s.1)) (some (.str s.2))) := by
      rw [← n2]
      iterate 5 repeat infer_instance
    rw [ap_mOr, t1, bind_ok, t2, ← hb]
    by_cases a : s.1.length < 1
    · simp [a]
    · simp [a]
  by_cases h1 : s.1.length < 1 ∨ 4 < s.1.length
  · have eb : badStep base ss k s = some wAdd := by unfold badStep; rw [if_pos h1]
    rw [eb]
    refine ⟨some (.int (k : Int)), y4, some (encW s.1), some (.str s.2), ?_⟩
    rw [ap_mSeq, ap_mIf, q1 true (decide_eq_true h1)]
    rfl
  · rw [ap_mSeq, ap_mIf, q1 false (decide_eq_false h1), bind_ok, if_neg (by simp)]
    have q2 : mSkip (csI base ss (some (.int (k : Int))) y4 (some (encW s.1)) (some (.str s.2))) = .ok .nx (csI base ss (some (.int (k : Int))) y4 (some (encW s.1)) (some (.str s.2))) := rfl
    rw [q2]
    dsimp only
    have q3 : mItems (mOp fAdd (mVar 5) (mTup (mCons (mVar 6) mNil))) (csI base ss (some (.int (k : Int))) y4 (some (encW s.1)) (some (.str s.2))) = .ok ((allW s).map D.str) (csI base ss (some (.int (k : Int))) y4 (some (encW s.1)) (some (.str s.2))) := by
      iterate 5 repeat infer_instance
    by_cases h2 : (allW s).any (fun w => !isWord w) = true
    · have eb : badStep base ss k s = some wWord := by unfold badStep; rw [if_neg h1, if_pos h2]
      rw [if_pos h2] at ew
      rw [eb]
      refine ⟨some (.int (k : Int)), z4, some (encW s.1), some (.str s.2), ?_⟩
      rw [ap_mSeq, ap_mFor, q3, bind_ok, ew]
    · rw [if_neg h2] at ew
      rw [ap_mSeq, ap_mFor, q3, bind_ok, ew]
      dsimp only
      have hw : ∀ w, w ∈ allW s → w.length ≤ 6 := fun w hw => by
        have h2 : (allW s).any (fun w => !isWord w) = false := by simpa using h2
        rw [List.any_eq_false] at h2
        have := h2 w hw
        exact (isWord_iff.mp (by simpa using this)).2.1
      obtain ⟨L, hL⟩ := lim_sums (ss := ss) (k + 1) (fun t ht => by
        obtain ⟨j, hj⟩ := List.getElem?_of_mem ht
        rw [List.getElem?_take] at hj
        split at hj
        · rename_i hjk
          by_cases e : j = k
          · subst e
            rw [hs] at hj
            cases hj
            exact ⟨by omega, hw⟩
          · have h5 := step_good (hg j (by omega) t hj)
            exact ⟨h5.2.1, fun w hw => (h5.2.2.1 w hw).2.1⟩
        · cases hj) hn
      have e3 := letters_to_specT (k + 1) hL (by omega) base (k : Int) (by push_cast; rfl) (by omega)
      have hgd : Good L (lettersN ss (k + 1)) := by
        unfold lettersN
        exact Good.letters _ (Good.nil L) hL.ls
      have hlen : (lettersN ss (k + 1)).length ≤ 1000 := Nat.le_trans hgd.le hL.hL
      have e5 : fLen [encN (lettersN ss (k + 1))] = some (.int ((lettersN ss (k + 1)).length : Nat)) := by unfold encN fLen; simp
      have e6 : isLD (encN (lettersN ss (k + 1))) = true := rfl
      have hm : fMin [.int base, .int 8] = some (.int (if (8 : Int) < base then 8 else base)) := rfl
      have em : mMethF 0 2 EV.Sheet_letters_to (mVar 0) (mCons (mVar 3) mNil) (csI base ss (some (.int (k : Int))) z4 (some (encW s.1)) (some (.str s.2))) =
          .ok (encN (lettersN ss (k + 1))) (csI base ss (some (.int (k : Int))) z4 (some (encW s.1)) (some (.str s.2))) := mMethF_ok rfl rfl rfl rfl e3
      have ec : mCall fLen (mCons (mFz (mMethF 0 2 EV.Sheet_letters_to (mVar 0) (mCons (mVar 3) mNil))) mNil) (csI base ss (some (.int (k : Int))) z4 (some (encW s.1)) (some (.str s.2))) =
          .ok (.int ((lettersN ss (k + 1)).length : Nat)) (csI base ss (some (.int (k : Int))) z4 (some (encW s.1)) (some (.str s.2))) := by
        rw [ap_mCall, ap_mCons, mFz_ok em e6]
        simp only [bind_ok, ap_mNil, e5, ofO_some]
      have hbor : mBor [.pin, .frz, .frz, .frz, .frz, .frz, .frz] 0 (mCall fLen (mCons (mFz (mMethF 0 2 EV.Sheet_letters_to (mVar 0) (mCons (mVar 3) mNil))) mNil)) (csI base ss (some (.int (k : Int))) z4 (some (encW s.1)) (some (.str s.2))) =
          .ok (.int ((lettersN ss (k + 1)).length : Nat)) (csI base ss (some (.int (k : Int))) z4 (some (encW s.1)) (some (.str s.2))) := by
        have ek : mskFrom [.pin, .frz, .frz, .frz, .frz, .frz, .frz] 0 0 (csI base ss (some (.int (k : Int))) z4 (some (encW s.1)) (some (.str s.2))) = csI base ss (some (.int (k : Int))) z4 (some (encW s.1)) (some (.str s.2)) := by
          simp [mskFrom, mdOf]
        exact mBor_ok (s' := csI base ss (some (.int (k : Int))) z4 (some (encW s.1)) (some (.str s.2))) rfl (by rw [ek]; exact ec) rfl
      have ev1 : mVar 1 (csI base ss (some (.int (k : Int))) z4 (some (encW s.1)) (some (.str s.2))) = .ok (.int base) (csI base ss (some (.int (k : Int))) z4 (some (encW s.1)) (some (.str s.2))) := rfl
      have et : mTest (mOp fGt (mBor [.pin, .frz, .frz, .frz, .frz, .frz, .frz] 0 (mCall fLen (mCons (mFz (mMethF 0 2 EV.Sheet_letters_to (mVar 0) (mCons (mVar 3) mNil))) mNil))) (mCall fMin (mCons (mVar 1) (mCons (mC (.int 8)) mNil)))) (csI base ss (some (.int (k : Int))) z4 (some (encW s.1)) (some (.str s.2))) =
          .ok (decide ((if (8 : Int) < base then 8 else base) < ((lettersN ss (k + 1)).length : Nat))) (csI base ss (some (.int (k : Int))) z4 (some (encW s.1)) (some (.str s.2))) := by
        rw [ap_mTest, ap_mOp, hbor, bind_ok, ap_mCall, ap_mCons, ev1]
        simp only [bind_ok, ap_mCons, ap_mC, ap_mNil, hm, ofO_some]
        rw [o_gt]
        rfl
      by_cases h3 : (if (8 : Int) < base then 8 else base) < ((lettersN ss (k + 1)).length : Int)
      · have eb : badStep base ss k s = some wLet := by unfold badStep; rw [if_neg h1, if_neg h2, if_pos h3]
        rw [eb]
        refine ⟨some (.int (k : Int)), z4, some (encW s.1), some (.str s.2), ?_⟩
        rw [decide_eq_true h3] at et
        rw [ap_mIf, et]
        rfl
      · have eb : badStep base ss k s = none := by unfold badStep; rw [if_neg h1, if_neg h2, if_neg h3]
        rw [eb]
        refine ⟨some (.int (k : Int)), z4, some (encW s.1), some (.str s.2), ?_⟩
        rw [decide_eq_false h3] at et
        rw [ap_mIf, et]
        rfl
theorem loop_gen (base : Int) (hb : 2 ≤ base) (ss : List Su) (hn : ss.length ≤ 3) (lim : Lim ss) : ∀ (m k : Nat), k + m = ss.length → GoodTo base ss k → ∀ y3 y4 y5 y6 : Option D,
    ∃ z3 z4 z5 z6 : Option D, forGo (gmName 3) initBody ((List.range' k m).map fun (k : Nat) => D.int (k : Int)) (csI base ss y3 y4 y5 y6) = match badFrom base ss (List.range' k m) with
      | some p => .exc 9 [.str p.2, .int p.1] (csI base ss z3 z4 z5 z6)
      | none => .ok .nx (csI base ss z3 z4 z5 z6)
  | 0, k, _, _, y3, y4, y5, y6 => ⟨y3, y4, y5, y6, rfl⟩
  | m + 1, k, hk, hg, y3, y4, y5, y6 => by
    have hlt : k < ss.length := by omega
    have hs : ss[k]? = some ss[k] := List.getElem?_eq_getElem hlt
    have hd : ss.getD k ([], []) = ss[k] := by simp [List.getD, hlt]
    obtain ⟨z3, z4, z5, z6, e⟩ := step_gen base hb ss hn lim k ss[k] hs hg y3 y4 y5 y6
    rw [List.range'_succ, List.map_cons]
    have ebf : badFrom base ss (k :: List.range' (k + 1) m) = match badStep base ss k (ss.getD k ([], [])) with | some w => some (k, w) | none => badFrom base ss (List.range' (k + 1) m) := rfl
    rw [ebf]
    rw [hd]
    cases hb2 : badStep base ss k ss[k] with
    | some w =>
      rw [hb2] at e
      refine ⟨z3, z4, z5, z6, ?_⟩
      unfold forGo
      have eg : gmName 3 (D.int (k : Int)) (csI base ss y3 y4 y5 y6) = some (csI base ss (some (.int (k : Int))) y4 y5 y6) := rfl
      rw [eg]
      dsimp only
      rw [e]
    | none =>
      rw [hb2] at e
      obtain ⟨u3, u4, u5, u6, e2⟩ := loop_gen base hb ss hn lim m (k + 1) (by omega) (fun j hj s hjs => by
        by_cases z : j = k
        · subst z
          rw [hs] at hjs
          cases hjs
          exact hb2
        · exact hg j (by omega) s hjs) z3 z4 z5 z6
      refine ⟨u3, u4, u5, u6, ?_⟩
      rw [forGo_step (s1 := csI base ss (some (.int (k : Int))) y4 y5 y6) rfl e, e2]
/-- all that Sheet(base, sums) does -/
theorem init_gen (base : Int) (ss : List Su) (lim : Lim ss) : ∃ r : Sl, EV.Sheet_init [some (.ins 0 []), some (.int base), some (encSums ss)] = match badSheet base ss with
    | some p => .exc 9 [.str p.2, .int p.1] r
    | none => .ok .non [some (sheetD base ss), none, none] := by
  rw [init_eq]
  have e4 : fLen [encSums ss] = some (.int (ss.length : Nat)) := by unfold encSums fLen; simp
  have e5 : fList [encSums ss] = some (encSums ss) := rfl
  have e6 : isLD (encSums ss) = true := rfl
  unfold badSheet
  by_cases h1 : base < 2 ∨ 12 < base
  · rw [if_pos h1]
    refine ⟨[some (.ins 0 []), none, none], ?_⟩
    refine fnX_exc (s := [some (.ins 0 []), some (.int base), some (encSums ss), none, none, none, none]) ?_ rfl
    show mSeq _ _ [some (.ins 0 []), some (.int base), some (encSums ss), none, none, none, none] = _
    have et : mOr (mTest (mOp fLt (mVar 1) (mC (.int 2)))) (mTest (mOp fGt (mVar 1) (mC (.int 12)))) [some (.ins 0 []), some (.int base), some (encSums ss), none, none, none, none] = .ok true [some (.ins 0 []), some (.int base), some (encSums ss), none, none, none, none] := by
      by_cases a : base < 2
      · iterate 5 repeat infer_instance
      · have b : fGt (.int base) (.int 12) = some (.bl true) := by rw [o_gt, decide_eq_true (by omega)]
        iterate 5 repeat infer_instance
    refine seq_exc ?_
    rw [ap_mIf, et]
    rfl
  · have n1 : ¬ base < 2 := by omega
    have n2 : ¬ (12 : Int) < base := by omega
    have t1 : mIf (mOr (mTest (mOp fLt (mVar 1) (mC (.int 2)))) (mTest (mOp fGt (mVar 1) (mC (.int 12))))) (mRaiseO 9 2 (mCons (mC (.int 0)) (mCons (mC (.str [98, 97, 115, 101])) mNil))) mSkip [some (.ins 0 []), some (.int base), some (encSums ss), none, none, none, none] = .ok .nx [some (.ins 0 []), some (.int base), some (encSums ss), none, none, none, none] := by
      iterate 5 repeat infer_instance
    rw [if_neg h1]
    by_cases h2 : ss.length < 1 ∨ 3 < ss.length
    · rw [if_pos h2]
      refine ⟨[some (.ins 0 []), none, none], ?_⟩
      refine fnX_exc (s := [some (.ins 0 []), some (.int base), some (encSums ss), none, none, none, none]) ?_ rfl
      show mSeq _ _ [some (.ins 0 []), some (.int base), some (encSums ss), none, none, none, none] = _
      have et : mOr (mTest (mOp fLt (mCall fLen (mCons (mVar 2) mNil)) (mC (.int 1)))) (mTest (mOp fGt (mCall fLen (mCons (mVar 2) mNil)) (mC (.int 3)))) [some (.ins 0 []), some (.int base), some (encSums ss), none, none, none, none] = .ok true [some (.ins 0 []), some (.int base), some (encSums ss), none, none, none, none] := by
        by_cases a : ((ss.length : Nat) : Int) < 1
        · iterate 5 repeat infer_instance
        · have b : fGt (.int ((ss.length : Nat) : Int)) (.int 3) = some (.bl true) := by rw [o_gt, decide_eq_true (by omega)]
          iterate 5 repeat infer_instance
      rw [mSeq_ok t1 rfl]
      refine seq_exc ?_
      rw [ap_mIf, et]
      rfl
    · have n3 : ¬ (ss.length : Int) < 1 := by omega
      have n4 : ¬ (3 : Int) < (ss.length : Int) := by omega
      have n5 : -(2 ^ 62) ≤ ((ss.length : Nat) : Int) ∧ ((ss.length : Nat) : Int) ≤ 1000000 := ⟨by omega, by omega⟩
      have t2 : mIf (mOr (mTest (mOp fLt (mCall fLen (mCons (mVar 2) mNil)) (mC (.int 1)))) (mTest (mOp fGt (mCall fLen (mCons (mVar 2) mNil)) (mC (.int 3))))) (mRaiseO 9 2 (mCons (mC (.int 0)) (mCons (mC (.str [115, 117, 109, 115])) mNil))) mSkip [some (.ins 0 []), some (.int base), some (encSums ss), none, none, none, none] = .ok .nx [some (.ins 0 []), some (.int base), some (encSums ss), none, none, none, none] := by
        iterate 5 repeat infer_instance
      have t3 : mSetFld 0 0 0 (mVar 1) [some (.ins 0 []), some (.int base), some (encSums ss), none, none, none, none] = .ok .nx [some (.ins 0 [.int base]), some (.int base), some (encSums ss), none, none, none, none] := by
        iterate 5 repeat infer_instance
      have t4 : mSetFld 0 0 1 (mFz (mCall fList (mCons (mVar 2) mNil))) [some (.ins 0 [.int base]), some (.int base), some (encSums ss), none, none, none, none] = .ok .nx (csI base ss none none none none) := by
        unfold csI sheetD
        iterate 5 repeat infer_instance
      have t5 : mRng1 (mCons (mCall fLen (mCons (mVar 2) mNil)) mNil) (csI base ss none none none none) = .ok (rangeD 0 ((ss.length : Nat) : Int).toNat) (csI base ss none none none none) := by
        iterate 5 repeat infer_instance
      obtain ⟨z3, z4, z5, z6, e⟩ := loop_gen base (by omega) ss (by omega) lim ss.length 0 (by omega) (fun j hj => by omega) none none none none
      rw [if_neg h2]
      have er : rangeD 0 ((ss.length : Nat) : Int).toNat = (List.range' 0 ss.length).map fun (k : Nat) => D.int (k : Int) := by
        rw [show ((ss.length : Nat) : Int).toNat = ss.length by omega, rangeD_map, List.range_eq_range']
      rw [List.range_eq_range']
      have eb : ∀ u, forGo (gmName 3) initBody ((List.range' 0 ss.length).map fun (k : Nat) => D.int (k : Int)) (csI base ss none none none none) = u → (mSeq (mIf (mOr (mTest (mOp fLt (mVar 1) (mC (.int 2)))) (mTest (mOp fGt (mVar 1) (mC (.int 12))))) (mRaiseO 9 2 (mCons (mC (.int 0)) (mCons (mC (.str [98, 97, 115, 101])) mNil))) mSkip)
        (mSeq (mIf (mOr (mTest (mOp fLt (mCall fLen (mCons (mVar 2) mNil)) (mC (.int 1)))) (mTest (mOp fGt (mCall fLen (mCons (mVar 2) mNil)) (mC (.int 3))))) (mRaiseO 9 2 (mCons (mC (.int 0)) (mCons (mC (.str [115, 117, 109, 115])) mNil))) mSkip)
        (mSeq (mSetFld 0 0 0 (mVar 1))
        (mSeq (mSetFld 0 0 1 (mFz (mCall fList (mCons (mVar 2) mNil))))
        (mFor (mRng1 (mCons (mCall fLen (mCons (mVar 2) mNil)) mNil)) (gmName 3) initBody))))) [some (.ins 0 []), some (.int base), some (encSums ss), none, none, none, none] = u := fun u hu =>
        mSeq_ok t1 (mSeq_ok t2 (mSeq_ok t3 (mSeq_ok t4 (by rw [ap_mFor, t5, bind_ok, er, hu]))))
      have eb := eb _ e
      cases hbd : badFrom base ss (List.range' 0 ss.length) with
      | some p =>
        rw [hbd] at eb
        refine ⟨[some (sheetD base ss), none, none], ?_⟩
        refine fnX_exc (s := csI base ss z3 z4 z5 z6) ?_ rfl
        exact eb
      | none =>
        rw [hbd] at eb
        refine ⟨[], ?_⟩
        refine fnX_ok ?_
        exact r_fnN (sl := [some (.ins 0 []), some (.int base), some (encSums ss), none, none, none, none]) rfl eb rfl
theorem from_none {base : Int} {ss : List Su} : ∀ l : List Nat, badFrom base ss l = none → ∀ k, k ∈ l → badStep base ss k (ss.getD k ([], [])) = none
  | [], _, k, hk => by cases hk
  | j :: r, h, k, hk => by
    unfold badFrom at h
    cases e : badStep base ss j (ss.getD j ([], [])) with
    | some w => rw [e] at h; cases h
    | none =>
      rw [e] at h
      rcases List.mem_cons.mp hk with rfl | hk
      · exact e
      · exact from_none r h k hk
theorem good_sheet {base : Int} {ss : List Su} (h : badSheet base ss = none) : SheetOk base ss := by
  unfold badSheet at h
  split at h
  · cases h
  rename_i h1
  split at h
  · cases h
  rename_i h2
  have key : ∀ k (s : Su), ss[k]? = some s → badStep base ss k s = none := fun k s hs => by
    have hk := (List.getElem?_eq_some_iff.mp hs).1
    have := from_none _ h k (List.mem_range.mpr hk)
    have e : ss.getD k ([], []) = s := by simp [List.getD, hs]
    rw [e] at this
    exact this
  have all : ∀ s, s ∈ ss → 1 ≤ s.1.length ∧ s.1.length ≤ 4 ∧ ∀ w, w ∈ allW s → w ≠ [] ∧ w.length ≤ 6 ∧ ∀ c, c ∈ w → Small c := fun s hs => by
    obtain ⟨k, hk⟩ := List.getElem?_of_mem hs
    have := step_good (key k s hk)
    exact ⟨this.1, this.2.1, this.2.2.1⟩
  obtain ⟨n, hn⟩ : ∃ n, ss.length = n + 1 := ⟨ss.length - 1, by omega⟩
  have hlast : ss[n]? = some ss[n] := List.getElem?_eq_getElem (by omega)
  have h3 := (step_good (key n _ hlast)).2.2.2
  have el : lettersN ss (n + 1) = letters ss := by rw [letters_eq, hn]
  rw [el] at h3
  refine ⟨by omega, by omega, by omega, by omega, fun s hs => ⟨(all s hs).1, (all s hs).2.1⟩, fun s hs w hw => (all s hs).2.2 w hw, letters ss, ?_, ?_, fun s hs w hw c hc => mem_letters hs hw hc⟩
  · split at h3 <;> omega
  · split at h3 <;> omega
end PP

set_option Elab.async false
set_option linter.all false
set_option maxRecDepth 100000
set_option maxHeartbeats 4000000
namespace MM
open L2
inductive P_mListO (i : Nat) : Sl → R D → Prop
  | mk {sl : Sl} {ds : List D} : Gt sl i (.lst ds) → P_mListO i sl (.ok (.lst ds) sl)
instance {i : Nat} : Sp1 (mListO i) (P_mListO i) := ⟨fun _ _ h => by
  cases h with
  | mk h1 =>
    unfold Gt at h1
    unfold mListO
    rw [h1]⟩
inductive P_mIxO (i : Nat) (m : ME) : Sl → R D → Prop
  | mk {sl s : Sl} {x0 d : D} {ds : List D} {j : Int} [_h : Gi sl i (some x0)] : m sl = .ok (.int j) s → Gt s i (.lst ds) → fIx (.lst ds) (.int j) = some d → P_mIxO i m sl (.ok d s)
instance {i : Nat} {m : ME} : Sp1 (mIxO i m) (P_mIxO i m) := ⟨fun _ _ h => by
  cases h with
  | mk h1 h2 h3 =>
    rename_i x0 ds j _h
    have h0 := Gi.go (self := _h)
    unfold Gt at h2
    unfold mIxO
    rw [h0]
    dsimp only
    rw [h1, bind_ok]
    unfold ixK
    rw [h2]
    dsimp only
    have h3 : atI ds j = some _ := h3
    rw [h3]
    rfl⟩
inductive P_mMakeXL (i kc np : Nat) (f : Sl → R D) (n : MA) : Sl → R D → Prop
  | mk {sl s r l s2 : Sl} {x0 d0 dI d1 : D} {ds es : List D} [_h : Gi sl i (some x0)] : n sl = .ok ds s → Gt s i d0 → ds.length + 2 = np → Sn ds d0 es → Ms2 (.ins kc [] :: es) l → f l = .ok .non r → Gt r 0 dI → Gt r (np - 1) d1 → St2 s i (some d1) s2 → P_mMakeXL i kc np f n sl (.ok dI s2)
instance {i kc np : Nat} {f : Sl → R D} {n : MA} : Sp1 (mMakeXL i kc np f n) (P_mMakeXL i kc np f n) := ⟨fun _ _ h => by
  cases h with
  | mk h1 h2 h3 h4 h5 h6 h7 h8 h9 =>
    rename_i ds es _h
    have h0 := Gi.go (self := _h)
    unfold Gt at h2 h7 h8
    unfold Sn at h4
    unfold Ms2 at h5
    unfold St2 at h9
    subst h4
    have e : np - 1 = ds.length + 1 := by omega
    rw [e] at h8
    unfold mMakeXL
    rw [h0]
    dsimp only
    rw [h1, bind_ok, h2]
    dsimp only
    rw [if_pos h3, h5, h6]
    dsimp only
    rw [h7, h8]
    dsimp only
    rw [h9]⟩
end MM
namespace PP
open MM PySem L2
local macro_rules | `(tactic| infer_instance) => `(tactic| with_reducible first | (apply stp; constructor) | assumption | exact soC | (with_unfolding_all exact rfT) | exact msC | exact gtC | exact stC | exact siC | (apply stg; constructor) | apply q_nx | exact q_rt | apply r_t | apply r_f | (apply r_yes; · (with_unfolding_all first | assumption | rfl | (simp only [decide_eq_true_eq, decide_eq_false_iff_not, Bool.not_eq_true', Bool.not_eq_false', not_true_eq_false, not_false_eq_true, ne_eq]; first | done | assumption | omega))) | (apply r_no; · (with_unfolding_all first | assumption | rfl | (simp only [decide_eq_true_eq, decide_eq_false_iff_not, Bool.not_eq_true', Bool.not_eq_false', not_true_eq_false, not_false_eq_true, ne_eq]; first | done | assumption | omega))) | exact rdC | exact wrC | exact mpC | exact q_exc | exact ok_refl | exact snC | exact apC | apply r_fnEN | apply r_fnE | apply lc_m | apply lc_o | apply lc_n | apply lc_e | apply fo_e | (with_unfolding_all exact rs_of rfl) | apply wp_one | apply wp_two | (intro (_ : _ = true)) | apply o_mod | apply o_mul | apply o_div | apply o_addS | apply o_addL | apply o_addT | (with_unfolding_all exact (rfl : (_ : Option D) = _)) | (with_unfolding_all exact (rfl : (_ : Sl) = _)) | (exact of_decide_eq_true (by with_unfolding_all rfl)) | omega | apply g_name | (with_unfolding_all exact st_z) | apply st_s | apply siW | apply wr_v | apply wr_f | (with_unfolding_all exact sd_z) | apply sd_s)
/-! k01: a sheet made of a list that the caller keeps -/
def initBodyL : MS := (mSeq (mAsg (mIxO 2 (mVar 3)) (gmTup 2 (gmCons (gmName 5) (gmCons (gmName 6) gmNil))))
  (mSeq (mIf (mOr (mTest (mOp fLt (mCall fLen (mCons (mVar 5) mNil)) (mC (.int 1)))) (mTest (mOp fGt (mCall fLen (mCons (mVar 5) mNil)) (mC (.int 4))))) (mRaiseO 9 2 (mCons (mVar 3) (mCons (mC (.str [97, 100, 100, 101, 110, 100, 115])) mNil))) mSkip)
  (mSeq (mFor (mItems (mOp fAdd (mVar 5) (mTup (mCons (mVar 6) mNil)))) (gmName 4) (mIf (mNot (mTest (mCallF 1 EV.is_word (mCons (mVar 4) mNil)))) (mRaiseO 9 2 (mCons (mVar 3) (mCons (mC (.str [119, 111, 114, 100])) mNil))) mSkip))
  (mIf (mTest (mOp fGt (mBor [.pin, .frz, .pin, .frz, .frz, .frz, .frz] 0 (mCall fLen (mCons (mFz (mMethF 0 2 EV.Sheet_letters_to (mVar 0) (mCons (mVar 3) mNil))) mNil))) (mCall fMin (mCons (mVar 1) (mCons (mC (.int 8)) mNil))))) (mRaiseO 9 2 (mCons (mVar 3) (mCons (mC (.str [108, 101, 116, 116, 101, 114, 115])) mNil))) mSkip))))
theorem init_stepL (base : Int) (ss : List Su) (h : SheetOk base ss) (k : Nat) (hk2 : k < ss.length) (y3 y4 y5 y6 : Option D) : ∃ z3 z4 z5 z6 : Option D, initBodyL [some (sheetD base ss), some (.int base), some (encSums ss), some (.int (k : Int)), y4, y5, y6] = .ok .nx [some (sheetD base ss), some (.int base), some (encSums ss), z3, z4, z5, z6] := by
  obtain ⟨L, hL, hL1, hL2⟩ := h.sums
  have lb1 : 1 ≤ LB := by decide
  have hks : ss[k]? = some ss[k] := List.getElem?_eq_getElem hk2
  have hmem : ss[k] ∈ ss := List.getElem_mem hk2
  obtain ⟨a1, a2⟩ := h.ad _ hmem
  obtain ⟨z4, ew⟩ := init_words base ss h (k : Int) ss[k] hmem y4
  have e1 : fIx (encSums ss) (.int (k : Int)) = some (.tup [encW ss[k].1, .str ss[k].2]) := encSums_at hks
  have e2 := allW_add a2
  have e3 := letters_to_spec hL (by have := h.most; omega) base (k : Int) (k + 1) (by push_cast; rfl) (by omega)
  have e4 : fLen [encW ss[k].1] = some (.int (ss[k].1.length : Nat)) := by unfold encW fLen; simp
  have h4 : ¬ ((ss[k].1.length : Nat) : Int) < 1 := by omega
  have h5 : ¬ (4 : Int) < ((ss[k].1.length : Nat) : Int) := by omega
  have hg := (lettersN_good hL (k + 1)).le
  have e5 : fLen [encN (lettersN ss (k + 1))] = some (.int ((lettersN ss (k + 1)).length : Nat)) := by unfold encN fLen; simp
  have e6 : isLD (encN (lettersN ss (k + 1))) = true := rfl
  have h6 : ¬ (if (8 : Int) < base then 8 else base) < (((lettersN ss (k + 1)).length : Nat) : Int) := by split <;> omega
  have hm : fMin [.int base, .int 8] = some (.int (if (8 : Int) < base then 8 else base)) := rfl
  have hgt : fGt (.int ((lettersN ss (k + 1)).length : Nat)) (.int (if (8 : Int) < base then 8 else base)) = some (.bl false) := by
    rw [o_gt, decide_eq_false h6]
  refine ⟨some (.int (k : Int)), z4, some (encW ss[k].1), some (.str ss[k].2), ?_⟩
  have hli : ∃ ds, encSums ss = .lst ds := ⟨_, rfl⟩
  obtain ⟨ds, hds⟩ := hli
  have hisI : isIns 0 (sheetD base ss) = true := rfl
  rw [hds] at ew e1 ⊢
  clear hds a1 a2 hL1 hL2 hg h hL hks hmem
  generalize encN (lettersN ss (k + 1)) = ln at *
  generalize (if (8 : Int) < base then 8 else base) = lim at *
  generalize sheetD base ss = sh at *
  unfold initBodyL
  have S1 := (rfl : [some sh, some (.int base), some (.lst ds), some (.int (k : Int)), y4, some (encW ss[k].1), some (.str ss[k].2)] = [some sh, some (.int base), some (.lst ds), some (.int (k : Int)), y4, some (encW ss[k].1), some (.str ss[k].2)])
  generalize encW ss[k].1 = ew1 at *
  generalize ss[k].1.length = nl at *
  generalize ss[k].2 = tw at *
  generalize (allW ss[k]).map D.str = aw at *
  refine mSeq_ok (s := [some sh, some (.int base), some (.lst ds), some (.int (k : Int)), y4, some ew1, some (.str tw)]) ?_ (mSeq_ok (s := [some sh, some (.int base), some (.lst ds), some (.int (k : Int)), y4, some ew1, some (.str tw)]) ?_ (mSeq_ok (s := [some sh, some (.int base), some (.lst ds), some (.int (k : Int)), z4, some ew1, some (.str tw)]) ?_ ?_))
  · clear ew e2 e3 e4 e5 e6 h6 hm hgt
    iterate 5 repeat infer_instance
  · clear ew e1 e2 e3 e5 e6 h6 hm hgt
    iterate 5 repeat infer_instance
  · clear e1 e3 e4 e5 e6 h6 hm hgt
    iterate 5 repeat infer_instance
  · clear ew e1 e2 e4
    iterate 5 repeat infer_instance
theorem init_loopL (base : Int) (ss : List Su) (h : SheetOk base ss) : ∃ y3 y4 y5 y6 : Option D, forGo (gmName 3) initBodyL (rangeD 0 ss.length) [some (sheetD base ss), some (.int base), some (encSums ss), none, none, none, none] = .ok .nx [some (sheetD base ss), some (.int base), some (encSums ss), y3, y4, y5, y6] := by
  obtain ⟨s', e, y3, y4, y5, y6, rfl⟩ := forGo_fold (mg := gmName 3) (mb := initBodyL) (fun (k : Nat) => D.int (k : Int)) (fun (u : Unit) _ => u)
    (fun _ sl => ∃ y3 y4 y5 y6 : Option D, sl = [some (sheetD base ss), some (.int base), some (encSums ss), y3, y4, y5, y6]) (List.range ss.length) () [some (sheetD base ss), some (.int base), some (encSums ss), none, none, none, none] ⟨none, none, none, none, rfl⟩ (by
      rintro u k sl hk ⟨y3, y4, y5, y6, rfl⟩
      obtain ⟨z3, z4, z5, z6, e⟩ := init_stepL base ss h k (List.mem_range.mp hk) y3 y4 y5 y6
      exact ⟨_, _, rfl, e, z3, z4, z5, z6, rfl⟩)
  rw [← rangeD_map] at e
  exact ⟨y3, y4, y5, y6, e⟩
theorem initL_eq : EV.Sheet_initL = fnX [.pin, .frz, .pin] false 4
  (mSeq (mIf (mOr (mTest (mOp fLt (mVar 1) (mC (.int 2)))) (mTest (mOp fGt (mVar 1) (mC (.int 12))))) (mRaiseO 9 2 (mCons (mC (.int 0)) (mCons (mC (.str [98, 97, 115, 101])) mNil))) mSkip)
  (mSeq (mIf (mOr (mTest (mOp fLt (mBor [.pin, .frz, .pin, .frz, .frz, .frz, .frz] 2 (mCall fLen (mCons (mVar 2) mNil))) (mC (.int 1)))) (mTest (mOp fGt (mBor [.pin, .frz, .pin, .frz, .frz, .frz, .frz] 2 (mCall fLen (mCons (mVar 2) mNil))) (mC (.int 3))))) (mRaiseO 9 2 (mCons (mC (.int 0)) (mCons (mC (.str [115, 117, 109, 115])) mNil))) mSkip)
  (mSeq (mSetFld 0 0 0 (mVar 1))
  (mSeq (mSetFld 0 0 1 (mFz (mListO 2)))
  (mFor (mRng1 (mCons (mBor [.pin, .frz, .pin, .frz, .frz, .frz, .frz] 2 (mCall fLen (mCons (mVar 2) mNil))) mNil)) (gmName 3) initBodyL))))) := rfl
theorem initL_spec (base : Int) (ss : List Su) (h : SheetOk base ss) : EV.Sheet_initL [some (.ins 0 []), some (.int base), some (encSums ss)] = .ok .non [some (sheetD base ss), none, some (encSums ss)] := by
  obtain ⟨y3, y4, y5, y6, e⟩ := init_loopL base ss h
  have h1 := h.b1
  have h2 := h.b2
  have h3 := h.few
  have h4 := h.most
  have n1 : ¬ base < 2 := by omega
  have n2 : ¬ 12 < base := by omega
  have n3 : ¬ (ss.length : Int) < 1 := by omega
  have n4 : ¬ (3 : Int) < (ss.length : Int) := by omega
  have n5 : -(2 ^ 62) ≤ ((ss.length : Nat) : Int) ∧ ((ss.length : Nat) : Int) ≤ 1000000 := ⟨by omega, by omega⟩
  have e4 : fLen [encSums ss] = some (.int (ss.length : Nat)) := by unfold encSums fLen; simp
  have e5 : rangeD 0 ((ss.length : Nat) : Int).toNat = rangeD 0 ss.length := by rw [show ((ss.length : Nat) : Int).toNat = ss.length by omega]
  rw [← e5] at e
  rw [initL_eq]
  refine fnX_ok ?_
  have hli : ∃ ds, encSums ss = .lst ds := ⟨_, rfl⟩
  obtain ⟨ds, hds⟩ := hli
  unfold sheetD at e ⊢
  rw [hds] at e e4 ⊢
  clear hds h h3 h4
  generalize initBodyL = B at *
  have e : forGo (gmName 3) B (rangeD 0 ((ss.length : Nat) : Int).toNat) [some (.ins 0 ([] ++ [.int base] ++ [.lst ds])), some (.int base), some (.lst ds), none, none, none, none] = .ok .nx [some (.ins 0 [.int base, .lst ds]), some (.int base), some (.lst ds), y3, y4, y5, y6] := e
  iterate 5 repeat infer_instance
end PP

set_option Elab.async false
set_option linter.all false
set_option maxRecDepth 100000
set_option maxHeartbeats 4000000
namespace PLk01
open MM PySem L2 PP
local macro_rules | `(tactic| infer_instance) => `(tactic| with_reducible first | (apply stp; constructor) | assumption | exact soC | (with_unfolding_all exact rfT) | exact msC | exact gtC | exact stC | exact siC | (apply stg; constructor) | apply q_nx | exact q_rt | apply r_t | apply r_f | (apply r_yes; · (with_unfolding_all first | assumption | rfl | (simp only [decide_eq_true_eq, decide_eq_false_iff_not, Bool.not_eq_true', Bool.not_eq_false', not_true_eq_false, not_false_eq_true, ne_eq]; first | done | assumption | omega))) | (apply r_no; · (with_unfolding_all first | assumption | rfl | (simp only [decide_eq_true_eq, decide_eq_false_iff_not, Bool.not_eq_true', Bool.not_eq_false', not_true_eq_false, not_false_eq_true, ne_eq]; first | done | assumption | omega))) | exact rdC | exact wrC | exact mpC | exact q_exc | exact ok_refl | exact snC | exact apC | apply r_fnEN | apply r_fnE | apply lc_m | apply lc_o | apply lc_n | apply lc_e | apply fo_e | (with_unfolding_all exact rs_of rfl) | apply wp_one | apply wp_two | (intro (_ : _ = true)) | apply o_mod | apply o_mul | apply o_div | apply o_addS | apply o_addL | apply o_addT | (with_unfolding_all exact (rfl : (_ : Option D) = _)) | (with_unfolding_all exact (rfl : (_ : Sl) = _)) | (exact of_decide_eq_true (by with_unfolding_all rfl)) | omega | apply g_name | (with_unfolding_all exact st_z) | apply st_s | apply siW | apply wr_v | apply wr_f | (with_unfolding_all exact sd_z) | apply sd_s)
/-! ### what is wrong with a sheet -/
def badsS : List Su := [([], [97]), ([[97], [97], [97], [97], [97]], [98]), ([[]], [97]), ([[97], [98, 99, 100, 101, 102, 103, 104]], [97]), ([[65]], [97]), ([[97]], [97, 49]),
  ([[97, 32, 98]], [97]), ([[97]], [98, 45]), ([[97, 98, 99, 100, 101, 102, 103]], [97]), ([[97]], []), ([[110, 111, 112, 113], [114, 115, 116, 117], [118, 119, 120, 121]], [122])]
def whyS : List T := [wAdd, wAdd, wWord, wWord, wWord, wWord, wWord, wWord, wWord, wWord, wLet]
theorem bad_add {base : Int} {ss : List Su} {k : Nat} {s : Su} (h : decide (s.1.length < 1 ∨ 4 < s.1.length) = true) : badStep base ss k s = some wAdd := by
  unfold badStep
  rw [if_pos (of_decide_eq_true h)]
theorem bad_word {base : Int} {ss : List Su} {k : Nat} {s : Su} (h : decide (s.1.length < 1 ∨ 4 < s.1.length) = false) (h2 : ((allW s).any fun w => !isWord w) = true) : badStep base ss k s = some wWord := by
  unfold badStep
  rw [if_neg (of_decide_eq_false h), if_pos h2]
theorem bad_let {base : Int} {ss : List Su} {k : Nat} {s : Su} (h : decide (s.1.length < 1 ∨ 4 < s.1.length) = false) (h2 : ((allW s).any fun w => !isWord w) = false) (h3 : (if (8 : Int) < base then 8 else base) < ((lettersN ss (k + 1)).length : Int)) : badStep base ss k s = some wLet := by
  unfold badStep
  rw [if_neg (of_decide_eq_false h), if_neg (by rw [h2]; exact Bool.false_ne_true), if_pos h3]
theorem lim8 (base : Int) {n : Nat} (h : 9 ≤ n) : (if (8 : Int) < base then 8 else base) < (n : Int) := by split <;> omega
def bigS : Su := ([[110, 111, 112, 113], [114, 115, 116, 117], [118, 119, 120, 121]], [122])
theorem big_many {ss : List Su} (h : bigS ∈ ss) : 9 ≤ (letters ss).length := by
  have h1 := nodup_le [110, 111, 112, 113, 114, 115, 116, 117, 118] (letters ss) (by decide) fun c hc => by
    have key : ∀ c, c ∈ [110, 111, 112, 113, 114, 115, 116, 117, 118] → ∃ w, w ∈ allW bigS ∧ c ∈ w := by decide
    obtain ⟨w, hw, hcw⟩ := key c hc
    exact mem_letters h hw hcw
  exact h1
theorem bad_at (base : Int) (ss : List Su) (k : Nat) : ∀ (j : Nat) (s : Su) (w : T), badsS[j]? = some s → whyS[j]? = some w → (s = bigS → 9 ≤ (lettersN ss (k + 1)).length) → badStep base ss k s = some w
  | 0, s, w, h1, h2, _ => by cases h1; cases h2; exact bad_add rfl
  | 1, s, w, h1, h2, _ => by cases h1; cases h2; exact bad_add rfl
  | 2, s, w, h1, h2, _ => by cases h1; cases h2; exact bad_word rfl rfl
  | 3, s, w, h1, h2, _ => by cases h1; cases h2; exact bad_word rfl rfl
  | 4, s, w, h1, h2, _ => by cases h1; cases h2; exact bad_word rfl rfl
  | 5, s, w, h1, h2, _ => by cases h1; cases h2; exact bad_word rfl rfl
  | 6, s, w, h1, h2, _ => by cases h1; cases h2; exact bad_word rfl rfl
  | 7, s, w, h1, h2, _ => by cases h1; cases h2; exact bad_word rfl rfl
  | 8, s, w, h1, h2, _ => by cases h1; cases h2; exact bad_word rfl rfl
  | 9, s, w, h1, h2, _ => by cases h1; cases h2; exact bad_word rfl rfl
  | 10, s, w, h1, h2, h3 => by cases h1; cases h2; exact bad_let rfl rfl (lim8 base (h3 rfl))
  | n + 11, s, w, h1, _, _ => by cases h1
theorem step_ok {base : Int} {ss : List Su} (ok : SheetOk base ss) {s : Su} (hs : ss[0]? = some s) (r : List Su) : badStep base (s :: r) 0 s = none := by
  obtain ⟨L, hL, hL1, hL2⟩ := ok.sums
  have hm := List.mem_of_getElem? hs
  have h1 := ok.ad s hm
  have h2 := ok.wd s hm
  have e : lettersN (s :: r) 1 = lettersN ss 1 := by
    cases ss with
    | nil => cases hs
    | cons a t => cases hs; rfl
  have h3 := (lettersN_good hL 1).le
  unfold badStep
  rw [if_neg (by omega), if_neg, if_neg]
  · rw [e]; split <;> omega
  · intro z
    obtain ⟨w, hw, hz⟩ := List.any_eq_true.mp z
    have := isWord_iff.mpr (h2 w hw)
    rw [this] at hz
    cases hz
theorem badSheet_in {base : Int} (b1 : 2 ≤ base) (b2 : base ≤ 12) {ss : List Su} (h1 : 1 ≤ ss.length) (h3 : ss.length ≤ 3) : badSheet base ss = badFrom base ss (List.range ss.length) := by
  unfold badSheet
  rw [if_neg (by omega), if_neg (by omega)]
theorem bad_first {base : Int} (b1 : 2 ≤ base) (b2 : base ≤ 12) {j : Nat} {s : Su} {w : T} (h1 : badsS[j]? = some s) (h2 : whyS[j]? = some w) : badSheet base [s, ([], [])] = some (0, w) := by
  rw [badSheet_in b1 b2 (by simp) (by simp)]
  have e := bad_at base [s, ([], [])] 0 j s w h1 h2 fun hb => by
    have : lettersN [s, ([], [])] 1 = letters [s] := rfl
    rw [this]
    exact big_many (by rw [hb]; simp)
  show (match badStep base [s, ([], [])] 0 s with | some w => some (0, w) | none => _) = _
  rw [e]
theorem bad_second {base : Int} {ss : List Su} (ok : SheetOk base ss) {s0 : Su} (hs : ss[0]? = some s0) {j : Nat} {s : Su} {w : T} (h1 : badsS[j]? = some s) (h2 : whyS[j]? = some w) : badSheet base [s0, s] = some (1, w) := by
  rw [badSheet_in ok.b1 ok.b2 (by simp) (by simp)]
  have e := bad_at base [s0, s] 1 j s w h1 h2 fun hb => by
    have : lettersN [s0, s] 2 = letters [s0, s] := rfl
    rw [this]
    exact big_many (by rw [hb]; simp)
  have e0 := step_ok ok hs [s]
  show (match badStep base [s0, s] 0 s0 with | some w => some (0, w) | none => (match badStep base [s0, s] 1 s with | some w => some (1, w) | none => none)) = _
  rw [e0, e]
theorem lim_bads {j : Nat} {s : Su} (h : badsS[j]? = some s) : s.1.length ≤ 1000 ∧ ∀ w, w ∈ allW s → w.length ≤ 1000 := by
  have key : ∀ s, s ∈ badsS → s.1.length ≤ 1000 ∧ ∀ w, w ∈ allW s → w.length ≤ 1000 := by decide
  exact key s (List.mem_of_getElem? h)
theorem lim_two {a b : Su} (ha : a.1.length ≤ 1000 ∧ ∀ w, w ∈ allW a → w.length ≤ 1000) (hb : b.1.length ≤ 1000 ∧ ∀ w, w ∈ allW b → w.length ≤ 1000) : Lim [a, b] := by
  refine ⟨by simp, fun s hs => ?_, fun s hs => ?_⟩
  · rcases List.mem_cons.mp hs with rfl | hs
    · exact ha.1
    · rw [List.mem_singleton.mp hs]; exact hb.1
  · rcases List.mem_cons.mp hs with rfl | hs
    · exact ha.2
    · rw [List.mem_singleton.mp hs]; exact hb.2
theorem lim_nil : (([], []) : Su).1.length ≤ 1000 ∧ ∀ w, w ∈ allW (([], []) : Su) → w.length ≤ 1000 := by decide
/-! ### the law's wrong sheets -/
def wrongEnd : MS := (mSeq (mIf (mTest (mOp fLt (mVar 5) (mC (.int 2)))) (mRet (mTup (mCons (mTup (mCons (mOp fIx (mFz (mLst (mCons (mC (.int 1)) (mCons (mC (.int 13)) mNil)))) (mVar 5)) (mCons (mFz (mLst (mCons (mTup (mCons (mTup mNil) (mCons (mC (.str [])) mNil))) mNil))) mNil))) (mCons (mC (.int 0)) (mCons (mC (.str [98, 97, 115, 101])) mNil))))) mSkip)
  (mSeq (mIf (mTest (mOp fLt (mVar 5) (mC (.int 4)))) (mRet (mTup (mCons (mTup (mCons (mVar 6) (mCons (mOp fIx (mFz (mLst (mCons (mFz (mLst mNil)) (mCons (mOp fRep (mFz (mLst (mCons (mTup (mCons (mTup mNil) (mCons (mC (.str [])) mNil))) mNil))) (mC (.int 4))) mNil)))) (mOp fSub (mVar 5) (mC (.int 2)))) mNil))) (mCons (mC (.int 0)) (mCons (mC (.str [115, 117, 109, 115])) mNil))))) mSkip)
  (mSeq (mIf (mTest (mOp fEq (mVar 5) (mC (.int 4)))) (mRet (mTup (mCons (mTup (mCons (mC (.int 2)) (mCons (mFz (mLst (mCons (mTup (mCons (mTup (mCons (mC (.str [97])) mNil)) (mCons (mC (.str [98])) mNil))) (mCons (mTup (mCons (mTup (mCons (mC (.str [99])) mNil)) (mCons (mC (.str [97])) mNil))) mNil)))) mNil))) (mCons (mC (.int 1)) (mCons (mC (.str [108, 101, 116, 116, 101, 114, 115])) mNil))))) mSkip)
  (mSeq (mIf (mTest (mOp fEq (mCallI 0 2 EV.law_next (mCons (mC (.int 2)) mNil)) (mC (.int 1)))) (mRet (mTup (mCons (mTup (mCons (mVar 6) (mCons (mOp fAdd (mFz (mLst (mCons (mOp fIx (mVar 3) (mOp fSub (mVar 5) (mC (.int 5)))) mNil))) (mFz (mLst (mCons (mTup (mCons (mTup mNil) (mCons (mC (.str [])) mNil))) mNil)))) mNil))) (mCons (mC (.int 0)) (mCons (mOp fIx (mVar 4) (mOp fSub (mVar 5) (mC (.int 5)))) mNil))))) mSkip)
  (mRet (mTup (mCons (mTup (mCons (mVar 6) (mCons (mOp fAdd (mVar 2) (mFz (mLst (mCons (mOp fIx (mVar 3) (mOp fSub (mVar 5) (mC (.int 5)))) mNil)))) mNil))) (mCons (mCall fLen (mCons (mVar 2) mNil)) (mCons (mOp fIx (mVar 4) (mOp fSub (mVar 5) (mC (.int 5)))) mNil)))))))))
def ansW (b : Int) (ss : List Su) (at_ : Nat) (why : T) : D := .tup [.tup [.int b, encSums ss], .int (at_ : Int), .str why]
theorem at_lst {α : Type} (f : α → D) (l : List α) (j : Nat) (x : α) (h : l[j]? = some x) : fIx (.lst (l.map f)) (.int (j : Int)) = some (f x) := by
  unfold fIx
  dsimp only
  rw [MM.atI_nat, List.getElem?_map, h]
  rfl
theorem end_ok {base : Int} {ss : List Su} (ok : SheetOk base ss) {s0 : Su} (hs : ss[0]? = some s0) (dD : D) (hd : Dice dD) (x1 : Option D) (way : Int) (w0 : 0 ≤ way) (w1 : way < 16) :
    ∃ (b : Int) (ss' : List Su) (at_ : Nat) (why : T) (dD' : D) (s' : Sl), wrongEnd [some dD, x1, some (.lst [encS s0]), some (.lst (badsS.map encS)), some (.lst (whyS.map D.str)), some (.int way), some (.int base), some (encSums ss)] = .ok (.rt (ansW b ss' at_ why)) (some dD' :: x1 :: s') ∧
      Dice dD' ∧ badSheet b ss' = some (at_, why) ∧ Lim ss' := by
  have lb0 : 0 ≤ LB := by decide
  have lb1 : 1 ≤ LB := by decide
  have lb2 : 2 ≤ LB := by decide
  have b1 := ok.b1
  have b2 := ok.b2
  have hm0 := List.mem_of_getElem? hs
  have l0 : s0.1.length ≤ 1000 ∧ ∀ w, w ∈ allW s0 → w.length ≤ 1000 := ⟨by have := (ok.ad s0 hm0).2; omega, fun w hw => by have := (ok.wd s0 hm0 w hw).2.1; omega⟩
  by_cases h2 : way < 2
  · have hw : way = 0 ∨ way = 1 := by omega
    rcases hw with rfl | rfl
    · refine ⟨1, [([], [])], 0, wBase, dD, [some (.lst [encS s0]), some (.lst (badsS.map encS)), some (.lst (whyS.map D.str)), some (.int 0), some (.int base), some (encSums ss)], ?_, hd, rfl, ⟨by simp, fun s hs => (by rw [List.mem_singleton.mp hs]; exact lim_nil.1), fun s hs => (by rw [List.mem_singleton.mp hs]; exact lim_nil.2)⟩⟩
      show _ = R.ok (Fl.rt (.tup [.tup [.int 1, .lst [.tup [.tup [], .str []]]], .int 0, .str [98, 97, 115, 101]])) _
      have f0 : fIx (.lst [.int 1, .int 13]) (.int 0) = some (.int 1) := rfl
      clear hs ok hm0 l0 b1 b2 hd
      generalize badsS.map encS = bs at *
      generalize whyS.map D.str = ws at *
      unfold wrongEnd
      iterate 5 repeat infer_instance
    · refine ⟨13, [([], [])], 0, wBase, dD, [some (.lst [encS s0]), some (.lst (badsS.map encS)), some (.lst (whyS.map D.str)), some (.int 1), some (.int base), some (encSums ss)], ?_, hd, rfl, ⟨by simp, fun s hs => (by rw [List.mem_singleton.mp hs]; exact lim_nil.1), fun s hs => (by rw [List.mem_singleton.mp hs]; exact lim_nil.2)⟩⟩
      show _ = R.ok (Fl.rt (.tup [.tup [.int 13, .lst [.tup [.tup [], .str []]]], .int 0, .str [98, 97, 115, 101]])) _
      have f0 : fIx (.lst [.int 1, .int 13]) (.int 1) = some (.int 13) := rfl
      clear hs ok hm0 l0 b1 b2 hd
      generalize badsS.map encS = bs at *
      generalize whyS.map D.str = ws at *
      unfold wrongEnd
      iterate 5 repeat infer_instance
  by_cases h4 : way < 4
  · have hw : way = 2 ∨ way = 3 := by omega
    have fr : fRep (.lst [.tup [.tup [], .str []]]) (.int 4) = some (.lst [.tup [.tup [], .str []], .tup [.tup [], .str []], .tup [.tup [], .str []], .tup [.tup [], .str []]]) := rfl
    rcases hw with rfl | rfl
    · refine ⟨base, [], 0, wSums, dD, [some (.lst [encS s0]), some (.lst (badsS.map encS)), some (.lst (whyS.map D.str)), some (.int 2), some (.int base), some (encSums ss)], ?_, hd, by unfold badSheet; rw [if_neg (by omega), if_pos (.inl (by simp))], ⟨by simp, fun s hs => (by cases hs), fun s hs => (by cases hs)⟩⟩
      show _ = R.ok (Fl.rt (.tup [.tup [.int base, .lst []], .int 0, .str [115, 117, 109, 115]])) _
      have f0 : fIx (.lst [.lst [], .lst [.tup [.tup [], .str []], .tup [.tup [], .str []], .tup [.tup [], .str []], .tup [.tup [], .str []]]]) (.int ((2 : Int) - 2)) = some (.lst []) := rfl
      clear hs ok hm0 l0 b1 b2 hd
      generalize badsS.map encS = bs at *
      generalize whyS.map D.str = ws at *
      unfold wrongEnd
      iterate 5 repeat infer_instance
    · refine ⟨base, [([], []), ([], []), ([], []), ([], [])], 0, wSums, dD, [some (.lst [encS s0]), some (.lst (badsS.map encS)), some (.lst (whyS.map D.str)), some (.int 3), some (.int base), some (encSums ss)], ?_, hd, by unfold badSheet; rw [if_neg (by omega), if_pos (.inr (by simp))], ⟨by simp, fun s hs => ?_, fun s hs => ?_⟩⟩
      · show _ = R.ok (Fl.rt (.tup [.tup [.int base, .lst [.tup [.tup [], .str []], .tup [.tup [], .str []], .tup [.tup [], .str []], .tup [.tup [], .str []]]], .int 0, .str [115, 117, 109, 115]])) _
        have f0 : fIx (.lst [.lst [], .lst [.tup [.tup [], .str []], .tup [.tup [], .str []], .tup [.tup [], .str []], .tup [.tup [], .str []]]]) (.int ((3 : Int) - 2)) = some (.lst [.tup [.tup [], .str []], .tup [.tup [], .str []], .tup [.tup [], .str []], .tup [.tup [], .str []]]) := rfl
        clear hs ok hm0 l0 b1 b2 hd
        generalize badsS.map encS = bs at *
        generalize whyS.map D.str = ws at *
        unfold wrongEnd
        iterate 5 repeat infer_instance
      · have : s = ([], []) := by simpa using hs
        rw [this]; exact lim_nil.1
      · have : s = ([], []) := by simpa using hs
        rw [this]; exact lim_nil.2
  by_cases h5 : way = 4
  · subst h5
    refine ⟨2, [([[97]], [98]), ([[99]], [97])], 1, wLet, dD, [some (.lst [encS s0]), some (.lst (badsS.map encS)), some (.lst (whyS.map D.str)), some (.int 4), some (.int base), some (encSums ss)], ?_, hd, rfl, lim_two (by decide) (by decide)⟩
    show _ = R.ok (Fl.rt (.tup [.tup [.int 2, .lst [.tup [.tup [.str [97]], .str [98]], .tup [.tup [.str [99]], .str [97]]]], .int 1, .str [108, 101, 116, 116, 101, 114, 115]])) _
    clear hs ok hm0 l0 b1 b2 hd
    generalize badsS.map encS = bs at *
    generalize whyS.map D.str = ws at *
    unfold wrongEnd
    iterate 5 repeat infer_instance
  obtain ⟨j, hj⟩ : ∃ j : Nat, way - 5 = (j : Int) := ⟨(way - 5).toNat, by omega⟩
  have hj11 : j < 11 := by omega
  obtain ⟨s, hsj⟩ : ∃ s, badsS[j]? = some s := ⟨_, List.getElem?_eq_getElem (show j < badsS.length from hj11)⟩
  obtain ⟨w, hwj⟩ : ∃ w, whyS[j]? = some w := ⟨_, List.getElem?_eq_getElem (show j < whyS.length from hj11)⟩
  have f1 := at_lst encS badsS j s hsj
  have f2 := at_lst D.str whyS j w hwj
  rw [← hj] at f1 f2
  have h5' : ¬ (way = 4) := h5
  obtain ⟨r, d2, e2, r1, r2, hd2⟩ := next_spec dD hd 2 (by omega) (by omega)
  have hl1 := lim_bads hsj
  have g1 := bad_first b1 b2 hsj hwj
  have g2 := bad_second ok hs hsj hwj
  have la : ([encS s] : List D).length + ([.tup [.tup [], .str []]] : List D).length ≤ LB := lb2
  have la2 : ([encS s0] : List D).length + ([encS s] : List D).length ≤ LB := lb2
  have ln : fLen [.lst [encS s0]] = some (.int 1) := rfl
  by_cases hr : r = 1
  · subst hr
    refine ⟨base, [s, ([], [])], 0, w, d2, [some (.lst [encS s0]), some (.lst (badsS.map encS)), some (.lst (whyS.map D.str)), some (.int way), some (.int base), some (encSums ss)], ?_, hd2, g1, lim_two hl1 lim_nil⟩
    show _ = R.ok (Fl.rt (.tup [.tup [.int base, .lst ([encS s] ++ [.tup [.tup [], .str []]])], .int 0, .str w])) _
    clear hs ok hm0 l0 b1 b2 hd hl1 g1 g2 hsj hwj
    generalize badsS.map encS = bs at *
    generalize whyS.map D.str = ws at *
    generalize encSums ss = sm at *
    unfold wrongEnd
    iterate 5 repeat infer_instance
  · refine ⟨base, [s0, s], 1, w, d2, [some (.lst [encS s0]), some (.lst (badsS.map encS)), some (.lst (whyS.map D.str)), some (.int way), some (.int base), some (encSums ss)], ?_, hd2, g2, lim_two l0 hl1⟩
    show _ = R.ok (Fl.rt (.tup [.tup [.int base, .lst ([encS s0] ++ [encS s])], .int 1, .str w])) _
    clear hs ok hm0 l0 b1 b2 hd hl1 g1 g2 hsj hwj
    generalize badsS.map encS = bs at *
    generalize whyS.map D.str = ws at *
    generalize encSums ss = sm at *
    unfold wrongEnd
    iterate 5 repeat infer_instance
theorem cut1 {α : Type} (l : List α) : cutD l none (some (1 : Int)) = l.take 1 := by
  unfold cutD
  have e1 : HT.sIx l.length 0 none = 0 := rfl
  have e2 : HT.sIx l.length l.length (some ((1 : Nat) : Int)) = min 1 l.length := HT.sIx_nat ..
  have e2 : HT.sIx l.length l.length (some (1 : Int)) = min 1 l.length := e2
  rw [e1, e2, List.drop_zero, Nat.sub_zero]
  by_cases h : 1 ≤ l.length
  · rw [Nat.min_eq_left h]
  · rw [Nat.min_eq_right (by omega), List.take_length, List.take_of_length_le (by omega)]
theorem wrong_eq : EV.law_wrong = fnB [.pin, .frz] false 6
  (mSeq (mAsg (mVar 1) (gmTup 2 (gmCons (gmName 6) (gmCons (gmName 7) gmNil))))
  (mSeq (mAsg (mSl (mVar 7) mNoPart (mPart (mC (.int 1)))) (gmName 2))
  (mSeq (mAsg (mFz (mLst (mCons (mTup (mCons (mTup mNil) (mCons (mC (.str [97])) mNil))) (mCons (mTup (mCons (mOp fRep (mTup (mCons (mC (.str [97])) mNil)) (mC (.int 5))) (mCons (mC (.str [98])) mNil))) (mCons (mTup (mCons (mTup (mCons (mC (.str [])) mNil)) (mCons (mC (.str [97])) mNil))) (mCons (mTup (mCons (mTup (mCons (mC (.str [97])) (mCons (mC (.str [98, 99, 100, 101, 102, 103, 104])) mNil))) (mCons (mC (.str [97])) mNil))) (mCons (mTup (mCons (mTup (mCons (mC (.str [65])) mNil)) (mCons (mC (.str [97])) mNil))) (mCons (mTup (mCons (mTup (mCons (mC (.str [97])) mNil)) (mCons (mC (.str [97, 49])) mNil))) mNil)))))))) (gmName 3))
  (mSeq (mAsg (mOp fAdd (mVar 3) (mFz (mLst (mCons (mTup (mCons (mTup (mCons (mC (.str [97, 32, 98])) mNil)) (mCons (mC (.str [97])) mNil))) (mCons (mTup (mCons (mTup (mCons (mC (.str [97])) mNil)) (mCons (mC (.str [98, 45])) mNil))) (mCons (mTup (mCons (mTup (mCons (mC (.str [97, 98, 99, 100, 101, 102, 103])) mNil)) (mCons (mC (.str [97])) mNil))) (mCons (mTup (mCons (mTup (mCons (mC (.str [97])) mNil)) (mCons (mC (.str [])) mNil))) (mCons (mTup (mCons (mTup (mCons (mC (.str [110, 111, 112, 113])) (mCons (mC (.str [114, 115, 116, 117])) (mCons (mC (.str [118, 119, 120, 121])) mNil)))) (mCons (mC (.str [122])) mNil))) mNil)))))))) (gmName 3))
  (mSeq (mAsg (mFz (mLst (mCons (mC (.str [97, 100, 100, 101, 110, 100, 115])) (mCons (mC (.str [97, 100, 100, 101, 110, 100, 115])) (mCons (mC (.str [119, 111, 114, 100])) (mCons (mC (.str [119, 111, 114, 100])) (mCons (mC (.str [119, 111, 114, 100])) (mCons (mC (.str [119, 111, 114, 100])) (mCons (mC (.str [119, 111, 114, 100])) (mCons (mC (.str [119, 111, 114, 100])) (mCons (mC (.str [119, 111, 114, 100])) (mCons (mC (.str [119, 111, 114, 100])) (mCons (mC (.str [108, 101, 116, 116, 101, 114, 115])) mNil))))))))))))) (gmName 4))
  (mSeq (mAsg (mCallI 0 2 EV.law_next (mCons (mC (.int 16)) mNil)) (gmName 5))
  wrongEnd)))))) := rfl
theorem wrong_spec {base : Int} {ss : List Su} (ok : SheetOk base ss) (dD : D) (hd : Dice dD) :
    ∃ (b : Int) (ss' : List Su) (at_ : Nat) (why : T) (dD' : D), EV.law_wrong [some dD, some (.tup [.int base, encSums ss])] = .ok (ansW b ss' at_ why) [some dD', none] ∧ Dice dD' ∧ badSheet b ss' = some (at_, why) ∧ Lim ss' := by
  obtain ⟨s0, hs⟩ : ∃ s0, ss[0]? = some s0 := ⟨_, List.getElem?_eq_getElem (show 0 < ss.length from ok.few)⟩
  obtain ⟨way, d1, e1, w0, w1, hd1⟩ := next_spec dD hd 16 (by omega) (by omega)
  obtain ⟨b, ss', at_, why, d2, s', e2, hd2, h1, h2⟩ := end_ok ok hs d1 hd1 (some (.tup [.int base, encSums ss])) way w0 w1
  refine ⟨b, ss', at_, why, d2, ?_, hd2, h1, h2⟩
  have ecut : fSl (encSums ss) none (some (1 : Int)) = some (.lst [encS s0]) := by
    have h : cutD (ss.map encS) none (some (1 : Int)) = (ss.map encS).take 1 := cut1 _
    show some (D.lst (cutD (ss.map encS) none (some 1))) = _
    have h : cutD (ss.map encS) none (some 1) = (ss.map encS).take 1 := h
    rw [h]
    cases ss with
    | nil => cases hs
    | cons a r =>
      cases hs
      rfl
  have lb0 : 0 ≤ LB := by decide
  have lb1 : 1 ≤ LB := by decide
  have lb2 : 2 ≤ LB := by decide
  have lb5 : 5 ≤ LB := by decide
  have lb6 : 6 ≤ LB := by decide
  have lb11 : 11 ≤ LB := by decide
  have frp : fRep (.tup [.str [97]]) (.int 5) = some (.tup [.str [97], .str [97], .str [97], .str [97], .str [97]]) := rfl
  have eadd : fAdd (.lst [.tup [.tup [], .str [97]], .tup [.tup [.str [97], .str [97], .str [97], .str [97], .str [97]], .str [98]], .tup [.tup [.str []], .str [97]], .tup [.tup [.str [97], .str [98, 99, 100, 101, 102, 103, 104]], .str [97]], .tup [.tup [.str [65]], .str [97]], .tup [.tup [.str [97]], .str [97, 49]]])
      (.lst [.tup [.tup [.str [97, 32, 98]], .str [97]], .tup [.tup [.str [97]], .str [98, 45]], .tup [.tup [.str [97, 98, 99, 100, 101, 102, 103]], .str [97]], .tup [.tup [.str [97]], .str []], .tup [.tup [.str [110, 111, 112, 113], .str [114, 115, 116, 117], .str [118, 119, 120, 121]], .str [122]]]) = some (.lst (badsS.map encS)) := by
    unfold fAdd
    dsimp only
    rw [if_pos (by exact lb11)]
    rfl
  have ewhy : whyS.map D.str = [.str [97, 100, 100, 101, 110, 100, 115], .str [97, 100, 100, 101, 110, 100, 115], .str [119, 111, 114, 100], .str [119, 111, 114, 100], .str [119, 111, 114, 100], .str [119, 111, 114, 100], .str [119, 111, 114, 100], .str [119, 111, 114, 100], .str [119, 111, 114, 100], .str [119, 111, 114, 100], .str [108, 101, 116, 116, 101, 114, 115]] := rfl
  rw [ewhy] at e2
  rw [wrong_eq]
  clear ok hs h1 h2 hd hd1 hd2 ewhy
  generalize badsS.map encS = bs at *
  generalize ansW b ss' at_ why = r at *
  generalize encSums ss = sm at *
  generalize wrongEnd = N at *
  iterate 5 repeat infer_instance
/-! ### refused -/
def refBody : MS := (mDrop (mFzI 0 (mMakeX 0 3 EV.Sheet_init (mCons (mOp fIx (mVar 0) (mC (.int 0))) (mCons (mOp fIx (mVar 0) (mC (.int 1))) mNil)))))
def refSuite : MS := (mRet (mAndV (mCallF 2 EV.law_is (mCons (mVar 3) (mCons (mC (.str [115, 104, 101, 101, 116])) mNil))) (mAndV (mCallF 1 EV.law_whole (mCons (mXf 9 1 (mVar 3)) mNil)) (mAndV (mOp fEq (mXf 9 1 (mVar 3)) (mVar 1)) (mAndV (mIsi .str (mXf 9 0 (mVar 3))) (mOp fEq (mXf 9 0 (mVar 3)) (mVar 2)))))))
theorem ref_eq : EV.law_refused = fnB [.frz, .frz, .frz] false 1
  (mSeq (mTryAs 3 [9] refBody refSuite) (mRet (mC (.bl false)))) := rfl
theorem is_sheet (why : T) (a : Int) : EV.law_is [some (.exn 9 [.str why, .int a]), some (.str [115, 104, 101, 101, 116])] = .ok (.bl true) [none, none] := by
  with_unfolding_all rfl
theorem refused_spec (b : Int) (ss : List Su) (at_ : Nat) (why : T) (h : badSheet b ss = some (at_, why)) (lim : Lim ss) :
    EV.law_refused [some (.tup [.int b, encSums ss]), some (.int (at_ : Int)), some (.str why)] = .ok (.bl true) [none, none, none] := by
  obtain ⟨r, e⟩ := init_gen b ss lim
  rw [h] at e
  have e : EV.Sheet_init [some (.ins 0 []), some (.int b), some (encSums ss)] = .exc 9 [.str why, .int at_] r := e
  have a1 : (mCons (mOp fIx (mVar 0) (mC (.int 0))) (mCons (mOp fIx (mVar 0) (mC (.int 1))) mNil)) [some (.tup [.int b, encSums ss]), some (.int (at_ : Int)), some (.str why), none] = .ok [.int b, encSums ss] [some (.tup [.int b, encSums ss]), some (.int (at_ : Int)), some (.str why), none] := by
    have f0 : fIx (.tup [.int b, encSums ss]) (.int 0) = some (.int b) := rfl
    have f1 : fIx (.tup [.int b, encSums ss]) (.int 1) = some (encSums ss) := rfl
    iterate 5 repeat infer_instance
  have b1 : refBody [some (.tup [.int b, encSums ss]), some (.int (at_ : Int)), some (.str why), none] = .exc 9 [.str why, .int at_] [some (.tup [.int b, encSums ss]), some (.int (at_ : Int)), some (.str why), none] :=
    drop_exc (fzI_exc (makeX_exc (ds := [.int b, encSums ss]) a1 rfl e))
  have hs : refSuite ([some (.tup [.int b, encSums ss]), some (.int (at_ : Int)), some (.str why), none].set 3 (some (.exn 9 [.str why, .int (at_ : Int)]))) = .ok (.rt (.bl true)) [some (.tup [.int b, encSums ss]), some (.int (at_ : Int)), some (.str why), some (.exn 9 [.str why, .int (at_ : Int)])] := by
    have s1 := is_sheet why (at_ : Int)
    have s2 : EV.law_whole [some (.int (at_ : Int))] = .ok (.bl true) [none] := by with_unfolding_all rfl
    have q1 : fEq (.int (at_ : Int)) (.int (at_ : Int)) = some (.bl true) := by rw [o_eqI, decide_eq_true rfl]
    have q2 : fEq (.str why) (.str why) = some (.bl true) := by rw [o_eqS, decide_eq_true rfl]
    have x1 : mXf 9 1 (mVar 3) [some (.tup [.int b, encSums ss]), some (.int (at_ : Int)), some (.str why), some (.exn 9 [.str why, .int (at_ : Int)])] = .ok (.int at_) [some (.tup [.int b, encSums ss]), some (.int (at_ : Int)), some (.str why), some (.exn 9 [.str why, .int (at_ : Int)])] := rfl
    have x0 : mXf 9 0 (mVar 3) [some (.tup [.int b, encSums ss]), some (.int (at_ : Int)), some (.str why), some (.exn 9 [.str why, .int (at_ : Int)])] = .ok (.str why) [some (.tup [.int b, encSums ss]), some (.int (at_ : Int)), some (.str why), some (.exn 9 [.str why, .int (at_ : Int)])] := rfl
    show refSuite [some (.tup [.int b, encSums ss]), some (.int (at_ : Int)), some (.str why), some (.exn 9 [.str why, .int (at_ : Int)])] = _
    have s1' : mCallF 2 EV.law_is (mCons (mVar 3) (mCons (mC (.str [115, 104, 101, 101, 116])) mNil)) [some (.tup [.int b, encSums ss]), some (.int (at_ : Int)), some (.str why), some (.exn 9 [.str why, .int (at_ : Int)])] = .ok (.bl true) [some (.tup [.int b, encSums ss]), some (.int (at_ : Int)), some (.str why), some (.exn 9 [.str why, .int (at_ : Int)])] :=
      mCallF_ok (ds := [.exn 9 [.str why, .int (at_ : Int)], .str [115, 104, 101, 101, 116]]) rfl rfl s1
    have s2' : mCallF 1 EV.law_whole (mCons (mXf 9 1 (mVar 3)) mNil) [some (.tup [.int b, encSums ss]), some (.int (at_ : Int)), some (.str why), some (.exn 9 [.str why, .int (at_ : Int)])] = .ok (.bl true) [some (.tup [.int b, encSums ss]), some (.int (at_ : Int)), some (.str why), some (.exn 9 [.str why, .int (at_ : Int)])] :=
      mCallF_ok (ds := [.int (at_ : Int)]) rfl rfl s2
    have s3' : mOp fEq (mXf 9 1 (mVar 3)) (mVar 1) [some (.tup [.int b, encSums ss]), some (.int (at_ : Int)), some (.str why), some (.exn 9 [.str why, .int (at_ : Int)])] = .ok (.bl true) [some (.tup [.int b, encSums ss]), some (.int (at_ : Int)), some (.str why), some (.exn 9 [.str why, .int (at_ : Int)])] := by
      rw [ap_mOp, x1, bind_ok]
      show R.ofO (fEq (.int (at_ : Int)) (.int (at_ : Int))) _ = _
      rw [q1]
      rfl
    have s4' : mIsi .str (mXf 9 0 (mVar 3)) [some (.tup [.int b, encSums ss]), some (.int (at_ : Int)), some (.str why), some (.exn 9 [.str why, .int (at_ : Int)])] = .ok (.bl true) [some (.tup [.int b, encSums ss]), some (.int (at_ : Int)), some (.str why), some (.exn 9 [.str why, .int (at_ : Int)])] := by
      rw [ap_mIsi, x0, bind_ok]
      rfl
    have s5' : mOp fEq (mXf 9 0 (mVar 3)) (mVar 2) [some (.tup [.int b, encSums ss]), some (.int (at_ : Int)), some (.str why), some (.exn 9 [.str why, .int (at_ : Int)])] = .ok (.bl true) [some (.tup [.int b, encSums ss]), some (.int (at_ : Int)), some (.str why), some (.exn 9 [.str why, .int (at_ : Int)])] := by
      rw [ap_mOp, x0, bind_ok]
      show R.ofO (fEq (.str why) (.str why)) _ = _
      rw [q2]
      rfl
    unfold refSuite
    refine mRet_ok ?_
    rw [ap_mAndV, s1', bind_ok]
    dsimp only
    rw [ap_mAndV, s2', bind_ok]
    dsimp only
    rw [ap_mAndV, s3', bind_ok]
    dsimp only
    rw [ap_mAndV, s4', bind_ok]
    dsimp only
    rw [s5']
  have t := tryAs_exc (ks := [9]) b1 rfl hs rfl
  rw [ref_eq]
  refine r_fnE (sl := [some (.tup [.int b, encSums ss]), some (.int (at_ : Int)), some (.str why), none]) (d0 := .bl true) (s := [none, none, none, none]) (r0 := [none, none, none]) rfl ?_ rfl rfl rfl
  rw [ap_mSeq, t]
  rfl
/-! ### the law -/
def turnB : MS := (mSeq (mSetO (mMethF 0 1 EV.Sheet_sums (mVar 3) mNil) 7)
  (mSeq (mIf (mOr (mNot (mTest (mBor [.frz, .own, .own, .frz, .frz, .frz, .frz, .own, .frz, .frz, .frz] 7 (mCallF 2 (EV.g_law_like 64) (mCons (mVar 7) (mCons (mVar 6) mNil)))))) (mNot (mTest (mCallF 2 (EV.g_law_like 64) (mCons (mFld 0 0 (mVar 3)) (mCons (mVar 5) mNil)))))) (mRet (mC (.bl false))) mSkip)
  (mSeq (mClear (getV 7) (setV 7))
  (mClear (getV 2) (setV 2)))))
def wrongIf : MS := (mIf (mTest (mOp fEq (mCallI 1 2 EV.law_next (mCons (mC (.int 2)) mNil)) (mC (.int 1)))) (mSeq (mAsg (mCallI 1 2 EV.law_wrong (mCons (mTup (mCons (mVar 5) (mCons (mVar 6) mNil))) mNil)) (gmTup 3 (gmCons (gmName 8) (gmCons (gmName 9) (gmCons (gmName 10) gmNil)))))
  (mRet (mCallF 3 EV.law_refused (mCons (mVar 8) (mCons (mVar 9) (mCons (mVar 10) mNil)))))) mSkip)
def restB : MS := (mSeq (mSetO (mCall fList (mCons (mVar 6) mNil)) 2)
  (mSeq (mAsg (mFzI 0 (mMakeXL 2 0 3 EV.Sheet_initL (mCons (mVar 5) mNil))) (gmName 3))
  (mSeq (mFor (mRng1 (mCons (mC (.int 2)) mNil)) (gmName 4) turnB)
  (mRet (mC (.bl true))))))
theorem law_eq : EV.law = fnB [.frz] false 10
  (mSeq (mSetO (mCallF 1 EV.law_dice (mCons (mVar 0) mNil)) 1)
  (mSeq (mAsg (mCallI 1 1 EV.law_sheet mNil) (gmTup 2 (gmCons (gmName 5) (gmCons (gmName 6) gmNil))))
  (mSeq wrongIf
  restB))) := rfl
theorem sums_spec (base : Int) (ss : List Su) : EV.Sheet_sums [some (sheetD base ss)] = .ok (encSums ss) [none] := by
  have e5 : fList [encSums ss] = some (encSums ss) := rfl
  unfold EV.Sheet_sums sheetD
  iterate 5 repeat infer_instance
theorem turn_ok {base : Int} {ss : List Su} (ok : SheetOk base ss) (x0 : Option D) (d1 : D) (hs : List D) (k : Int) (x7 : Option D) :
    turnB [x0, some d1, some (.lst hs), some (sheetD base ss), some (.int k), some (.int base), some (encSums ss), x7, none, none, none] = .ok .nx [x0, some d1, some (.lst []), some (sheetD base ss), some (.int k), some (.int base), some (encSums ss), some (.lst []), none, none, none] := by
  have e1 := sums_spec base ss
  have hp : plainN 3 (encSums ss) := by
    have hw : ∀ ws : List T, ws.length ≤ 100 → plainN 1 (encW ws) := fun ws h => .inr ⟨_, .inr rfl, (by rw [List.length_map]; exact Nat.le_trans h (by decide)), fun y hy => by
      obtain ⟨t, _, rfl⟩ := List.mem_map.mp hy
      exact .inr (.inr ⟨t, rfl⟩)⟩
    refine .inr ⟨_, .inl rfl, by rw [List.length_map]; exact Nat.le_trans ok.most (by decide), fun y hy => ?_⟩
    obtain ⟨s, hs, rfl⟩ := List.mem_map.mp hy
    refine .inr ⟨_, .inr rfl, (show 2 ≤ LB by decide), fun z hz => ?_⟩
    rcases List.mem_cons.mp hz with rfl | hz
    · exact hw _ (by have := (ok.ad s hs).2; omega)
    · rw [List.mem_singleton.mp hz]
      exact .inl (.inr (.inr ⟨_, rfl⟩))
  have e2 := like_self _ 3 (by omega) hp
  have e3 := like_self (.int base) 0 (by omega) (.inr (.inl ⟨base, rfl⟩))
  have hli : ∃ ds, encSums ss = .lst ds := ⟨_, rfl⟩
  obtain ⟨ds, hds⟩ := hli
  have hI : isIns 0 (sheetD base ss) = true := rfl
  have hf : mFld 0 0 (mVar 3) = mFld 0 0 (mVar 3) := rfl
  unfold sheetD at *
  rw [hds] at e1 e2 ⊢
  clear hp hds ok
  unfold turnB
  generalize EV.g_law_like 64 = LK at *
  iterate 5 repeat infer_instance
theorem rest_ok {base : Int} {ss : List Su} (ok : SheetOk base ss) (x0 : Option D) (d1 : D) :
    ∃ s', restB [x0, some d1, none, none, none, some (.int base), some (encSums ss), none, none, none, none] = .ok (.rt (.bl true)) (x0 :: s') := by
  have e1 := initL_spec base ss ok
  have t1 := turn_ok ok x0 d1 (ss.map encS) 0 none
  have t2 := turn_ok ok x0 d1 [] 1 (some (.lst []))
  have ef : forGo (gmName 4) turnB [.int 0, .int 1] [x0, some d1, some (encSums ss), some (sheetD base ss), none, some (.int base), some (encSums ss), none, none, none, none] = .ok .nx [x0, some d1, some (.lst []), some (sheetD base ss), some (.int 1), some (.int base), some (encSums ss), some (.lst []), none, none, none] := by
    rw [forGo_step (s1 := [x0, some d1, some (encSums ss), some (sheetD base ss), some (.int 0), some (.int base), some (encSums ss), none, none, none, none]) rfl t1]
    rw [forGo_step (s1 := [x0, some d1, some (.lst []), some (sheetD base ss), some (.int 1), some (.int base), some (encSums ss), some (.lst []), none, none, none]) rfl t2]
    rfl
  have er : rangeD 0 (2 : Int).toNat = [.int 0, .int 1] := rfl
  rw [← er] at ef
  have e5 : fList [encSums ss] = some (encSums ss) := rfl
  have e6 : isLD (encSums ss) = true := rfl
  have hI : isIns 0 (sheetD base ss) = true := rfl
  refine ⟨[some d1, some (.lst []), some (sheetD base ss), some (.int 1), some (.int base), some (encSums ss), some (.lst []), none, none, none], ?_⟩
  have hli : ∃ ds, encSums ss = .lst ds := ⟨_, rfl⟩
  obtain ⟨ds, hds⟩ := hli
  clear t1 t2
  rw [hds] at e1 ef e5 e6 ⊢
  clear ok hds er
  generalize sheetD base ss = sh at *
  unfold restB
  generalize turnB = B at *
  iterate 5 repeat infer_instance
theorem law_true (ns : List Int) (hl : ns.length ≤ 63) : EV.law [some (.scr ns)] = .ok (.bl true) [none] := by
  obtain ⟨d1, e1, hd1⟩ := dice_spec ns
  obtain ⟨base, ss, d2, e2, hd2, ok⟩ := sheet_spec d1 hd1
  obtain ⟨r, d3, e3, r1, r2, hd3⟩ := next_spec d2 hd2 2 (by omega) (by omega)
  rw [law_eq]
  by_cases hr : r = 1
  · subst hr
    obtain ⟨b, ss', at_, why, d4, e4, hd4, hb, lim⟩ := wrong_spec ok d3 hd3
    have e5 := refused_spec b ss' at_ why hb lim
    unfold ansW at e4
    clear hd1 hd2 hd3 hd4 ok hb lim
    generalize encSums ss = sm at *
    generalize restB = N at *
    unfold wrongIf
    iterate 5 repeat infer_instance
  · obtain ⟨s', er⟩ := rest_ok ok (some (.scr ns)) d3
    have ew : wrongIf [some (.scr ns), some d2, none, none, none, some (.int base), some (encSums ss), none, none, none, none] = .ok .nx [some (.scr ns), some d3, none, none, none, some (.int base), some (encSums ss), none, none, none, none] := by
      clear e1 e2 er hd1 hd2 hd3 ok
      generalize encSums ss = sm at *
      unfold wrongIf
      iterate 5 repeat infer_instance
    clear e3 hd1 hd2 hd3 ok
    generalize wrongIf = W at *
    generalize restB = N at *
    generalize encSums ss = sm at *
    iterate 5 repeat infer_instance
end PLk01

namespace Wk01
open PySem PySem.Spec PyProof.Rows L2 MM EV
abbrev R : PySem.W.OpenRow := PySem.W.OpenLaw.row PySem.Challenge.rw_wordsums_k01_sheets_refused
abbrev hk : PySem.W.Hook := hookX 7 fa fn fx
def ob (s : PySem.W.SharedT) : AlX := obsX 7 fa fn fx (HandSHeadRun.getT s)
theorem ob_eq (s : PySem.W.SharedT) : ob s = hk.obs s.abs := obsX_eq (HandSHeadRun.getT_eq s)
theorem run (w : World) : HandSHeadRun.RunEq R (PySem.W.view R.prog [31]) hk ob 4000 ["_wall", "SumError", "BadSheet", "NoAnswer", "ManyAnswers", "NotOne", "BadText", "SMALL", "MOST_BASE", "MOST_SUMS", "MOST_ADDENDS", "MOST_LONG", "MOST_LETTERS", "is_word", "Sheet", "letter_at", "_law_dice", "_law_next", "_law_whole", "_law_like", "_law_word", "_law_names", "_law_sum", "_law_sheet", "_law_wide", "_law_is", "_law_wrong", "_law_refused"] w := by
  intro os
  kernel_rfl
theorem facts {P : Program} {w : World} {K : PySem.W.Frag} {h : Heap} {mg : Str → Option Value} {f : Addr} (X : K.In h) (G : h.Ns mainGlobals mg) (hfa : mg ("law" : Str) = some (.ref f)) (c : He.SaysD fa fn K) (Y : Yc fx K) :
    ∃ fd : FuncData, (∀ (s : Shared) (v : Value), BindsTo s fd ⟨[v], []⟩ [("_law_script", v)]) ∧ ∀ base : Heap, K.In base → base.Ns mainGlobals mg → FnOk P w K mg base CX0 67 f fd ["_law_script"] (SpM (ci K) [.frz] false EV.law) := by
  have Z : Zc fa fn K h mg := ⟨c, X, G⟩
  have e := hfa.symm.trans (Z.glo 50)
  cases e
  obtain ⟨fd, F⟩ := Z.c.def_ 18 (d := D_law) rfl
  have b := FunD.bindsA (ps := ["_law_script"]) F fun _ _ _ _ _ _ us hl => match us, hl with | [_], _ => rfl
  refine ⟨fd, fun s v => b s [v] rfl, fun base _ _ => ?_⟩
  obtain ⟨fd2, F2, q⟩ := law_ok (P := P) (w := w) (base := base) Z Y
  have e2 : fd2 = fd := fund_same F2 F
  rw [← e2]
  exact q.ok
end Wk01
open PySem PySem.W PySem.Calls PyProof.Rows
theorem PySem.Challenge.cw_wordsums_k01_sheets_refused_holds : PySem.Challenge.rw_wordsums_k01_sheets_refused.Holds := by
  w_on; o_law
  refine HandSHeadRun.head_any (r := OpenLaw.row PySem.Challenge.rw_wordsums_k01_sheets_refused) (q := view (OpenLaw.row PySem.Challenge.rw_wordsums_k01_sheets_refused).prog [31]) (H := Wk01.hk) (ob := Wk01.ob) (M := 4000) (loose := ["_wall", "SumError", "BadSheet", "NoAnswer", "ManyAnswers", "NotOne", "BadText", "SMALL", "MOST_BASE", "MOST_SUMS", "MOST_ADDENDS", "MOST_LONG", "MOST_LETTERS", "is_word", "Sheet", "letter_at", "_law_dice", "_law_next", "_law_whole", "_law_like", "_law_word", "_law_names", "_law_sum", "_law_sheet", "_law_wide", "_law_is", "_law_wrong", "_law_refused"]) (d := HandSHeadRun.topDef (OpenLaw.row PySem.Challenge.rw_wordsums_k01_sheets_refused).prog 31) (kwd := []) Wk01.ob_eq
    (by kernel_rfl) (fun s => by kernel_rfl) Wk01.run (by kernel_rfl) (by kernel_rfl) (by kernel_rfl) (by rfl) (by first | assumption | decide +kernel) (by decide +kernel) ⟨rfl, rfl, rfl, rfl, rfl, by decide +kernel⟩ ?hw ?hc
  case hw => w_witness2
  case hc =>
    refine L2.walk_ofE (l := PySem.Challenge.rw_wordsums_k01_sheets_refused) (n := 63) (k := 67) (x := "_law_script") (CX := L2.CX0) rfl (by decide) (by kernel_rfl) ⟨rfl, by decide, by decide⟩ ?F (fun _ _ _ _ z => z)
    intro w mg fa h Y G hmg0
    obtain ⟨K, KX, c, y⟩ := Y
    have hmg : mg ("law" : PySem.Str) = some (.ref fa) := by
      have e : (HandSHeadRun.topDef (OpenLaw.row PySem.Challenge.rw_wordsums_k01_sheets_refused).prog 31).name = ("law" : PySem.Str) := by kernel_rfl
      rw [← e]
      exact hmg0
    obtain ⟨fd, hb, hF⟩ := Wk01.facts (P := (PySem.Challenge.rw_wordsums_k01_sheets_refused).prog) (w := w) KX G hmg c y
    exact ⟨K, fd, _, KX, hb, fun H a ns hl hO hS => MM.law_start (c := Wk01.ci K) rfl (by decide) hl hS (PLk01.law_true ns hl), hF⟩

