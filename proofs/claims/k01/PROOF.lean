import PyProof.Rows.All
import Wide.All
import OpenK.AllK
import Wide.FinOn
import HandS.ForMost
import HandS.Flow
import HandS.IsInst
import HandS.Evl
import HandS.TupAny
import HandS.Zip
import HandS.Conv
import HandS.Style
import HandS.HeadHook1
import HandS.Exc
import HandS.ExcInit
import HandS.ExcIs
import HandS.ExcField
import HandS.Walk
import KE.KStateDown
import HandS.Defaults
import HandS.Head0
import HandS.Head1
import HandS.Head2
import HandS.HeadEnd
import HandS.HeadHook2
import KE.GoesEnum
import KE.GoesZip
import KE.GoesMore
import KE.KDictList
import HandS.ExcOwn
import KE.KExcMore
import KE.KExcIs
import HandS.ExcValue
import PySem.Challenge.RW_tagpicker_k01_errors
import PyProof.P3Eq
section
set_option Elab.async false
set_option linter.all false
set_option maxRecDepth 100000
set_option maxHeartbeats 4000000
/-! AB: values as plain data, heaps hidden, over the hand layer. -/
namespace AB
open PySem PySem.Spec PyProof.Rows L2 Evl

inductive A where
  | non | bl (b : Bool) | int (i : Int) | str (s : Str) | lst (xs : List A) | tup (xs : List A) | frz (xs : List A)
  | dic (kvs : List (Key × A)) | ins (C : String) (fs : List (Str × A)) | val (v : V) | exc (C : String) (fs : List (Str × A))

/-- where the class named so stands -/
abbrev cAt (K : PySem.W.Frag) (C : String) : Addr := He.ga K (Str.ofString C)
mutual
inductive AR (K : PySem.W.Frag) (G : Hp) : V → A → Prop
  | non : AR K G .non .non
  | bl (b : Bool) : AR K G (.bl b) (.bl b)
  | int (i : Int) : AR K G (.int i) (.int i)
  | str (s : Str) : AR K G (.str s) (.str s)
  | lst {a : Addr} {vs : List V} {xs : List A} : G a = some (.lst vs) → ARs K G vs xs → AR K G (.ref a) (.lst xs)
  | frz {a : Addr} {o : Obj} {vs : List V} {xs : List A} : G a = some (.frz o (.lst vs)) → ARs K G vs xs → AR K G (.ref a) (.frz xs)
  | tup {a : Addr} {vs : List V} {xs : List A} : SqT K G a vs → ARs K G vs xs → AR K G (.ref a) (.tup xs)
  | dic {a : Addr} {kw : List (Key × V)} {kvs : List (Key × A)} : G a = some (.dK kw) → ARk K G kw kvs → AR K G (.ref a) (.dic kvs)
  | ins {a dx : Addr} {C : String} {fs : List (Str × V)} {gs : List (Str × A)} : G a = some (.ins (cAt K C) dx fs) → ARf K G fs gs → AR K G (.ref a) (.ins C gs)
  | val (v : V) : AR K G v (.val v)
  | exc0 {a : Addr} {C : String} : G a = some (exo a (cAt K C) none) → AR K G (.ref a) (.exc C [])
  | exc {a d : Addr} {C : String} {fs : List (Str × V)} {gs : List (Str × A)} : G a = some (exo a (cAt K C) (some d)) → G d = some (exd d fs) → ARf K G fs gs → AR K G (.ref a) (.exc C gs)
inductive ARs (K : PySem.W.Frag) (G : Hp) : List V → List A → Prop
  | nil : ARs K G [] []
  | cons {v : V} {vs : List V} {a : A} {xs : List A} : AR K G v a → ARs K G vs xs → ARs K G (v :: vs) (a :: xs)
inductive ARk (K : PySem.W.Frag) (G : Hp) : List (Key × V) → List (Key × A) → Prop
  | nil : ARk K G [] []
  | cons {k : Key} {v : V} {vs : List (Key × V)} {a : A} {xs : List (Key × A)} : AR K G v a → ARk K G vs xs → ARk K G ((k, v) :: vs) ((k, a) :: xs)
inductive ARf (K : PySem.W.Frag) (G : Hp) : List (Str × V) → List (Str × A) → Prop
  | nil : ARf K G [] []
  | cons {k : Str} {v : V} {vs : List (Str × V)} {a : A} {xs : List (Str × A)} : AR K G v a → ARf K G vs xs → ARf K G ((k, v) :: vs) ((k, a) :: xs)
end

section
variable {K : PySem.W.Frag} {G G' : Hp}
mutual
theorem AR.mono (e : Ex G G') : ∀ {v : V} {a : A}, AR K G v a → AR K G' v a
  | _, _, .non => .non
  | _, _, .bl b => .bl b
  | _, _, .int i => .int i
  | _, _, .str s => .str s
  | _, _, .lst h r => .lst (e _ _ h) (ARs.mono e r)
  | _, _, .frz h r => .frz (e _ _ h) (ARs.mono e r)
  | _, _, .tup h r => .tup (ex_t e h) (ARs.mono e r)
  | _, _, .dic h r => .dic (e _ _ h) (ARk.mono e r)
  | _, _, .ins h r => .ins (e _ _ h) (ARf.mono e r)
  | _, _, .val v => .val v
  | _, _, .exc0 h => .exc0 (e _ _ h)
  | _, _, .exc h h2 r => .exc (e _ _ h) (e _ _ h2) (ARf.mono e r)
theorem ARs.mono (e : Ex G G') : ∀ {v : List V} {a : List A}, ARs K G v a → ARs K G' v a
  | _, _, .nil => .nil
  | _, _, .cons h r => .cons (AR.mono e h) (ARs.mono e r)
theorem ARk.mono (e : Ex G G') : ∀ {v : List (Key × V)} {a : List (Key × A)}, ARk K G v a → ARk K G' v a
  | _, _, .nil => .nil
  | _, _, .cons h r => .cons (AR.mono e h) (ARk.mono e r)
theorem ARf.mono (e : Ex G G') : ∀ {v : List (Str × V)} {a : List (Str × A)}, ARf K G v a → ARf K G' v a
  | _, _, .nil => .nil
  | _, _, .cons h r => .cons (AR.mono e h) (ARf.mono e r)
end
theorem ARs.length : ∀ {vs : List V} {xs : List A}, ARs K G vs xs → vs.length = xs.length
  | _, _, .nil => rfl
  | _, _, .cons _ r => congrArg (· + 1) (ARs.length r)
theorem ARs.append : ∀ {vs ws : List V} {xs ys : List A}, ARs K G vs xs → ARs K G ws ys → ARs K G (vs ++ ws) (xs ++ ys)
  | _, _, _, _, .nil, r => r
  | _, _, _, _, .cons h t, r => .cons h (ARs.append t r)
theorem ARs.get : ∀ {vs : List V} {xs : List A} {i : Nat} {a : A}, ARs K G vs xs → xs[i]? = some a → ∃ v, vs[i]? = some v ∧ AR K G v a
  | _, _, _, _, .nil, e => by simp at e
  | _, _, 0, _, .cons h _, e => by simp at e; subst e; exact ⟨_, rfl, h⟩
  | _, _, i + 1, a, .cons _ t, e => by
    obtain ⟨u, h1, h2⟩ := ARs.get (i := i) (a := a) t (by simpa using e)
    exact ⟨u, by simpa using h1, h2⟩
theorem ARs.get' : ∀ {vs : List V} {xs : List A} {i : Nat} {v : V}, ARs K G vs xs → vs[i]? = some v → ∃ a, xs[i]? = some a ∧ AR K G v a
  | _, _, _, _, .nil, e => by simp at e
  | _, _, 0, _, .cons h _, e => by simp at e; subst e; exact ⟨_, rfl, h⟩
  | _, _, i + 1, a, .cons _ t, e => by
    obtain ⟨u, h1, h2⟩ := ARs.get' (i := i) (v := a) t (by simpa using e)
    exact ⟨u, by simpa using h1, h2⟩
theorem ARs.take : ∀ {vs : List V} {xs : List A} (n : Nat), ARs K G vs xs → ARs K G (vs.take n) (xs.take n)
  | _, _, 0, _ => .nil
  | _, _, _ + 1, .nil => .nil
  | _, _, n + 1, .cons h t => .cons h (ARs.take n t)
theorem ARs.drop : ∀ {vs : List V} {xs : List A} (n : Nat), ARs K G vs xs → ARs K G (vs.drop n) (xs.drop n)
  | _, _, 0, r => r
  | _, _, _ + 1, .nil => .nil
  | _, _, n + 1, .cons _ t => ARs.drop n t
theorem ARs.reverse : ∀ {vs : List V} {xs : List A}, ARs K G vs xs → ARs K G vs.reverse xs.reverse
  | _, _, .nil => .nil
  | _, _, .cons h t => by
    rw [List.reverse_cons, List.reverse_cons]
    exact ARs.append (ARs.reverse t) (.cons h .nil)
theorem ARs.set {v : V} {a : A} (h : AR K G v a) : ∀ {vs : List V} {xs : List A} (i : Nat), ARs K G vs xs → ARs K G (vs.set i v) (xs.set i a)
  | _, _, _, .nil => .nil
  | _, _, 0, .cons _ t => .cons h t
  | _, _, i + 1, .cons q t => .cons q (ARs.set h i t)
theorem ARs.dropLast {vs : List V} {xs : List A} (r : ARs K G vs xs) : ARs K G vs.dropLast xs.dropLast := by
  rw [List.dropLast_eq_take, List.dropLast_eq_take, ← r.length]
  exact r.take _
theorem ARs.intL : ∀ {ns : List Int}, ARs K G (ns.map V.int) (ns.map A.int)
  | [] => .nil
  | n :: ns => .cons (.int n) ARs.intL
theorem ARs.strL : ∀ {ns : List Str}, ARs K G (ns.map V.str) (ns.map A.str)
  | [] => .nil
  | n :: ns => .cons (.str n) ARs.strL
theorem ARs.intL' : ∀ {ns : List Int} {vs : List V}, ARs K G vs (ns.map A.int) → vs = ns.map V.int
  | [], _, .nil => rfl
  | n :: ns, _, .cons (.int _) t => by rw [ARs.intL' t]; rfl
theorem ARs.strL' : ∀ {ns : List Str} {vs : List V}, ARs K G vs (ns.map A.str) → vs = ns.map V.str
  | [], _, .nil => rfl
  | n :: ns, _, .cons (.str _) t => by rw [ARs.strL' t]; rfl
theorem ARs.blL' : ∀ {ns : List Bool} {vs : List V}, ARs K G vs (ns.map A.bl) → vs = ns.map V.bl
  | [], _, .nil => rfl
  | n :: ns, _, .cons (.bl _) t => by rw [ARs.blL' t]; rfl
theorem ARf.get : ∀ {fs : List (Str × V)} {gs : List (Str × A)} {n : Str} {a : A}, ARf K G fs gs → gs.lookup n = some a → ∃ v, fs.lookup n = some v ∧ AR K G v a
  | _, _, _, _, .nil, e => by simp [List.lookup] at e
  | (k, v) :: _, (_, b) :: _, n, a, .cons h t, e => by
    simp only [List.lookup] at e ⊢
    split at e
    · rename_i q
      cases e
      exact ⟨_, rfl, h⟩
    · exact ARf.get t e
theorem ARf.none : ∀ {fs : List (Str × V)} {gs : List (Str × A)} {n : Str}, ARf K G fs gs → gs.lookup n = none → fs.lookup n = none
  | _, _, _, .nil, _ => rfl
  | (k, v) :: _, (_, b) :: _, n, .cons h t, e => by
    simp only [List.lookup] at e ⊢
    split at e
    · cases e
    · exact ARf.none t e
theorem ARf.length : ∀ {vs : List (Str × V)} {xs : List (Str × A)}, ARf K G vs xs → vs.length = xs.length
  | _, _, .nil => rfl
  | _, _, .cons _ r => congrArg (· + 1) (ARf.length r)
def putA (f : Str) (a : A) : List (Str × A) → List (Str × A)
  | [] => [(f, a)]
  | (g, x) :: r => if g = f then (f, a) :: r else (g, x) :: putA f a r
end

/-! ### worlds -/
inductive B where
  | p (a : A) | own (k : Nat)
inductive OB where
  | lst (xs : List A) | dic (kvs : List (Key × A)) | ins (C : String) (fs : List (Str × A)) | dead
abbrev AS := List (Option B)
abbrev OS := List OB
structure Wd where
  G : Hp
  H : Hp
  ls : List Addr
def BR (K : PySem.W.Frag) (W : Wd) (v : V) : B → Prop
  | .p a => AR K W.G v a
  | .own k => ∃ l, W.ls[k]? = some l ∧ v = .ref l
def OR (K : PySem.W.Frag) (W : Wd) (l : Addr) : OB → Prop
  | .lst xs => W.G l = none ∧ ∃ vs, W.H l = some (.lst vs) ∧ ARs K W.G vs xs
  | .dic kvs => W.G l = none ∧ ∃ kw, W.H l = some (.dK kw) ∧ ARk K W.G kw kvs
  | .ins C gs => W.G l = none ∧ ∃ dx fs, W.H l = some (.ins (cAt K C) dx fs) ∧ ARf K W.G fs gs
  | .dead => True
structure Wok (K : PySem.W.Frag) (W : Wd) (os : OS) : Prop where
  sub : Ex W.G W.H
  len : W.ls.length = os.length
  nd : W.ls.Nodup
  has : ∀ l ∈ W.ls, W.H l ≠ none
  own : ∀ (k : Nat) l o, W.ls[k]? = some l → os[k]? = some o → OR K W l o
structure Sn (W W' : Wd) : Prop where
  g : Ex W.G W'.G
  h : ∀ a o, W.H a = some o → a ∉ W.ls → W'.H a = some o
  st : ∀ a, W.H a ≠ none → a ∉ W.ls → W.G a = none → W'.G a = none
  pre : ∀ (k : Nat) l, W.ls[k]? = some l → W'.ls[k]? = some l
  fr : ∀ (k : Nat) l, W'.ls[k]? = some l → W.ls.length ≤ k → W.H l = none
  al : ∀ a, W.H a ≠ none → W'.H a ≠ none
inductive SlotsR (K : PySem.W.Frag) (W : Wd) : L2.St → AS → Prop
  | nil : SlotsR K W [] []
  | any {o : Option V} {σ : L2.St} {as : AS} : SlotsR K W σ as → SlotsR K W (o :: σ) (none :: as)
  | cons {v : V} {b : B} {σ : L2.St} {as : AS} : BR K W v b → SlotsR K W σ as → SlotsR K W (some v :: σ) (some b :: as)
inductive BRs (K : PySem.W.Frag) (W : Wd) : List V → List B → Prop
  | nil : BRs K W [] []
  | cons {v : V} {vs : List V} {a : B} {xs : List B} : BR K W v a → BRs K W vs xs → BRs K W (v :: vs) (a :: xs)

section
variable {K : PySem.W.Frag} {W W' W'' : Wd} {os os' : OS}
theorem Sn.refl (W : Wd) : Sn W W := ⟨Ex.refl _, fun _ _ h _ => h, fun _ _ _ h => h, fun _ _ h => h, fun k l h q => by
  have := (List.getElem?_eq_some_iff.mp h).1; omega, fun _ h => h⟩
theorem Sn.notin (a : Sn W W') {x : Addr} (h : W.H x ≠ none) (n : x ∉ W.ls) : x ∉ W'.ls := fun m => by
  obtain ⟨k, hk⟩ := List.getElem?_of_mem m
  by_cases q : W.ls.length ≤ k
  · exact h (a.fr k x hk q)
  · have e := (List.getElem?_eq_getElem (l := W.ls) (by omega : k < W.ls.length))
    have e2 := a.pre k _ e
    rw [hk] at e2
    exact n (by rw [Option.some.inj e2]; exact List.getElem_mem _)
theorem Sn.trans (a : Sn W W') (b : Sn W' W'') : Sn W W'' := by
  refine ⟨a.g.trans b.g, fun x o h n => b.h x o (a.h x o h n) (a.notin (by rw [h]; simp) n), fun x h m n => b.st x (a.al x h) (a.notin h m) (a.st x h m n), fun k l h => b.pre k l (a.pre k l h), fun k l h q => ?_, fun x h => b.al x (a.al x h)⟩
  by_cases q1 : W'.ls.length ≤ k
  · have := b.fr k l h q1
    cases e : W.H l with
    | none => rfl
    | some o => exact absurd this (a.al l (by rw [e]; simp))
  · have e := (List.getElem?_eq_getElem (l := W'.ls) (by omega : k < W'.ls.length))
    have e2 := b.pre k _ e
    rw [h] at e2
    have e3 : l = W'.ls[k] := Option.some.inj e2
    exact a.fr k l (by rw [e, e3]) q
theorem BR.mono (s : Sn W W') : ∀ {v : V} {b : B}, BR K W v b → BR K W' v b
  | _, .p _, h => AR.mono s.g h
  | _, .own _, ⟨l, h, e⟩ => ⟨l, s.pre _ _ h, e⟩
theorem BRs.mono (s : Sn W W') : ∀ {v : List V} {b : List B}, BRs K W v b → BRs K W' v b
  | _, _, .nil => .nil
  | _, _, .cons h r => .cons (h.mono s) (BRs.mono s r)
theorem BRs.length : ∀ {v : List V} {b : List B}, BRs K W v b → v.length = b.length
  | _, _, .nil => rfl
  | _, _, .cons _ r => congrArg (· + 1) r.length
theorem BRs.append : ∀ {vs ws : List V} {xs ys : List B}, BRs K W vs xs → BRs K W ws ys → BRs K W (vs ++ ws) (xs ++ ys)
  | _, _, _, _, .nil, r => r
  | _, _, _, _, .cons h t, r => .cons h (BRs.append t r)
theorem BRs.pure : ∀ {vs : List V} {xs : List A}, ARs K W.G vs xs → BRs K W vs (xs.map B.p)
  | _, _, .nil => .nil
  | _, _, .cons h t => .cons h (BRs.pure t)
theorem BRs.pure' : ∀ {vs : List V} {xs : List A}, BRs K W vs (xs.map B.p) → ARs K W.G vs xs
  | _, [], .nil => .nil
  | _, _ :: _, .cons h t => .cons h (BRs.pure' t)
theorem SlotsR.mono (s : Sn W W') : ∀ {σ : L2.St} {as : AS}, SlotsR K W σ as → SlotsR K W' σ as
  | _, _, .nil => .nil
  | _, _, .any r => .any (SlotsR.mono s r)
  | _, _, .cons h r => .cons (h.mono s) (SlotsR.mono s r)
theorem SlotsR.get : ∀ {σ : L2.St} {as : AS} {i : Nat} {b : B}, SlotsR K W σ as → as[i]? = some (some b) → ∃ v, σ[i]? = some (some v) ∧ BR K W v b
  | _, _, _, _, .nil, e => by simp at e
  | _, _, 0, _, .any _, e => by simp at e
  | _, _, 0, _, .cons h _, e => by simp at e; subst e; exact ⟨_, rfl, h⟩
  | _, _, i + 1, b, .any t, e => by
    obtain ⟨u, h1, h2⟩ := SlotsR.get (i := i) (b := b) t (by simpa using e)
    exact ⟨u, by simpa using h1, h2⟩
  | _, _, i + 1, b, .cons _ t, e => by
    obtain ⟨u, h1, h2⟩ := SlotsR.get (i := i) (b := b) t (by simpa using e)
    exact ⟨u, by simpa using h1, h2⟩
theorem SlotsR.set {v : V} {b : B} (h : BR K W v b) : ∀ {σ : L2.St} {as : AS} (i : Nat), SlotsR K W σ as → SlotsR K W (σ.set i (some v)) (as.set i (some b))
  | _, _, _, .nil => .nil
  | _, _, 0, .any r => .cons h r
  | _, _, 0, .cons _ r => .cons h r
  | _, _, i + 1, .any r => .any (SlotsR.set h i r)
  | _, _, i + 1, .cons q r => .cons q (SlotsR.set h i r)
theorem SlotsR.start : ∀ {vs : List V} {bs : List B} (n : Nat), BRs K W vs bs → SlotsR K W (vs.map some ++ List.replicate n none) (bs.map some ++ List.replicate n none)
  | _, _, 0, .nil => .nil
  | _, _, n + 1, .nil => .any (SlotsR.start n .nil)
  | _, _, n, .cons h r => .cons h (SlotsR.start n r)
theorem Wok.ne {l : Addr} (ok : Wok K W os) (hl : l ∈ W.ls) {p : Addr} (hp : W.H p = none) : l ≠ p := fun e => by
  subst e; exact ok.has l hl hp
theorem Ex.upd2 {G H : Hp} {p : Addr} {o : HO} (e : Ex G H) : Ex (upd G p o) (upd H p o) := fun a u h => by
  by_cases q : a = p
  · subst q; rw [upd_same] at h ⊢; exact h
  · rw [upd_ne q] at h ⊢; exact e a u h
theorem Ex.up {G H : Hp} {p : Addr} {o : HO} (e : Ex G H) (hp : G p = none) : Ex G (upd H p o) := fun a u h => by
  rw [upd_ne (ne_of_none h hp)]; exact e a u h
/-- the pieces of an owned object, wherever the ghost grows off it and the object stands -/
theorem OR.keep {l : Addr} {o : OB} (h : OR K W l o) (g : Ex W.G W'.G) (n : W.G l = none → W'.G l = none) (e : W'.H l = W.H l) : OR K W' l o := by
  cases o with
  | lst xs => obtain ⟨a, vs, b, c⟩ := h; exact ⟨n a, vs, e.trans b, c.mono g⟩
  | dic xs => obtain ⟨a, vs, b, c⟩ := h; exact ⟨n a, vs, e.trans b, c.mono g⟩
  | ins C gs => obtain ⟨a, dx, fs, b, c⟩ := h; exact ⟨n a, dx, fs, e.trans b, c.mono g⟩
  | dead => trivial
theorem Wok.free (ok : Wok K W os) {p : Addr} (hp : W.H p = none) : W.G p = none := by
  cases e : W.G p with
  | none => rfl
  | some o => rw [ok.sub p o e] at hp; cases hp
/-- a new plain object -/
theorem Wok.new (ok : Wok K W os) {p : Addr} (hp : W.H p = none) (o : HO) : Wok K ⟨upd W.G p o, upd W.H p o, W.ls⟩ os ∧ Sn W ⟨upd W.G p o, upd W.H p o, W.ls⟩ := by
  have hg := ok.free hp
  refine ⟨⟨Ex.upd2 ok.sub, ok.len, ok.nd, fun l hl => ?_, fun k l q h1 h2 => ?_⟩, ⟨Ex.new hg, fun a u h _ => ?_, fun a h _ n => ?_, fun _ _ h => h, fun k l h q => ?_, fun a h => ?_⟩⟩
  · show upd W.H p o l ≠ none
    rw [upd_ne (ok.ne hl hp)]; exact ok.has l hl
  · have hn := ok.ne (List.mem_of_getElem? h1) hp
    refine (ok.own k l q h1 h2).keep (Ex.new hg) (fun z => ?_) ?_
    · show upd W.G p o l = none
      rw [upd_ne hn]; exact z
    · show upd W.H p o l = W.H l
      rw [upd_ne hn]
  · show upd W.H p o a = some u
    rw [upd_ne (ne_of_none h hp)]; exact h
  · show upd W.G p o a = none
    rw [upd_ne (fun z => h (by rw [z]; exact hp))]; exact n
  · have := (List.getElem?_eq_some_iff.mp h).1
    exact absurd this (by show ¬ k < W.ls.length; omega)
  · show upd W.H p o a ≠ none
    rw [upd_ne (fun z => h (by rw [z]; exact hp))]; exact h
/-- a new owned object -/
theorem Wok.newO (ok : Wok K W os) {p : Addr} (hp : W.H p = none) {o : HO} {ob : OB} (hw : OR K ⟨W.G, upd W.H p o, W.ls ++ [p]⟩ p ob) : Wok K ⟨W.G, upd W.H p o, W.ls ++ [p]⟩ (os ++ [ob]) ∧ Sn W ⟨W.G, upd W.H p o, W.ls ++ [p]⟩ := by
  have hg := ok.free hp
  have hnp : p ∉ W.ls := fun h => ok.has p h hp
  refine ⟨⟨Ex.up ok.sub hg, by simp [ok.len], ?_, fun l hl => ?_, fun k l q h1 h2 => ?_⟩, ⟨Ex.refl _, fun a u h _ => ?_, fun a h _ n => n, fun k l h => ?_, fun k l h q => ?_, fun a h => ?_⟩⟩
  · show (W.ls ++ [p]).Nodup
    rw [List.nodup_append]
    refine ⟨ok.nd, by simp, fun a ha b hb => ?_⟩
    have hb' : b = p := by simpa using hb
    subst hb'
    exact fun z => hnp (z ▸ ha)
  · show upd W.H p o l ≠ none
    by_cases z : l = p
    · subst z; rw [upd_same]; simp
    · rw [upd_ne z]
      have hl' : l ∈ W.ls ++ [p] := hl
      rw [List.mem_append] at hl'
      rcases hl' with hl' | hl'
      · exact ok.has l hl'
      · exact absurd (by simpa using hl') z
  · have h1' : (W.ls ++ [p])[k]? = some l := h1
    by_cases hk : k < W.ls.length
    · rw [List.getElem?_append_left hk] at h1'
      rw [List.getElem?_append_left (by rw [← ok.len]; exact hk)] at h2
      have hn := ok.ne (List.mem_of_getElem? h1') hp
      exact (ok.own k l q h1' h2).keep (Ex.refl _) (fun z => z) (by show upd W.H p o l = W.H l; rw [upd_ne hn])
    · have hk' : k = W.ls.length := by
        have := (List.getElem?_eq_some_iff.mp h1').1
        simp at this; omega
      subst hk'
      rw [List.getElem?_append_right (Nat.le_refl _)] at h1'
      rw [ok.len, List.getElem?_append_right (Nat.le_refl _)] at h2
      simp at h1' h2
      subst h1' h2
      exact hw
  · show upd W.H p o a = some u
    rw [upd_ne (ne_of_none h hp)]; exact h
  · show (W.ls ++ [p])[k]? = some l
    rw [List.getElem?_append_left (List.getElem?_eq_some_iff.mp h).1]; exact h
  · have h' : (W.ls ++ [p])[k]? = some l := h
    rw [List.getElem?_append_right q] at h'
    have hk : k - W.ls.length < 1 := (List.getElem?_eq_some_iff.mp h').1
    have hk' : k - W.ls.length = 0 := by omega
    rw [hk'] at h'
    simp at h'
    subst h'; exact hp
  · show upd W.H p o a ≠ none
    rw [upd_ne (fun z => h (by rw [z]; exact hp))]; exact h
/-- an owned object is changed -/
theorem Wok.mut (ok : Wok K W os) {k : Nat} {l : Addr} (hl : W.ls[k]? = some l) {o : HO} {ob : OB} (hg : W.G l = none) (hw : OR K ⟨W.G, upd W.H l o, W.ls⟩ l ob) : Wok K ⟨W.G, upd W.H l o, W.ls⟩ (os.set k ob) ∧ Sn W ⟨W.G, upd W.H l o, W.ls⟩ := by
  have hlm := List.mem_of_getElem? hl
  refine ⟨⟨Ex.up ok.sub hg, by simp [ok.len], ok.nd, fun x hx => ?_, fun j x q h1 h2 => ?_⟩, ⟨Ex.refl _, fun a u h n => ?_, fun a h _ n => n, fun _ _ h => h, fun j x h q => ?_, fun a h => ?_⟩⟩
  · show upd W.H l o x ≠ none
    by_cases z : x = l
    · subst z; rw [upd_same]; simp
    · rw [upd_ne z]; exact ok.has x hx
  · by_cases z : j = k
    · subst z
      have e : x = l := by
        have h1' : W.ls[j]? = some x := h1
        rw [hl] at h1'; exact (Option.some.inj h1').symm
      subst e
      have hk : j < os.length := by
        have := (List.getElem?_eq_some_iff.mp h2).1
        simpa using this
      rw [List.getElem?_set_self hk] at h2
      cases h2
      exact hw
    · rw [List.getElem?_set_ne (fun y => z y.symm)] at h2
      have hx : x ≠ l := fun y => by
        subst y
        have h1' : W.ls[j]? = some x := h1
        exact z ((List.getElem?_inj (List.getElem?_eq_some_iff.mp h1').1 ok.nd).mp (h1'.trans hl.symm))
      exact (ok.own j x q h1 h2).keep (Ex.refl _) (fun y => y) (by show upd W.H l o x = W.H x; rw [upd_ne hx])
  · show upd W.H l o a = some u
    rw [upd_ne (fun z => n (by rw [z]; exact hlm))]; exact h
  · have := (List.getElem?_eq_some_iff.mp h).1
    exact absurd this (by show ¬ j < W.ls.length; omega)
  · show upd W.H l o a ≠ none
    by_cases z : a = l
    · subst z; rw [upd_same]; simp
    · rw [upd_ne z]; exact h
end
end AB

end

section
set_option Elab.async false
set_option linter.all false
set_option maxRecDepth 100000
set_option maxHeartbeats 4000000
namespace AB
open PySem PySem.Spec PyProof.Rows L2 Evl
/-! ### readings over plain data -/
abbrev ATE := AS → OS → (B → OS → Prop) → Prop
abbrev ATT := AS → OS → (Bool → OS → Prop) → Prop
abbrev ATA := AS → OS → (List B → OS → Prop) → Prop
abbrev AR2 := B → B → OS → (B → OS → Prop) → Prop
def cE (K : PySem.W.Frag) (t : ATE) : TE := fun σ H Q => ∃ (W : Wd) (as : AS) (os : OS) (κ : B → OS → Prop), W.H = H ∧ Wok K W os ∧ SlotsR K W σ as ∧ t as os κ ∧
  ∀ v W' os' b, Sn W W' → Wok K W' os' → BR K W' v b → κ b os' → Q v W'.H
def cT (K : PySem.W.Frag) (t : ATT) : TT := fun σ H Q => ∃ (W : Wd) (as : AS) (os : OS) (κ : Bool → OS → Prop), W.H = H ∧ Wok K W os ∧ SlotsR K W σ as ∧ t as os κ ∧
  ∀ b W' os', Sn W W' → Wok K W' os' → κ b os' → Q b W'.H
def cA (K : PySem.W.Frag) (t : ATA) : TA := fun σ H Q => ∃ (W : Wd) (as : AS) (os : OS) (κ : List B → OS → Prop), W.H = H ∧ Wok K W os ∧ SlotsR K W σ as ∧ t as os κ ∧
  ∀ vs W' os' bs, Sn W W' → Wok K W' os' → BRs K W' vs bs → κ bs os' → Q vs W'.H
def cR (K : PySem.W.Frag) (R : AR2) : R2 := fun vx vy H Q => ∃ (W : Wd) (os : OS) (x y : B) (κ : B → OS → Prop), W.H = H ∧ Wok K W os ∧ BR K W vx x ∧ BR K W vy y ∧ R x y os κ ∧
  ∀ v W' os' b, Sn W W' → Wok K W' os' → BR K W' v b → κ b os' → Q v W'.H
def cU (K : PySem.W.Frag) (R : B → OS → (B → OS → Prop) → Prop) : V → Hp → VK → Prop := fun vx H Q => ∃ (W : Wd) (os : OS) (x : B) (κ : B → OS → Prop), W.H = H ∧ Wok K W os ∧ BR K W vx x ∧ R x os κ ∧
  ∀ v W' os' b, Sn W W' → Wok K W' os' → BR K W' v b → κ b os' → Q v W'.H
def cL (K : PySem.W.Frag) (R : List B → OS → (B → OS → Prop) → Prop) : List V → Hp → VK → Prop := fun vs H Q => ∃ (W : Wd) (os : OS) (bs : List B) (κ : B → OS → Prop), W.H = H ∧ Wok K W os ∧ BRs K W vs bs ∧ R bs os κ ∧
  ∀ v W' os' b, Sn W W' → Wok K W' os' → BR K W' v b → κ b os' → Q v W'.H
def AE (X : Cx) (e : Expr) (t : ATE) : Prop := PE X e (cE X.K t)
def AT (X : Cx) (e : Expr) (t : ATT) : Prop := PT X e (cT X.K t)
def AA (X : Cx) (es : List Expr) (t : ATA) : Prop := PA X es (cA X.K t)
theorem PEm {X : Cx} {e : Expr} {t t' : TE} (h : PE X e t) (m : ∀ σ H Q, t' σ H Q → t σ H Q) : PE X e t' := ⟨fun pins s σ H Q I q => h.run pins s σ H Q I (m σ H Q q)⟩
theorem PTm {X : Cx} {e : Expr} {t t' : TT} (h : PT X e t) (m : ∀ σ H Q, t' σ H Q → t σ H Q) : PT X e t' := ⟨fun pins s σ H Q I q => h.run pins s σ H Q I (m σ H Q q)⟩
theorem PWm {X : Cx} {e : Expr} {t t' : TT} (h : PW X e t) (m : ∀ σ H Q, t' σ H Q → t σ H Q) : PW X e t' := ⟨fun w pins s σ H Q I q => h.run w pins s σ H Q I (m σ H Q q)⟩
theorem PAm {X : Cx} {es : List Expr} {t t' : TA} (h : PA X es t) (m : ∀ σ H Q, t' σ H Q → t σ H Q) : PA X es t' := ⟨fun pos pins s σ H Q I q => h.run pos pins s σ H Q I (m σ H Q q)⟩

theorem iT {A B : Prop} (h : if true = true then A else B) : A := by rw [if_pos rfl] at h; exact h
theorem iF {A B : Prop} (h : if false = true then A else B) : B := by rw [if_neg Bool.false_ne_true] at h; exact h
theorem iB {K : PySem.W.Frag} {W : Wd} {c : Int} : BR K W (.int c) (.p (.int c)) := AR.int c
theorem sB {K : PySem.W.Frag} {W : Wd} {c : Str} : BR K W (.str c) (.p (.str c)) := AR.str c
theorem nB {K : PySem.W.Frag} {W : Wd} : BR K W .non (.p .non) := AR.non
theorem bB {K : PySem.W.Frag} {W : Wd} {c : Bool} : BR K W (.bl c) (.p (.bl c)) := AR.bl c
/-! ### leaves -/
def aVar (i : Nat) : ATE := fun as os κ => ∃ b, as[i]? = some (some b) ∧ κ b os
def aC (a : A) : ATE := fun _ os κ => κ (.p a) os
section
variable {X : Cx} {e a b c : Expr} {ta tb te : ATE} {pos : Pos}
theorem av (i : Nat) {x : Str} {pos : Pos} (hN : X.N[i]? = some x := by rfl) (hv : Vis X.env.scope x := by first | exact Or.inl rfl | exact Or.inr (Or.inl rfl) | exact Or.inr (Or.inr rfl)) (hd : (x == ("__debug__" : Str)) = false := by decide)
    (hcd : (x == ("__classdict__" : Str)) = false := by decide) : AE X (.Name x pos) (aVar i) := PEm (pe_var hN hv hd hcd) fun σ H Q h => by
  obtain ⟨W, as, os, κ, rfl, ok, sl, ⟨b, hb, k⟩, q⟩ := h
  obtain ⟨v, h1, h2⟩ := sl.get hb
  exact ⟨v, h1, q v W os b (Sn.refl W) ok h2 k⟩
theorem cE_c {K : PySem.W.Frag} {v : V} {x : A} (h : ∀ G, AR K G v x) {σ : L2.St} {H : Hp} {Q : VK} (q : cE K (aC x) σ H Q) : Q v H := by
  obtain ⟨W, as, os, κ, rfl, ok, sl, k, q⟩ := q
  exact q v W os (.p x) (Sn.refl W) ok (h W.G) k
theorem ae_int {i j pos} : AE X (.Constant (.int i) j pos) (aC (.int i)) := PEm pe_int fun _ _ _ h => cE_c (fun _ => .int i) h
theorem ae_bl {b j pos} : AE X (.Constant (.bool b) j pos) (aC (.bl b)) := PEm pe_bl fun _ _ _ h => cE_c (fun _ => .bl b) h
theorem ae_non {j pos} : AE X (.Constant .none j pos) (aC .non) := PEm pe_non fun _ _ _ h => cE_c (fun _ => .non) h
theorem ae_str {x j pos} : AE X (.Constant (.str x) j pos) (aC (.str x)) := PEm pe_str fun _ _ _ h => cE_c (fun _ => .str x) h
theorem ae_glob {x : Str} {v : V} {u : Value} {a : A} {pos : Pos} (hg : Gl X x) (hm : X.mg x = some u) (r : RelV v u) (h : ∀ G, AR X.K G v a) (hd : (x == ("__debug__" : Str)) = false := by decide) : AE X (.Name x pos) (aC a) :=
  PEm (pe_glob hg hm r hd) fun _ _ _ q => cE_c h q
theorem ae_bltn {x : Str} {v : V} {u : Value} {pos : Pos} (hg : Gl X x) (hm : X.mg x = none) (hv : bootBuiltins x = some u) (r : RelV v u) (hn : x ≠ "__name__" := by decide) (hd : (x == ("__debug__" : Str)) = false := by decide) : AE X (.Name x pos) (aC (.val v)) :=
  PEm (pe_bltn hg hm hv r hn hd) fun _ _ _ q => cE_c (fun _ => .val v) q
/-- two ways for one expression -/
theorem ae_or {t1 t2 : ATE} (h1 : AE X e t1) (h2 : AE X e t2) : AE X e (fun as os κ => t1 as os κ ∨ t2 as os κ) := ⟨fun pins s σ H Q I h => by
  obtain ⟨W, as, os, κ, rfl, ok, sl, k, q⟩ := h
  rcases k with k | k
  · exact h1.run pins s σ _ Q I ⟨W, as, os, κ, rfl, ok, sl, k, q⟩
  · exact h2.run pins s σ _ Q I ⟨W, as, os, κ, rfl, ok, sl, k, q⟩⟩

/-! ### operators -/
def aOp (R : AR2) (ta tb : ATE) : ATE := fun as os κ => ta as os fun x os1 => tb as os1 fun y os2 => R x y os2 κ
theorem cE_op {K : PySem.W.Frag} {R : AR2} {σ : L2.St} {H : Hp} {Q : VK} (h : cE K (aOp R ta tb) σ H Q) : tOp (cR K R) (cE K ta) (cE K tb) σ H Q := by
  obtain ⟨W, as, os, κ, rfl, ok, sl, h, q⟩ := h
  refine ⟨W, as, os, _, rfl, ok, sl, h, fun vx W1 os1 bx s1 ok1 rx h1 => ?_⟩
  refine ⟨W1, as, os1, _, rfl, ok1, sl.mono s1, h1, fun vy W2 os2 by' s2 ok2 ry h2 => ?_⟩
  exact ⟨W2, os2, bx, by', κ, rfl, ok2, rx.mono s2, ry, h2, fun v W3 os3 b s3 ok3 r3 k3 => q _ _ _ _ ((s1.trans s2).trans s3) ok3 r3 k3⟩
def OA (X : Cx) (f : Value → Value → Sem Value) (R : AR2) : Prop := OpR X f (cR X.K R)
theorem ae_op {op : Operator} {R : AR2} (ho : OA X (binaryOp op) R) (ha : AE X a ta) (hb : AE X b tb) : AE X (.BinOp a op b pos) (aOp R ta tb) := PEm (pe_op ho ha hb) fun _ _ _ h => cE_op h
theorem ae_cmp {op : CmpOp} {R : AR2} (ho : OA X (compareOp op) R) (ha : AE X a ta) (hb : AE X b tb) (hm : behindInMarks op b = false := by first | exact nobehind _ (by decide) (by decide) | rfl) : AE X (.Compare a [op] [b] pos) (aOp R ta tb) := PEm (pe_cmpR ho ha hb hm) fun _ _ _ h => cE_op h
/-- a test that is an expression's truth value -/
def aB (te : ATE) : ATT := fun as os κ => te as os fun x os1 => ∃ c, x = .p (.bl c) ∧ κ c os1
theorem BR.bl {K : PySem.W.Frag} {W : Wd} {v : V} {c : Bool} (h : BR K W v (.p (.bl c))) : v = .bl c := by cases h; rfl
theorem BR.int {K : PySem.W.Frag} {W : Wd} {v : V} {c : Int} (h : BR K W v (.p (.int c))) : v = .int c := by cases h; rfl
theorem BR.str {K : PySem.W.Frag} {W : Wd} {v : V} {c : Str} (h : BR K W v (.p (.str c))) : v = .str c := by cases h; rfl
theorem BR.non {K : PySem.W.Frag} {W : Wd} {v : V} (h : BR K W v (.p .non)) : v = .non := by cases h; rfl
theorem BR.val {K : PySem.W.Frag} {W : Wd} {v u : V} (h : BR K W v (.p (.val u))) : v = u := by cases h; rfl
theorem at_val (h : AE X e te) (he : ∀ whole, isTrue e X.env whole = (do let v ← whole; standAt e.pos; holding [v] (truthy v)) := by intro _; rfl) : AT X e (aB te) := PTm (pt_val h he) fun σ H Q q => by
  obtain ⟨W, as, os, κ, rfl, ok, sl, k, q⟩ := q
  refine ⟨W, as, os, _, rfl, ok, sl, k, fun v W1 os1 b s1 ok1 r1 ⟨c, hc, k1⟩ => ?_⟩
  subst hc
  exact ⟨c, r1.bl, q c W1 os1 s1 ok1 k1⟩
theorem at_cmp {op : CmpOp} {R : AR2} (ho : OA X (compareOp op) R) (ha : AE X a ta) (hb : AE X b tb) (hm : behindInMarks op b = false := by first | exact nobehind _ (by decide) (by decide) | rfl) : AT X (.Compare a [op] [b] pos) (aB (aOp R ta tb)) :=
  PTm (pt_cmpR ho ha hb hm) fun σ H Q q => by
  obtain ⟨W, as, os, κ, rfl, ok, sl, k, q⟩ := q
  refine ⟨W, as, os, _, rfl, ok, sl, k, fun vx W1 os1 bx s1 ok1 rx h1 => ?_⟩
  refine ⟨W1, as, os1, _, rfl, ok1, sl.mono s1, h1, fun vy W2 os2 by' s2 ok2 ry h2 => ?_⟩
  refine ⟨W2, os2, bx, by', _, rfl, ok2, rx.mono s2, ry, h2, fun v W3 os3 b s3 ok3 r3 ⟨c, hc, k3⟩ => ?_⟩
  subst hc
  exact ⟨c, r3.bl, q _ _ _ ((s1.trans s2).trans s3) ok3 k3⟩
/-- a < b < c -/
def aChain (R R' : AR2) (ta tb tc : ATE) : ATE := fun as os κ => ta as os fun x os1 => tb as os1 fun y os2 => R x y os2 fun z os3 => ∃ k, z = .p (.bl k) ∧ if k = true then tc as os3 fun w os4 => R' y w os4 κ else κ (.p (.bl false)) os3
theorem ae_chain {op op' : CmpOp} {R R' : AR2} {tc : ATE} (ho : OA X (compareOp op) R) (ho' : OA X (compareOp op') R') (ha : AE X a ta) (hb : AE X b tb) (hc : AE X c tc) (hm : lastMarks [op, op'] [b, c] = false := by with_unfolding_all rfl) : AE X (.Compare a [op, op'] [b, c] pos) (aChain R R' ta tb tc) :=
  PEm (pe_chain ho ho' ha hb hc hm) fun σ H Q q => by
  obtain ⟨W, as, os, κ, rfl, ok, sl, k, q⟩ := q
  refine ⟨W, as, os, _, rfl, ok, sl, k, fun vx W1 os1 bx s1 ok1 rx h1 => ?_⟩
  refine ⟨W1, as, os1, _, rfl, ok1, sl.mono s1, h1, fun vy W2 os2 by' s2 ok2 ry h2 => ?_⟩
  refine ⟨W2, os2, bx, by', _, rfl, ok2, rx.mono s2, ry, h2, fun v W3 os3 b s3 ok3 r3 ⟨c, hc, k3⟩ => ?_⟩
  subst hc
  refine ⟨c, r3.bl, ?_⟩
  cases c with
  | true =>
    refine iteT ?_
    have k4 := iT k3
    refine ⟨W3, as, os3, _, rfl, ok3, sl.mono ((s1.trans s2).trans s3), k4, fun vz W4 os4 bz s4 ok4 rz h4 => ?_⟩
    exact ⟨W4, os4, by', bz, κ, rfl, ok4, ry.mono (s3.trans s4), rz, h4, fun v W5 os5 b s5 ok5 r5 k5 => q _ _ _ _ ((((s1.trans s2).trans s3).trans s4).trans s5) ok5 r5 k5⟩
  | false =>
    refine iteF ?_
    have k4 := iF k3
    exact q _ _ _ _ ((s1.trans s2).trans s3) ok3 bB k4
/-! ### and, or, not, if -/
def aAndV (ta tb : ATE) : ATE := fun as os κ => ta as os fun x os1 => ∃ c, x = .p (.bl c) ∧ if c = true then tb as os1 κ else κ (.p (.bl false)) os1
def aOrV (ta tb : ATE) : ATE := fun as os κ => ta as os fun x os1 => ∃ c, x = .p (.bl c) ∧ if c = true then κ (.p (.bl true)) os1 else tb as os1 κ
def aNotV (ta : ATE) : ATE := fun as os κ => ta as os fun x os1 => ∃ c, x = .p (.bl c) ∧ κ (.p (.bl (!c))) os1
def aAnd (ta tb : ATT) : ATT := fun as os κ => ta as os fun c os1 => if c = true then tb as os1 κ else κ false os1
def aOr (ta tb : ATT) : ATT := fun as os κ => ta as os fun c os1 => if c = true then κ true os1 else tb as os1 κ
def aNot (ta : ATT) : ATT := fun as os κ => ta as os fun c os1 => κ (!c) os1
def aIf (t : ATT) (ta tb : ATE) : ATE := fun as os κ => t as os fun c os1 => if c = true then ta as os1 κ else tb as os1 κ
theorem ae_one {op} (h : AE X a ta) : AE X (.BoolOp op [a] pos) ta := pe_one h
theorem ae_and {rest : List Expr} (ha : AE X a ta) (hb : AE X (.BoolOp .And (b :: rest) pos) tb) : AE X (.BoolOp .And (a :: b :: rest) pos) (aAndV ta tb) := PEm (pe_and ha hb) fun σ H Q q => by
  obtain ⟨W, as, os, κ, rfl, ok, sl, k, q⟩ := q
  refine ⟨W, as, os, _, rfl, ok, sl, k, fun vx W1 os1 bx s1 ok1 rx ⟨c, hc, h1⟩ => ?_⟩
  subst hc
  refine ⟨c, rx.bl, ?_⟩
  cases c with
  | true => exact iteT ⟨W1, as, os1, _, rfl, ok1, sl.mono s1, (iT h1), fun v W2 os2 b s2 ok2 r2 k2 => q _ _ _ _ (s1.trans s2) ok2 r2 k2⟩
  | false => exact iteF (q _ _ _ _ s1 ok1 bB (iF h1))
theorem ae_orV {rest : List Expr} (ha : AE X a ta) (hb : AE X (.BoolOp .Or (b :: rest) pos) tb) : AE X (.BoolOp .Or (a :: b :: rest) pos) (aOrV ta tb) := PEm (pe_or ha hb) fun σ H Q q => by
  obtain ⟨W, as, os, κ, rfl, ok, sl, k, q⟩ := q
  refine ⟨W, as, os, _, rfl, ok, sl, k, fun vx W1 os1 bx s1 ok1 rx ⟨c, hc, h1⟩ => ?_⟩
  subst hc
  refine ⟨c, rx.bl, ?_⟩
  cases c with
  | true => exact iteT (q _ _ _ _ s1 ok1 bB (iT h1))
  | false => exact iteF ⟨W1, as, os1, _, rfl, ok1, sl.mono s1, (iF h1), fun v W2 os2 b s2 ok2 r2 k2 => q _ _ _ _ (s1.trans s2) ok2 r2 k2⟩
theorem ae_not (ha : AE X a ta) : AE X (.UnaryOp .Not a pos) (aNotV ta) := PEm (pe_not ha) fun σ H Q q => by
  obtain ⟨W, as, os, κ, rfl, ok, sl, k, q⟩ := q
  refine ⟨W, as, os, _, rfl, ok, sl, k, fun vx W1 os1 bx s1 ok1 rx ⟨c, hc, h1⟩ => ?_⟩
  subst hc
  exact ⟨c, rx.bl, q _ _ _ _ s1 ok1 bB h1⟩
/-- a test, whatever its whole is -/
def AW (X : Cx) (e : Expr) (t : ATT) : Prop := PW X e (cT X.K t)
theorem AW.at {t : ATT} (h : AW X e t) : AT X e t := PW.pt h
theorem aw_and1 {t : ATT} (h : AT X a t) : AW X (.BoolOp .And [a] pos) t := pw_and1 h
theorem aw_or1 {t : ATT} (h : AT X a t) : AW X (.BoolOp .Or [a] pos) t := pw_or1 h
theorem aw_and {t u : ATT} {rest : List Expr} (ha : AT X a t) (hb : AW X (.BoolOp .And (b :: rest) pos) u) : AW X (.BoolOp .And (a :: b :: rest) pos) (aAnd t u) := PWm (pw_and ha hb) fun σ H Q q => by
  obtain ⟨W, as, os, κ, rfl, ok, sl, k, q⟩ := q
  refine ⟨W, as, os, _, rfl, ok, sl, k, fun c W1 os1 s1 ok1 h1 => ?_⟩
  cases c with
  | true => exact iteT ⟨W1, as, os1, _, rfl, ok1, sl.mono s1, (iT h1), fun b W2 os2 s2 ok2 k2 => q _ _ _ (s1.trans s2) ok2 k2⟩
  | false => exact iteF (q _ _ _ s1 ok1 (iF h1))
theorem aw_or {t u : ATT} {rest : List Expr} (ha : AT X a t) (hb : AW X (.BoolOp .Or (b :: rest) pos) u) : AW X (.BoolOp .Or (a :: b :: rest) pos) (aOr t u) := PWm (pw_or ha hb) fun σ H Q q => by
  obtain ⟨W, as, os, κ, rfl, ok, sl, k, q⟩ := q
  refine ⟨W, as, os, _, rfl, ok, sl, k, fun c W1 os1 s1 ok1 h1 => ?_⟩
  cases c with
  | true => exact iteT (q _ _ _ s1 ok1 (iT h1))
  | false => exact iteF ⟨W1, as, os1, _, rfl, ok1, sl.mono s1, (iF h1), fun b W2 os2 s2 ok2 k2 => q _ _ _ (s1.trans s2) ok2 k2⟩
theorem at_not {t : ATT} (ha : AT X a t) : AT X (.UnaryOp .Not a pos) (aNot t) := PTm (pt_not ha) fun σ H Q q => by
  obtain ⟨W, as, os, κ, rfl, ok, sl, k, q⟩ := q
  exact ⟨W, as, os, _, rfl, ok, sl, k, fun c W1 os1 s1 ok1 h1 => q _ _ _ s1 ok1 h1⟩
theorem ae_if {t : ATT} (hc : AT X c t) (ha : AE X a ta) (hb : AE X b tb) : AE X (.IfExp c a b pos) (aIf t ta tb) := PEm (pe_ifExp hc ha hb) fun σ H Q q => by
  obtain ⟨W, as, os, κ, rfl, ok, sl, k, q⟩ := q
  refine ⟨W, as, os, _, rfl, ok, sl, k, fun c W1 os1 s1 ok1 h1 => ?_⟩
  cases c with
  | true => exact iteT ⟨W1, as, os1, _, rfl, ok1, sl.mono s1, (iT h1), fun v W2 os2 b s2 ok2 r2 k2 => q _ _ _ _ (s1.trans s2) ok2 r2 k2⟩
  | false => exact iteF ⟨W1, as, os1, _, rfl, ok1, sl.mono s1, (iF h1), fun v W2 os2 b s2 ok2 r2 k2 => q _ _ _ _ (s1.trans s2) ok2 r2 k2⟩
/-! ### displays, arguments -/
def aNil : ATA := fun _ os κ => κ [] os
def aCons (ta : ATE) (tr : ATA) : ATA := fun as os κ => ta as os fun x os1 => tr as os1 fun xs os2 => κ (x :: xs) os2
theorem aa_nil : AA X [] aNil := PAm pa_nil fun σ H Q q => by
  obtain ⟨W, as, os, κ, rfl, ok, sl, k, q⟩ := q
  exact q _ _ _ _ (Sn.refl W) ok .nil k
theorem aa_cons {es : List Expr} {t : ATA} (ha : AE X e te) (hr : AA X es t) (hs : starEach (e :: es) X.env = (false, eval e X.env) :: starEach es X.env := by rfl) : AA X (e :: es) (aCons te t) := PAm (pa_cons ha hr hs) fun σ H Q q => by
  obtain ⟨W, as, os, κ, rfl, ok, sl, k, q⟩ := q
  refine ⟨W, as, os, _, rfl, ok, sl, k, fun vx W1 os1 bx s1 ok1 rx h1 => ?_⟩
  refine ⟨W1, as, os1, _, rfl, ok1, sl.mono s1, h1, fun vs W2 os2 bs s2 ok2 rs h2 => ?_⟩
  exact q _ _ _ _ (s1.trans s2) ok2 (.cons (rx.mono s2) rs) h2
def aTup (t : ATA) : ATE := fun as os κ => t as os fun bs os1 => ∃ xs, bs = xs.map B.p ∧ xs.length ≤ sizeLine ∧ κ (.p (.tup xs)) os1
def aLst (t : ATA) : ATE := fun as os κ => t as os fun bs os1 => ∃ xs, bs = xs.map B.p ∧ xs.length ≤ sizeLine ∧ κ (.p (.lst xs)) os1
/-- a display that is owned -/
def aLstO (t : ATA) : ATE := fun as os κ => t as os fun bs os1 => ∃ xs, bs = xs.map B.p ∧ xs.length ≤ sizeLine ∧ κ (.own os1.length) (os1 ++ [.lst xs])
theorem newT {K : PySem.W.Frag} {W : Wd} {os : OS} (ok : Wok K W os) {p : Addr} (hp : W.H p = none) {vs : List V} {xs : List A} (r : ARs K W.G vs xs) :
    ∃ W', W'.H = upd W.H p (.tup vs) ∧ Wok K W' os ∧ Sn W W' ∧ BR K W' (.ref p) (.p (.tup xs)) := by
  obtain ⟨o, s⟩ := ok.new hp (.tup vs)
  exact ⟨_, rfl, o, s, .tup (.inl (.inl upd_same)) (r.mono s.g)⟩
theorem newL {K : PySem.W.Frag} {W : Wd} {os : OS} (ok : Wok K W os) {p : Addr} (hp : W.H p = none) {vs : List V} {xs : List A} (r : ARs K W.G vs xs) :
    ∃ W', W'.H = upd W.H p (.lst vs) ∧ Wok K W' os ∧ Sn W W' ∧ BR K W' (.ref p) (.p (.lst xs)) := by
  obtain ⟨o, s⟩ := ok.new hp (.lst vs)
  exact ⟨_, rfl, o, s, .lst upd_same (r.mono s.g)⟩
theorem newLO {K : PySem.W.Frag} {W : Wd} {os : OS} (ok : Wok K W os) {p : Addr} (hp : W.H p = none) {vs : List V} {xs : List A} (r : ARs K W.G vs xs) :
    ∃ W', W'.H = upd W.H p (.lst vs) ∧ Wok K W' (os ++ [.lst xs]) ∧ Sn W W' ∧ BR K W' (.ref p) (.own os.length) := by
  obtain ⟨o, s⟩ := ok.newO hp (o := .lst vs) (ob := .lst xs) ⟨ok.free hp, vs, upd_same, r⟩
  refine ⟨_, rfl, o, s, p, ?_, rfl⟩
  show (W.ls ++ [p])[os.length]? = some p
  rw [← ok.len, List.getElem?_append_right (Nat.le_refl _)]
  simp
theorem ae_tup {es : List Expr} {t : ATA} {x1} (h : AA X es t) : AE X (.Tuple es x1 pos) (aTup t) := PEm (pe_tup h) fun σ H Q q => by
  obtain ⟨W, as, os, κ, rfl, ok, sl, k, q⟩ := q
  refine ⟨W, as, os, _, rfl, ok, sl, k, fun vs W1 os1 bs s1 ok1 rs ⟨xs, hb, hl, h1⟩ => ?_⟩
  subst hb
  have rp := rs.pure'
  refine ⟨by rw [rp.length]; exact hl, fun p hp => ?_⟩
  obtain ⟨W2, e2, ok2, s2, r2⟩ := newT ok1 hp rp
  rw [← e2]
  exact q _ _ _ _ (s1.trans s2) ok2 r2 h1
theorem ae_lst {es : List Expr} {t : ATA} (h : AA X es t) : AE X (.List es pos) (aLst t) := PEm (pe_lst h) fun σ H Q q => by
  obtain ⟨W, as, os, κ, rfl, ok, sl, k, q⟩ := q
  refine ⟨W, as, os, _, rfl, ok, sl, k, fun vs W1 os1 bs s1 ok1 rs ⟨xs, hb, hl, h1⟩ => ?_⟩
  subst hb
  have rp := rs.pure'
  refine ⟨by rw [rp.length]; exact hl, fun p hp => ?_⟩
  obtain ⟨W2, e2, ok2, s2, r2⟩ := newL ok1 hp rp
  rw [← e2]
  exact q _ _ _ _ (s1.trans s2) ok2 r2 h1
theorem ae_lstO {es : List Expr} {t : ATA} (h : AA X es t) : AE X (.List es pos) (aLstO t) := PEm (pe_lst h) fun σ H Q q => by
  obtain ⟨W, as, os, κ, rfl, ok, sl, k, q⟩ := q
  refine ⟨W, as, os, _, rfl, ok, sl, k, fun vs W1 os1 bs s1 ok1 rs ⟨xs, hb, hl, h1⟩ => ?_⟩
  subst hb
  have rp := rs.pure'
  refine ⟨by rw [rp.length]; exact hl, fun p hp => ?_⟩
  obtain ⟨W2, e2, ok2, s2, r2⟩ := newLO ok1 hp rp
  rw [← e2]
  exact q _ _ _ _ (s1.trans s2) ok2 r2 h1
/-! ### built-ins by name -/
def aCB (R : List B → OS → (B → OS → Prop) → Prop) (t : ATA) : ATE := fun as os κ => t as os fun bs os1 => R bs os1 κ
def CA (X : Cx) (f : Value) (R : List B → OS → (B → OS → Prop) → Prop) : Prop := CallR X f (cL X.K R)
theorem cE_cb {K : PySem.W.Frag} {R : List B → OS → (B → OS → Prop) → Prop} {t : ATA} {σ : L2.St} {H : Hp} {Q : VK} (h : cE K (aCB R t) σ H Q) : tCB (cL K R) (cA K t) σ H Q := by
  obtain ⟨W, as, os, κ, rfl, ok, sl, k, q⟩ := h
  refine ⟨W, as, os, _, rfl, ok, sl, k, fun vs W1 os1 bs s1 ok1 rs h1 => ?_⟩
  exact ⟨W1, os1, bs, κ, rfl, ok1, rs, h1, fun v W2 os2 b s2 ok2 r2 k2 => q _ _ _ _ (s1.trans s2) ok2 r2 k2⟩
end
end AB

end

section
set_option Elab.async false
set_option linter.all false
set_option maxRecDepth 100000
set_option maxHeartbeats 4000000
namespace AB
open PySem PySem.Spec PyProof.Rows L2 Evl PySem.SeqAt
/-! ### what a value is, owned or not -/
def dr (os : OS) : B → Option A
  | .p a => some a
  | .own k => match os[k]? with
    | some (.lst xs) => some (.lst xs)
    | some (.dic kvs) => some (.dic kvs)
    | some (.ins C fs) => some (.ins C fs)
    | _ => none
def flatA : A → Bool
  | .non => true | .bl _ => true | .int _ => true | .str _ => true | _ => false
def tV : A → V
  | .bl b => .bl b | .int i => .int i | .str s => .str s | _ => .non
theorem ARk.length {K : PySem.W.Frag} {G : Hp} : ∀ {vs : List (Key × V)} {xs : List (Key × A)}, ARk K G vs xs → vs.length = xs.length
  | _, _, .nil => rfl
  | _, _, .cons _ r => congrArg (· + 1) (ARk.length r)
section
variable {K : PySem.W.Frag} {W : Wd} {os : OS} {v : V} {b : B}
theorem dr_own {k : Nat} {a : A} (h : dr os (.own k) = some a) : ∃ o, os[k]? = some o ∧ ((∃ xs, o = .lst xs ∧ a = .lst xs) ∨ (∃ xs, o = .dic xs ∧ a = .dic xs) ∨ ∃ C xs, o = .ins C xs ∧ a = .ins C xs) := by
  show _
  change (match os[k]? with
    | some (.lst xs) => some (A.lst xs)
    | some (.dic kvs) => some (.dic kvs)
    | some (.ins C fs) => some (.ins C fs)
    | _ => none) = some a at h
  cases e : os[k]? with
  | none => rw [e] at h; cases h
  | some o =>
    rw [e] at h
    cases o with
    | lst xs => cases h; exact ⟨_, rfl, .inl ⟨_, rfl, rfl⟩⟩
    | dic xs => cases h; exact ⟨_, rfl, .inr (.inl ⟨_, rfl, rfl⟩)⟩
    | ins C xs => cases h; exact ⟨_, rfl, .inr (.inr ⟨_, _, rfl, rfl⟩)⟩
    | dead => cases h
theorem dr_lst {xs : List A} (ok : Wok K W os) (r : BR K W v b) (h : dr os b = some (.lst xs)) : ∃ p vs, v = .ref p ∧ W.H p = some (.lst vs) ∧ ARs K W.G vs xs := by
  cases b with
  | p a => cases h; cases r with | lst h r => exact ⟨_, _, rfl, ok.sub _ _ h, r⟩
  | own k =>
    obtain ⟨l, hl, rfl⟩ := r
    obtain ⟨o, ho, ⟨ys, rfl, e⟩ | ⟨ys, rfl, e⟩ | ⟨C, ys, rfl, e⟩⟩ := dr_own h
    · cases e; obtain ⟨_, vs, h1, h2⟩ := ok.own k l _ hl ho; exact ⟨l, vs, rfl, h1, h2⟩
    · cases e
    · cases e
theorem dr_tup {xs : List A} (ok : Wok K W os) (r : BR K W v b) (h : dr os b = some (.tup xs)) : ∃ p vs, v = .ref p ∧ SqT K W.H p vs ∧ ARs K W.G vs xs := by
  cases b with
  | p a => cases h; cases r with | tup h r => exact ⟨_, _, rfl, ex_t ok.sub h, r⟩
  | own k => obtain ⟨o, ho, ⟨ys, rfl, e⟩ | ⟨ys, rfl, e⟩ | ⟨C, ys, rfl, e⟩⟩ := dr_own h <;> cases e
theorem dr_frz {xs : List A} (ok : Wok K W os) (r : BR K W v b) (h : dr os b = some (.frz xs)) : ∃ p o vs, v = .ref p ∧ W.H p = some (.frz o (.lst vs)) ∧ ARs K W.G vs xs := by
  cases b with
  | p a => cases h; cases r with | frz h r => exact ⟨_, _, _, rfl, ok.sub _ _ h, r⟩
  | own k => obtain ⟨o, ho, ⟨ys, rfl, e⟩ | ⟨ys, rfl, e⟩ | ⟨C, ys, rfl, e⟩⟩ := dr_own h <;> cases e
theorem dr_ins {C : String} {gs : List (Str × A)} (ok : Wok K W os) (r : BR K W v b) (h : dr os b = some (.ins C gs)) : ∃ p dx fs, v = .ref p ∧ W.H p = some (.ins (cAt K C) dx fs) ∧ ARf K W.G fs gs := by
  cases b with
  | p a => cases h; cases r with | ins h r => exact ⟨_, _, _, rfl, ok.sub _ _ h, r⟩
  | own k =>
    obtain ⟨l, hl, rfl⟩ := r
    obtain ⟨o, ho, ⟨ys, rfl, e⟩ | ⟨ys, rfl, e⟩ | ⟨D, ys, rfl, e⟩⟩ := dr_own h
    · cases e
    · cases e
    · cases e; obtain ⟨_, dx, fs, h1, h2⟩ := ok.own k l _ hl ho; exact ⟨l, dx, fs, rfl, h1, h2⟩
theorem dr_dic {kvs : List (Key × A)} (ok : Wok K W os) (r : BR K W v b) (h : dr os b = some (.dic kvs)) : ∃ p kw, v = .ref p ∧ W.H p = some (.dK kw) ∧ ARk K W.G kw kvs := by
  cases b with
  | p a => cases h; cases r with | dic h r => exact ⟨_, _, rfl, ok.sub _ _ h, r⟩
  | own k =>
    obtain ⟨l, hl, rfl⟩ := r
    obtain ⟨o, ho, ⟨ys, rfl, e⟩ | ⟨ys, rfl, e⟩ | ⟨D, ys, rfl, e⟩⟩ := dr_own h
    · cases e
    · cases e; obtain ⟨_, kw, h1, h2⟩ := ok.own k l _ hl ho; exact ⟨l, kw, rfl, h1, h2⟩
    · cases e
theorem AR.flat {G : Hp} {a : A} (r : AR K G v a) (f : flatA a = true) : v = tV a ∧ flatV v = true := by
  cases r <;> first | exact ⟨rfl, rfl⟩ | cases f
theorem dr_flat {a : A} (r : BR K W v b) (h : dr os b = some a) (f : flatA a = true) : v = tV a ∧ flatV v = true := by
  cases b with
  | p a' => cases h; exact AR.flat r f
  | own k => obtain ⟨o, ho, ⟨ys, rfl, rfl⟩ | ⟨ys, rfl, rfl⟩ | ⟨D, ys, rfl, rfl⟩⟩ := dr_own h <;> cases f
theorem ARs.flat {G : Hp} : ∀ {vs : List V} {xs : List A}, ARs K G vs xs → xs.all flatA = true → vs = xs.map tV ∧ vs.all flatV = true
  | _, _, .nil, _ => ⟨rfl, rfl⟩
  | _, _, .cons h t, f => by
    rw [List.all_cons, Bool.and_eq_true] at f
    obtain ⟨e1, e2⟩ := h.flat f.1
    obtain ⟨e3, e4⟩ := ARs.flat t f.2
    refine ⟨by rw [List.map_cons, e1, e3], ?_⟩
    rw [List.all_cons, e2, e4]
    rfl
theorem ARs.ints {G : Hp} {vs : List V} {ns : List Int} (h : ARs K G vs (ns.map A.int)) : vs = ns.map V.int := h.intL'
end

/-! ### + - * // % ** and comparisons -/
def oAdd : AR2 := fun x y os κ => match dr os x, dr os y with
  | some (.int i), some (.int j) => κ (.p (.int (i + j))) os
  | some (.str s), some (.str t) => s.length + t.length ≤ sizeLine ∧ κ (.p (.str (s ++ t))) os
  | some (.lst xs), some (.lst ys) => xs.length + ys.length ≤ sizeLine ∧ κ (.p (.lst (xs ++ ys))) os
  | some (.frz xs), some (.lst ys) => xs.length + ys.length ≤ sizeLine ∧ κ (.p (.lst (xs ++ ys))) os
  | some (.tup xs), some (.tup ys) => xs.length + ys.length ≤ sizeLine ∧ κ (.p (.tup (xs ++ ys))) os
  | _, _ => False
def oSub : AR2 := fun x y os κ => ∃ i j, dr os x = some (.int i) ∧ dr os y = some (.int j) ∧ κ (.p (.int (i - j))) os
def oMul : AR2 := fun x y os κ => match dr os x, dr os y with
  | some (.int i), some (.int j) => CMul i j ∧ κ (.p (.int (i * j))) os
  | some (.lst xs), some (.int k) => (-(2 ^ 63) ≤ k ∧ k < 2 ^ 63 ∧ xs.length * k.toNat ≤ sizeLine) ∧ κ (.p (.lst (List.replicate k.toNat xs).flatten)) os
  | _, _ => False
def oMod : AR2 := fun x y os κ => ∃ i j, dr os x = some (.int i) ∧ dr os y = some (.int j) ∧ 0 < j ∧ κ (.p (.int (i % j))) os
def oDiv : AR2 := fun x y os κ => ∃ i j, dr os x = some (.int i) ∧ dr os y = some (.int j) ∧ CDiv i j ∧ κ (.p (.int (i / j))) os
def oPow : AR2 := fun x y os κ => ∃ i j, dr os x = some (.int i) ∧ dr os y = some (.int j) ∧ CPow i j ∧ κ (.p (.int (i ^ j.toNat))) os
def oI (g : Int → Int → Bool) : AR2 := fun x y os κ => ∃ i j, dr os x = some (.int i) ∧ dr os y = some (.int j) ∧ κ (.p (.bl (g i j))) os
/-! data of any depth -/
mutual
def py : A → PyData
  | .bl b => .bool b
  | .int i => .int i
  | .str s => .str s
  | .lst xs => .list (pyL xs)
  | .tup xs => .tuple (pyL xs)
  | _ => .none
def pyL : List A → List PyData
  | [] => []
  | x :: xs => py x :: pyL xs
end
mutual
def isD : A → Bool
  | .non => true | .bl _ => true | .int _ => true | .str _ => true
  | .lst xs => isDL xs
  | .tup xs => isDL xs
  | _ => false
def isDL : List A → Bool
  | [] => true
  | x :: xs => isD x && isDL xs
end
theorem sqL_of {K : PySem.W.Frag} {H : Hp} {a : Addr} {xs : List V} (h : H a = some (.lst xs)) : SqL K H a xs := Or.inl (Or.inl h)
mutual
theorem AR.dp {K : PySem.W.Frag} {G H : Hp} (e : Ex G H) : ∀ {v : V} {a : A}, AR K G v a → isD a = true → Dp K H v (py a)
  | _, _, .non, _ => by unfold py; exact .non
  | _, _, .bl b, _ => by unfold py; exact .bl b
  | _, _, .int i, _ => by unfold py; exact .int i
  | _, _, .str s, _ => by unfold py; exact .str s
  | _, _, .lst h r, d => by unfold py; unfold isD at d; exact .lst (sqL_of (e _ _ h)) (ARs.dp e r d)
  | _, _, .tup h r, d => by unfold py; unfold isD at d; exact .tup (ex_t e h) (ARs.dp e r d)
  | _, _, .frz h r, d => by unfold isD at d; cases d
  | _, _, .dic h r, d => by unfold isD at d; cases d
  | _, _, .ins h r, d => by unfold isD at d; cases d
  | _, _, .val v, d => by unfold isD at d; cases d
theorem ARs.dp {K : PySem.W.Frag} {G H : Hp} (e : Ex G H) : ∀ {v : List V} {a : List A}, ARs K G v a → isDL a = true → DpAll K H v (pyL a)
  | _, _, .nil, _ => by unfold pyL; exact .nil
  | _, _, .cons h r, d => by
    unfold isDL at d
    rw [Bool.and_eq_true] at d
    unfold pyL
    exact .cons (AR.dp e h d.1) (ARs.dp e r d.2)
end
theorem dr_dp {K : PySem.W.Frag} {W : Wd} {os : OS} {v : V} {b : B} {a : A} (ok : Wok K W os) (r : BR K W v b) (h : dr os b = some a) (d : isD a = true) : Dp K W.H v (py a) := by
  cases b with
  | p a' => cases h; exact AR.dp ok.sub r d
  | own k =>
    obtain ⟨l, hl, rfl⟩ := r
    obtain ⟨o, ho, ⟨ys, rfl, rfl⟩ | ⟨ys, rfl, rfl⟩ | ⟨C, ys, rfl, rfl⟩⟩ := dr_own h
    · obtain ⟨_, vs, h1, h2⟩ := ok.own k l _ hl ho
      unfold py; unfold isD at d
      exact .lst (sqL_of h1) (ARs.dp ok.sub h2 d)
    · unfold isD at d; cases d
    · unfold isD at d; cases d
/-- == and != : scalars, or data of any depth -/
def oEq (neg : Bool) : AR2 := fun x y os κ => ∃ a c, dr os x = some a ∧ dr os y = some c ∧
  ((flatA a = true ∧ flatA c = true ∧ scal (tV a) (tV c) = true ∧ κ (.p (.bl (if neg then !decide (tV a = tV c) else decide (tV a = tV c)))) os) ∨
   (isD a = true ∧ isD c = true ∧ SeqAt.shaped (py a) = true ∧ SeqAt.shaped (py c) = true ∧ κ (.p (.bl (if neg then !PyData.eqv (py a) (py c) else PyData.eqv (py a) (py c)))) os) ∨
   ∃ xs, ((a = .lst xs ∧ c = .lst []) ∨ (a = .tup xs ∧ c = .tup [])) ∧ κ (.p (.bl (if neg then !xs.isEmpty else xs.isEmpty))) os)
def isN : A → Bool
  | .non => true
  | _ => false
def oIs (neg : Bool) : AR2 := fun x y os κ => ∃ a, y = .p .non ∧ dr os x = some a ∧ (∀ u, a ≠ .val u) ∧ κ (.p (.bl (if neg then !isN a else isN a))) os
/-- x in t, t a list or tuple of flat things -/
def oIn (neg : Bool) : AR2 := fun x y os κ => ∃ a xs, dr os x = some a ∧ (dr os y = some (.lst xs) ∨ dr os y = some (.tup xs)) ∧ flatA a = true ∧ xs.all flatA = true ∧ κ (.p (.bl (if neg then !inV (tV a) (xs.map tV) else inV (tV a) (xs.map tV)))) os
/-- one sign in a text -/
def oInS (neg : Bool) : AR2 := fun x y os κ => ∃ (c : Nat) (z : Str), dr os x = some (.str ⟨#[c]⟩) ∧ dr os y = some (.str z) ∧ κ (.p (.bl (if neg then !decide (c ∈ z.cps.toList) else decide (c ∈ z.cps.toList)))) os
section
variable {X : Cx}
theorem dr_int {K : PySem.W.Frag} {W : Wd} {os : OS} {v : V} {b : B} {i : Int} (r : BR K W v b) (h : dr os b = some (.int i)) : v = .int i := (dr_flat r h rfl).1
theorem dr_str {K : PySem.W.Frag} {W : Wd} {os : OS} {v : V} {b : B} {i : Str} (r : BR K W v b) (h : dr os b = some (.str i)) : v = .str i := (dr_flat r h rfl).1
/-- list + list, the first a known one too -/
theorem cat_rd {pins : List (Addr × Obj)} {σ : L2.St} {H : Hp} {s : Shared} {Q : VK} {p q : Addr} {xs ys : List V} (I : Inv X pins σ H s) (h1 : Rd H p (.lst xs)) (h2 : Rd H q (.lst ys)) (hz : xs.length + ys.length ≤ sizeLine)
    (k : ∀ l, H l = none → Q (.ref l) (upd H l (.lst (xs ++ ys)))) : wpAny (model X.prog X.w) X.A (binaryOp .Add (.ref p) (.ref q)) (EP X pins σ Q) X.xe s := by
  obtain ⟨z, its, n, r, e⟩ := h1.ok I.hok
  obtain ⟨z2, its2, n2, r2, e2⟩ := h2.ok I.hok
  have l1 := r.length
  have l2 := r2.length
  refine PySem.P.add_list e e2 ?_ (by rw [List.size_toArray, List.size_toArray]; omega)
  have ea : its.toArray ++ its2.toArray = (its ++ its2).toArray := by simp
  rw [ea]
  exact ⟨.ref _, _, I.lnew (t' := s.toks) (r.append r2) (by rw [List.length_append]; omega), rfl, k _ I.fresh⟩
theorem BR.tupAgain {K : PySem.W.Frag} {W : Wd} {os : OS} {v : V} {b : B} {xs : List A} (r : BR K W v b) (h : dr os b = some (.tup xs)) : BR K W v (.p (.tup xs)) := by
  cases b with
  | p a => cases h; exact r
  | own k => obtain ⟨o, ho, ⟨ys, rfl, e⟩ | ⟨ys, rfl, e⟩ | ⟨C, ys, rfl, e⟩⟩ := dr_own h <;> cases e
theorem oa_add : OA X (binaryOp .Add) oAdd := by
  intro pins s σ H vx vy v u Q I rx ry h
  obtain ⟨W, os, x, y, κ, rfl, ok, bx, by', h, q⟩ := h
  unfold oAdd at h
  split at h
  · rename_i i j e1 e2
    exact op_add pins s σ _ _ _ v u Q I rx ry ⟨i, j, dr_int bx e1, dr_int by' e2, q _ W os _ (Sn.refl W) ok iB h⟩
  · rename_i i j e1 e2
    exact op_add_str pins s σ _ _ _ v u Q I rx ry ⟨i, j, dr_str bx e1, dr_str by' e2, h.1, q _ W os _ (Sn.refl W) ok sB h.2⟩
  · rename_i i j e1 e2
    obtain ⟨p, vs, rfl, h1, r1⟩ := dr_lst ok bx e1
    obtain ⟨p2, vs2, rfl, h2, r2⟩ := dr_lst ok by' e2
    cases rx; cases ry
    refine cat_rd I (.inl h1) (.inl h2) (by rw [r1.length, r2.length]; exact h.1) fun l hl => ?_
    obtain ⟨W2, e3, ok2, s2, r3⟩ := newL ok hl (r1.append r2)
    rw [← e3]
    exact q _ _ _ _ s2 ok2 r3 h.2
  · rename_i i j e1 e2
    obtain ⟨p, o, vs, rfl, h1, r1⟩ := dr_frz ok bx e1
    obtain ⟨p2, vs2, rfl, h2, r2⟩ := dr_lst ok by' e2
    cases rx; cases ry
    refine cat_rd I (.inr ⟨o, h1⟩) (.inl h2) (by rw [r1.length, r2.length]; exact h.1) fun l hl => ?_
    obtain ⟨W2, e3, ok2, s2, r3⟩ := newL ok hl (r1.append r2)
    rw [← e3]
    exact q _ _ _ _ s2 ok2 r3 h.2
  · rename_i i j e1 e2
    obtain ⟨p, vs, rfl, h1, r1⟩ := dr_tup ok bx e1
    obtain ⟨p2, vs2, rfl, h2, r2⟩ := dr_tup ok by' e2
    refine op_catA pins s σ _ _ _ v u Q I rx ry ⟨p, p2, vs, vs2, rfl, rfl, h1, h2, by rw [r1.length, r2.length]; exact h.1, fun z => ?_, fun _ z => ?_, fun _ _ l hl => ?_⟩
    · subst z; cases r1; exact q _ W os _ (Sn.refl W) ok (by'.tupAgain e2) h.2
    · subst z; cases r2
      have k := h.2
      rw [List.append_nil] at k
      exact q _ W os _ (Sn.refl W) ok (bx.tupAgain e1) k
    · obtain ⟨W2, e3, ok2, s2, r3⟩ := newT ok hl (r1.append r2)
      rw [← e3]
      exact q _ _ _ _ s2 ok2 r3 h.2
  · exact h.elim
theorem oa_sub : OA X (binaryOp .Sub) oSub := by
  intro pins s σ H vx vy v u Q I rx ry h
  obtain ⟨W, os, x, y, κ, rfl, ok, bx, by', ⟨i, j, e1, e2, h⟩, q⟩ := h
  exact op_sub pins s σ _ _ _ v u Q I rx ry ⟨i, j, dr_int bx e1, dr_int by' e2, q _ W os _ (Sn.refl W) ok iB h⟩
theorem oa_mod : OA X (binaryOp .Mod) oMod := by
  intro pins s σ H vx vy v u Q I rx ry h
  obtain ⟨W, os, x, y, κ, rfl, ok, bx, by', ⟨i, j, e1, e2, hj, h⟩, q⟩ := h
  exact op_mod pins s σ _ _ _ v u Q I rx ry ⟨i, j, dr_int bx e1, dr_int by' e2, hj, q _ W os _ (Sn.refl W) ok iB h⟩
theorem oa_div : OA X (binaryOp .FloorDiv) oDiv := by
  intro pins s σ H vx vy v u Q I rx ry h
  obtain ⟨W, os, x, y, κ, rfl, ok, bx, by', ⟨i, j, e1, e2, hj, h⟩, q⟩ := h
  exact op_fdiv pins s σ _ _ _ v u Q I rx ry ⟨i, j, dr_int bx e1, dr_int by' e2, hj, q _ W os _ (Sn.refl W) ok iB h⟩
theorem oa_pow : OA X (binaryOp .Pow) oPow := by
  intro pins s σ H vx vy v u Q I rx ry h
  obtain ⟨W, os, x, y, κ, rfl, ok, bx, by', ⟨i, j, e1, e2, hj, h⟩, q⟩ := h
  exact op_pow pins s σ _ _ _ v u Q I rx ry ⟨i, j, dr_int bx e1, dr_int by' e2, hj, q _ W os _ (Sn.refl W) ok iB h⟩
theorem map_flatten_rep {α β : Type} (f : α → β) (n : Nat) (l : List α) : (List.replicate n l).flatten.map f = (List.replicate n (l.map f)).flatten := by
  induction n with
  | zero => rfl
  | succ n ih => rw [List.replicate_succ, List.replicate_succ, List.flatten_cons, List.flatten_cons, List.map_append, ih]
theorem ARs.rep {K : PySem.W.Frag} {G : Hp} {vs : List V} {xs : List A} (r : ARs K G vs xs) : ∀ n : Nat, ARs K G (List.replicate n vs).flatten (List.replicate n xs).flatten
  | 0 => .nil
  | n + 1 => by
    rw [List.replicate_succ, List.replicate_succ, List.flatten_cons, List.flatten_cons]
    exact r.append (r.rep n)
theorem oa_mul : OA X (binaryOp .Mult) oMul := by
  intro pins s σ H vx vy v u Q I rx ry h
  obtain ⟨W, os, x, y, κ, rfl, ok, bx, by', h, q⟩ := h
  unfold oMul at h
  split at h
  · rename_i i j e1 e2
    exact op_mul pins s σ _ _ _ v u Q I rx ry ⟨i, j, dr_int bx e1, dr_int by' e2, h.1, q _ W os _ (Sn.refl W) ok iB h.2⟩
  · rename_i i j e1 e2
    obtain ⟨p, vs, rfl, h1, r1⟩ := dr_lst ok bx e1
    refine op_rep pins s σ _ _ _ v u Q I rx ry ⟨p, j, vs, rfl, dr_int by' e2, h1, h.1.1, h.1.2.1, by rw [r1.length]; exact h.1.2.2, fun l hl => ?_⟩
    obtain ⟨W2, e3, ok2, s2, r3⟩ := newL ok hl (r1.rep j.toNat)
    rw [← e3]
    exact q _ _ _ _ s2 ok2 r3 h.2
  · exact h.elim
theorem oa_I {f : Value → Value → Sem Value} {g : Int → Int → Bool} (ho : OpR X f (rI0 fun i j => .bl (g i j))) : OA X f (oI g) := by
  intro pins s σ H vx vy v u Q I rx ry h
  obtain ⟨W, os, x, y, κ, rfl, ok, bx, by', ⟨i, j, e1, e2, h⟩, q⟩ := h
  exact ho pins s σ _ _ _ v u Q I rx ry ⟨i, j, dr_int bx e1, dr_int by' e2, q _ W os _ (Sn.refl W) ok bB h⟩
theorem oa_lt : OA X (compareOp .Lt) (oI fun i j => decide (i < j)) := oa_I op_lt
theorem oa_le : OA X (compareOp .LtE) (oI fun i j => decide (i ≤ j)) := oa_I op_le
theorem oa_gt : OA X (compareOp .Gt) (oI fun i j => decide (j < i)) := oa_I op_gt
theorem oa_ge : OA X (compareOp .GtE) (oI fun i j => decide (j ≤ i)) := oa_I op_ge
theorem oa_eq (hu : X.A.units + 64 + 1 < cLine) : OA X (compareOp .Eq) (oEq false) := by
  intro pins s σ H vx vy v u Q I rx ry h
  obtain ⟨W, os, x, y, κ, rfl, ok, bx, by', ⟨a, c, e1, e2, h⟩, q⟩ := h
  rcases h with ⟨f1, f2, sc, k⟩ | ⟨d1, d2, s1, s2, k⟩ | ⟨xs, ⟨rfl, rfl⟩ | ⟨rfl, rfl⟩, k⟩
  · refine op_eq pins s σ _ _ _ v u Q I rx ry ?_
    rw [(dr_flat bx e1 f1).1, (dr_flat by' e2 f2).1]
    exact ⟨sc, q _ W os _ (Sn.refl W) ok bB k⟩
  · exact op_eqD (by omega) pins s σ _ _ _ v u Q I rx ry ⟨py a, py c, dr_dp ok bx e1 d1, dr_dp ok by' e2 d2, s1, s2, q _ W os _ (Sn.refl W) ok bB k⟩
  · obtain ⟨p, vs, rfl, h1, r1⟩ := dr_lst ok bx e1
    obtain ⟨p2, vs2, rfl, h2, r2⟩ := dr_lst ok by' e2
    cases rx; cases ry; cases r2
    obtain ⟨its, rv, pl, _⟩ := I.list (sqL_of h1)
    obtain ⟨its2, rv2, pl2, _⟩ := I.list (sqL_of h2)
    cases rv2
    have hl := rv.length
    have hl2 := r1.length
    refine (show RcAt X.A s (.ref p) (.ref p2) (xs.isEmpty) from ?_) X.prog X.w _ _ ⟨.bl _, W.H, I, rfl, q _ W os _ (Sn.refl W) ok bB k⟩
    cases xs with
    | nil =>
      have : its = [] := List.eq_nil_of_length_eq_zero (by rw [← hl, hl2]; rfl)
      subst this
      exact RcAt.lists (e := fun _ => true) pl.isList pl2.isList rfl (by omega) fun j j1 => absurd j1 (by simp)
    | cons x xs => exact RcAt.lists_lengths pl.isList pl2.isList (by simp [← hl, hl2]) (by omega)
  · obtain ⟨p, vs, rfl, h1, r1⟩ := dr_tup ok bx e1
    obtain ⟨p2, vs2, rfl, h2, r2⟩ := dr_tup ok by' e2
    cases rx; cases ry; cases r2
    obtain ⟨its, rv, pl, _⟩ := I.tuple h1
    obtain ⟨its2, rv2, pl2, _⟩ := I.tuple h2
    cases rv2
    have hl := rv.length
    have hl2 := r1.length
    have z := RcAt.tuples (A := X.A) (e := fun _ => true) (show s.heap.IsTuple p its.toArray from pl) (show s.heap.IsTuple p2 ([] : List Value).toArray from pl2) (by omega) fun j j1 j2 => absurd j2 (by simp)
    refine (show RcAt X.A s (.ref p) (.ref p2) (xs.isEmpty) from ?_) X.prog X.w _ _ ⟨.bl _, W.H, I, rfl, q _ W os _ (Sn.refl W) ok bB k⟩
    have e : (xs.isEmpty) = (((List.range (min its.toArray.size ([] : List Value).toArray.size)).all (fun _ => true) && its.toArray.size == ([] : List Value).toArray.size)) := by
      cases xs with
      | nil => have : its = [] := List.eq_nil_of_length_eq_zero (by rw [← hl, hl2]; rfl)
               subst this; rfl
      | cons x xs => have : its.length ≠ 0 := by rw [← hl, hl2]; simp
                     cases its with
                     | nil => exact absurd rfl this
                     | cons a b => simp
    rw [e]
    exact z
theorem oa_ne (hu : X.A.units + 64 + 1 < cLine) : OA X (compareOp .NotEq) (oEq true) := by
  intro pins s σ H vx vy v u Q I rx ry h
  obtain ⟨W, os, x, y, κ, rfl, ok, bx, by', ⟨a, c, e1, e2, h⟩, q⟩ := h
  rcases h with ⟨f1, f2, sc, k⟩ | ⟨d1, d2, s1, s2, k⟩ | ⟨xs, ⟨rfl, rfl⟩ | ⟨rfl, rfl⟩, k⟩
  · refine op_ne pins s σ _ _ _ v u Q I rx ry ?_
    rw [(dr_flat bx e1 f1).1, (dr_flat by' e2 f2).1]
    exact ⟨sc, q _ W os _ (Sn.refl W) ok bB k⟩
  · exact op_neD (by omega) pins s σ _ _ _ v u Q I rx ry ⟨py a, py c, dr_dp ok bx e1 d1, dr_dp ok by' e2 d2, s1, s2, q _ W os _ (Sn.refl W) ok bB k⟩
  · obtain ⟨p, vs, rfl, h1, r1⟩ := dr_lst ok bx e1
    obtain ⟨p2, vs2, rfl, h2, r2⟩ := dr_lst ok by' e2
    cases rx; cases ry; cases r2
    obtain ⟨its, rv, pl, _⟩ := I.list (sqL_of h1)
    obtain ⟨its2, rv2, pl2, _⟩ := I.list (sqL_of h2)
    cases rv2
    have hl := rv.length
    have hl2 := r1.length
    refine (show RcNeAt X.A s (.ref p) (.ref p2) (!xs.isEmpty) from ?_) X.prog X.w _ _ ⟨.bl _, W.H, I, rfl, q _ W os _ (Sn.refl W) ok bB k⟩
    cases xs with
    | nil =>
      have : its = [] := List.eq_nil_of_length_eq_zero (by rw [← hl, hl2]; rfl)
      subst this
      exact RcNeAt.lists (e := fun _ => true) pl.isList pl2.isList rfl (by omega) fun j j1 => absurd j1 (by simp)
    | cons x xs => exact RcNeAt.lists_lengths pl.isList pl2.isList (by simp [← hl, hl2]) (by omega)
  · obtain ⟨p, vs, rfl, h1, r1⟩ := dr_tup ok bx e1
    obtain ⟨p2, vs2, rfl, h2, r2⟩ := dr_tup ok by' e2
    cases rx; cases ry; cases r2
    obtain ⟨its, rv, pl, _⟩ := I.tuple h1
    obtain ⟨its2, rv2, pl2, _⟩ := I.tuple h2
    cases rv2
    have hl := rv.length
    have hl2 := r1.length
    have z := RcNeAt.tuples (A := X.A) (e := fun _ => true) (show s.heap.IsTuple p its.toArray from pl) (show s.heap.IsTuple p2 ([] : List Value).toArray from pl2) (by omega) fun j j1 j2 => absurd j2 (by simp)
    refine (show RcNeAt X.A s (.ref p) (.ref p2) (!xs.isEmpty) from ?_) X.prog X.w _ _ ⟨.bl _, W.H, I, rfl, q _ W os _ (Sn.refl W) ok bB k⟩
    have e : (!xs.isEmpty) = (!((List.range (min its.toArray.size ([] : List Value).toArray.size)).all (fun _ => true) && its.toArray.size == ([] : List Value).toArray.size)) := by
      cases xs with
      | nil => have : its = [] := List.eq_nil_of_length_eq_zero (by rw [← hl, hl2]; rfl)
               subst this; rfl
      | cons x xs => have : its.length ≠ 0 := by rw [← hl, hl2]; simp
                     cases its with
                     | nil => exact absurd rfl this
                     | cons a b => simp
    rw [e]
    exact z
theorem AR.nonIff {K : PySem.W.Frag} {G : Hp} {v : V} {a : A} (r : AR K G v a) (h : ∀ u, a ≠ .val u) : decide (v = .non) = isN a := by
  cases r <;> first | rfl | exact absurd rfl (h _) | simp [isN]
theorem dr_non {K : PySem.W.Frag} {W : Wd} {os : OS} {v : V} {b : B} {a : A} (r : BR K W v b) (h : dr os b = some a) (n : ∀ u, a ≠ .val u) : decide (v = .non) = isN a := by
  cases b with
  | p a' => cases h; exact AR.nonIff r n
  | own k =>
    obtain ⟨l, hl, rfl⟩ := r
    obtain ⟨o, ho, ⟨ys, rfl, rfl⟩ | ⟨ys, rfl, rfl⟩ | ⟨D, ys, rfl, rfl⟩⟩ := dr_own h <;> simp [isN]
theorem oa_is : OA X (compareOp .Is) (oIs false) := by
  intro pins s σ H vx vy v u Q I rx ry h
  obtain ⟨W, os, x, y, κ, rfl, ok, bx, by', ⟨a, e1, e2, n, k⟩, q⟩ := h
  subst e1
  refine op_isN pins s σ _ _ _ v u Q I rx ry ⟨by'.non, ?_⟩
  rw [dr_non bx e2 n]
  exact q _ W os _ (Sn.refl W) ok bB k
theorem oa_isnot : OA X (compareOp .IsNot) (oIs true) := by
  intro pins s σ H vx vy v u Q I rx ry h
  obtain ⟨W, os, x, y, κ, rfl, ok, bx, by', ⟨a, e1, e2, n, k⟩, q⟩ := h
  subst e1
  refine op_notN pins s σ _ _ _ v u Q I rx ry ⟨by'.non, ?_⟩
  rw [dr_non bx e2 n]
  exact q _ W os _ (Sn.refl W) ok bB k
theorem dr_seq {K : PySem.W.Frag} {W : Wd} {os : OS} {v : V} {b : B} {xs : List A} (ok : Wok K W os) (r : BR K W v b) (h : dr os b = some (.lst xs) ∨ dr os b = some (.tup xs)) : ∃ p vs, v = .ref p ∧ (SqL K W.H p vs ∨ SqT K W.H p vs) ∧ ARs K W.G vs xs := by
  rcases h with h | h
  · obtain ⟨p, vs, e, h1, h2⟩ := dr_lst ok r h
    exact ⟨p, vs, e, .inl (sqL_of h1), h2⟩
  · obtain ⟨p, vs, e, h1, h2⟩ := dr_tup ok r h
    exact ⟨p, vs, e, .inr h1, h2⟩
theorem oa_in : OA X (compareOp .In) (oIn false) := by
  intro pins s σ H vx vy v u Q I rx ry h
  obtain ⟨W, os, x, y, κ, rfl, ok, bx, by', ⟨a, xs, e1, e2, f1, f2, k⟩, q⟩ := h
  obtain ⟨p, vs, e, h1, h2⟩ := dr_seq ok by' e2
  obtain ⟨g1, g2⟩ := dr_flat bx e1 f1
  obtain ⟨g3, g4⟩ := h2.flat f2
  refine op_in_seq pins s σ _ _ _ v u Q I rx ry ⟨p, vs, e, h1, g2, g4, ?_⟩
  rw [g1, g3]
  exact q _ W os _ (Sn.refl W) ok bB k
theorem oa_notin : OA X (compareOp .NotIn) (oIn true) := by
  intro pins s σ H vx vy v u Q I rx ry h
  obtain ⟨W, os, x, y, κ, rfl, ok, bx, by', ⟨a, xs, e1, e2, f1, f2, k⟩, q⟩ := h
  obtain ⟨p, vs, e, h1, h2⟩ := dr_seq ok by' e2
  obtain ⟨g1, g2⟩ := dr_flat bx e1 f1
  obtain ⟨g3, g4⟩ := h2.flat f2
  refine op_notIn_seq pins s σ _ _ _ v u Q I rx ry ⟨p, vs, e, h1, g2, g4, ?_⟩
  rw [g1, g3]
  exact q _ W os _ (Sn.refl W) ok bB k
theorem oa_inS : OA X (compareOp .In) (oInS false) := by
  intro pins s σ H vx vy v u Q I rx ry h
  obtain ⟨W, os, x, y, κ, rfl, ok, bx, by', ⟨c, z, e1, e2, k⟩, q⟩ := h
  exact op_in_sign pins s σ _ _ _ v u Q I rx ry ⟨c, z, dr_str bx e1, dr_str by' e2, q _ W os _ (Sn.refl W) ok bB k⟩
theorem oa_notinS : OA X (compareOp .NotIn) (oInS true) := by
  intro pins s σ H vx vy v u Q I rx ry h
  obtain ⟨W, os, x, y, κ, rfl, ok, bx, by', ⟨c, z, e1, e2, k⟩, q⟩ := h
  exact op_notIn_sign pins s σ _ _ _ v u Q I rx ry ⟨c, z, dr_str bx e1, dr_str by' e2, q _ W os _ (Sn.refl W) ok bB k⟩
/-! ### unary minus, subscripts, slices -/
def aNeg (ta : ATE) : ATE := fun as os κ => ta as os fun x os1 => ∃ i, dr os1 x = some (.int i) ∧ κ (.p (.int (-i))) os1
theorem ae_neg {a : Expr} {ta : ATE} {pos : Pos} (ha : AE X a ta) : AE X (.UnaryOp .USub a pos) (aNeg ta) := PEm (pe_un un_neg ha) fun σ H Q q => by
  obtain ⟨W, as, os, κ, rfl, ok, sl, k, q⟩ := q
  refine ⟨W, as, os, _, rfl, ok, sl, k, fun vx W1 os1 bx s1 ok1 rx ⟨i, hi, h1⟩ => ?_⟩
  exact ⟨i, dr_int rx hi, q _ _ _ _ s1 ok1 iB h1⟩
/-- xs[i] -/
def oIx : AR2 := fun x y os κ => ∃ i, dr os y = some (.int i) ∧ match dr os x with
  | some (.lst xs) => ∃ a, atI xs i = some a ∧ κ (.p a) os
  | some (.tup xs) => ∃ a, atI xs i = some a ∧ κ (.p a) os
  | some (.frz xs) => ∃ a, atI xs i = some a ∧ κ (.p a) os
  | some (.str z) => z.length ≤ sizeLine ∧ ∃ c, atI z.cps.toList i = some c ∧ κ (.p (.str ⟨#[c]⟩)) os
  | _ => False
theorem ARs.atI {K : PySem.W.Frag} {G : Hp} {vs : List V} {xs : List A} {i : Int} {a : A} (r : ARs K G vs xs) (h : L2.atI xs i = some a) : ∃ v, L2.atI vs i = some v ∧ AR K G v a := by
  unfold L2.atI at h ⊢
  rw [r.length]
  cases e : ixN xs.length i with
  | none => rw [e] at h; cases h
  | some j =>
    rw [e] at h
    exact r.get h
theorem IxR.or {r r' : R2} (h : IxR X r) (h' : IxR X r') : IxR X (fun x y H Q => r x y H Q ∨ r' x y H Q) := by
  intro a b pins s σ H x y v u Q I rx ry q e
  rcases q with q | q
  · exact h a b pins s σ H x y v u Q I rx ry q e
  · exact h' a b pins s σ H x y v u Q I rx ry q e
theorem ix_any : IxR X (cR X.K oIx) := by
  intro av bv pins s σ H vx vy v u Q I rx ry h e
  obtain ⟨W, os, x, y, κ, rfl, ok, bx, by', ⟨i, hi, h⟩, q⟩ := h
  split at h
  · rename_i xs e1
    obtain ⟨a, ha, k⟩ := h
    obtain ⟨p, vs, rfl, h1, r1⟩ := dr_lst ok bx e1
    obtain ⟨w, hw, rw'⟩ := r1.atI ha
    exact ix_list av bv pins s σ _ _ _ v u Q I rx ry ⟨p, vs, i, w, rfl, dr_int by' hi, sqL_of h1, hw, q _ W os (.p a) (Sn.refl W) ok rw' k⟩ e
  · rename_i xs e1
    obtain ⟨a, ha, k⟩ := h
    obtain ⟨p, vs, rfl, h1, r1⟩ := dr_tup ok bx e1
    obtain ⟨w, hw, rw'⟩ := r1.atI ha
    exact ix_tup av bv pins s σ _ _ _ v u Q I rx ry ⟨p, vs, i, w, rfl, dr_int by' hi, h1, hw, q _ W os (.p a) (Sn.refl W) ok rw' k⟩ e
  · rename_i xs e1
    obtain ⟨a, ha, k⟩ := h
    obtain ⟨p, o, vs, rfl, h1, r1⟩ := dr_frz ok bx e1
    obtain ⟨w, hw, rw'⟩ := r1.atI ha
    exact ix_list av bv pins s σ _ _ _ v u Q I rx ry ⟨p, vs, i, w, rfl, dr_int by' hi, .inl (.inr ⟨o, h1⟩), hw, q _ W os (.p a) (Sn.refl W) ok rw' k⟩ e
  · rename_i z e1
    obtain ⟨hz, c, hc, k⟩ := h
    exact ix_str av bv pins s σ _ _ _ v u Q I rx ry ⟨z, i, c, dr_str bx e1, dr_int by' hi, hz, hc, q _ W os _ (Sn.refl W) ok sB k⟩ e
  · exact h.elim
theorem ae_ix {a b : Expr} {ta tb : ATE} {pos : Pos} (ha : AE X a ta) (hb : AE X b tb) (hs : PlainIx b := by exact fun _ _ => rfl) : AE X (.Subscript a b pos) (aOp oIx ta tb) := PEm (pe_ix ix_any ha hb hs) fun _ _ _ h => cE_op h
end
end AB

end

section
set_option Elab.async false
set_option linter.all false
set_option maxRecDepth 100000
set_option maxHeartbeats 4000000
namespace AB
open PySem PySem.Spec PyProof.Rows L2 Evl
/-! ### slices -/
abbrev ATO := AS → OS → (Option Int → OS → Prop) → Prop
def cO (K : PySem.W.Frag) (t : ATO) : TO := fun σ H Q => ∃ (W : Wd) (as : AS) (os : OS) (κ : Option Int → OS → Prop), W.H = H ∧ Wok K W os ∧ SlotsR K W σ as ∧ t as os κ ∧
  ∀ b W' os', Sn W W' → Wok K W' os' → κ b os' → Q b W'.H
def AO (X : Cx) (e : Option Expr) (t : ATO) : Prop := PO X e (cO X.K t)
theorem POm {X : Cx} {e : Option Expr} {t t' : TO} (h : PO X e t) (m : ∀ σ H Q, t' σ H Q → t σ H Q) : PO X e t' := ⟨fun pins s σ H Q I q => h.run pins s σ H Q I (m σ H Q q)⟩
def aNoPart : ATO := fun _ os κ => κ none os
def aPart (t : ATE) : ATO := fun as os κ => t as os fun x os1 => ∃ i, dr os1 x = some (.int i) ∧ κ (some i) os1
def cutA (xs : List A) (lo hi : Option Int) : List A := (xs.drop (HT.sIx xs.length 0 lo)).take (HT.sIx xs.length xs.length hi - HT.sIx xs.length 0 lo)
def oSl : B → Option Int → Option Int → OS → (B → OS → Prop) → Prop := fun x lo hi os κ => match dr os x with
  | some (.lst xs) => κ (.p (.lst (cutA xs lo hi))) os
  | some (.frz xs) => κ (.p (.lst (cutA xs lo hi))) os
  | some (.tup xs) => κ (.p (.tup (cutA xs lo hi))) os
  | some (.str z) => z.length ≤ sizeLine ∧ κ (.p (.str (cutS z lo hi))) os
  | _ => False
def aSl (te : ATE) (tl th : ATO) : ATE := fun as os κ => te as os fun x os1 => tl as os1 fun l os2 => th as os2 fun h os3 => oSl x l h os3 κ
def cSl (K : PySem.W.Frag) (R : B → Option Int → Option Int → OS → (B → OS → Prop) → Prop) : V → Option Int → Option Int → Hp → VK → Prop := fun vx lo hi H Q =>
  ∃ (W : Wd) (os : OS) (x : B) (κ : B → OS → Prop), W.H = H ∧ Wok K W os ∧ BR K W vx x ∧ R x lo hi os κ ∧ ∀ v W' os' b, Sn W W' → Wok K W' os' → BR K W' v b → κ b os' → Q v W'.H
section
variable {X : Cx} {e a b : Expr} {te ta tb to : ATE} {pos p2 apos cpos : Pos}
theorem ao_none : AO X none aNoPart := POm po_none fun σ H Q q => by
  obtain ⟨W, as, os, κ, rfl, ok, sl, k, q⟩ := q
  exact q _ _ _ (Sn.refl W) ok k
theorem ao_some (h : AE X e te) : AO X (some e) (aPart te) := POm (po_some h) fun σ H Q q => by
  obtain ⟨W, as, os, κ, rfl, ok, sl, k, q⟩ := q
  exact ⟨W, as, os, _, rfl, ok, sl, k, fun vx W1 os1 bx s1 ok1 rx ⟨i, hi, h1⟩ => ⟨i, dr_int rx hi, q _ _ _ s1 ok1 h1⟩⟩
theorem ARs.cut {K : PySem.W.Frag} {G : Hp} {vs : List V} {xs : List A} (r : ARs K G vs xs) (lo hi : Option Int) : ARs K G (cutV vs lo hi) (cutA xs lo hi) := by
  unfold cutV cutA
  rw [r.length]
  exact (r.drop _).take _
theorem cutA_whole {xs : List A} {lo hi : Option Int} (h : HT.sIx xs.length 0 lo = 0 ∧ HT.sIx xs.length xs.length hi = xs.length) : cutA xs lo hi = xs := by
  unfold cutA
  rw [h.1, h.2]
  simp
theorem sl_any : SlR X (cSl X.K oSl) := by
  intro pins s σ H vx v vl vu lo hi sl Q I rx hs pl pu h
  obtain ⟨W, os, x, κ, rfl, ok, bx, h, q⟩ := h
  unfold oSl at h
  split at h
  · rename_i xs e1
    obtain ⟨p, vs, rfl, h1, r1⟩ := dr_lst ok bx e1
    refine sl_list pins s σ _ _ v vl vu lo hi sl Q I rx hs pl pu ⟨p, vs, rfl, sqL_of h1, fun l hl => ?_⟩
    obtain ⟨W2, e3, ok2, s2, r3⟩ := newL ok hl (r1.cut lo hi)
    rw [← e3]
    exact q _ _ _ _ s2 ok2 r3 h
  · rename_i xs e1
    obtain ⟨p, o, vs, rfl, h1, r1⟩ := dr_frz ok bx e1
    refine sl_list pins s σ _ _ v vl vu lo hi sl Q I rx hs pl pu ⟨p, vs, rfl, .inl (.inr ⟨o, h1⟩), fun l hl => ?_⟩
    obtain ⟨W2, e3, ok2, s2, r3⟩ := newL ok hl (r1.cut lo hi)
    rw [← e3]
    exact q _ _ _ _ s2 ok2 r3 h
  · rename_i xs e1
    obtain ⟨p, vs, rfl, h1, r1⟩ := dr_tup ok bx e1
    refine sl_tupA pins s σ _ _ v vl vu lo hi sl Q I rx hs pl pu ⟨p, vs, rfl, h1, fun z => ?_, fun z l hl => ?_⟩
    · rw [r1.length] at z
      rw [cutA_whole z] at h
      exact q _ W os _ (Sn.refl W) ok (bx.tupAgain e1) h
    · obtain ⟨W2, e3, ok2, s2, r3⟩ := newT ok hl (r1.cut lo hi)
      rw [← e3]
      exact q _ _ _ _ s2 ok2 r3 h
  · rename_i z e1
    exact sl_str pins s σ _ _ v vl vu lo hi sl Q I rx hs pl pu ⟨z, dr_str bx e1, h.1, q _ W os _ (Sn.refl W) ok sB h.2⟩
  · exact h.elim
theorem ae_slice {lo hi : Option Expr} {tl th : ATO} (he : AE X e te) (hl : AO X lo tl) (hh : AO X hi th) : AE X (.Subscript e (.Slice lo hi none p2) pos) (aSl te tl th) := PEm (pe_slice sl_any he hl hh) fun σ H Q q => by
  obtain ⟨W, as, os, κ, rfl, ok, sl, k, q⟩ := q
  refine ⟨W, as, os, _, rfl, ok, sl, k, fun vx W1 os1 bx s1 ok1 rx h1 => ?_⟩
  refine ⟨W1, as, os1, _, rfl, ok1, sl.mono s1, h1, fun l W2 os2 s2 ok2 h2 => ?_⟩
  refine ⟨W2, as, os2, _, rfl, ok2, sl.mono (s1.trans s2), h2, fun h W3 os3 s3 ok3 h3 => ?_⟩
  exact ⟨W3, os3, bx, κ, rfl, ok3, rx.mono (s2.trans s3), h3, fun v W4 os4 b s4 ok4 r4 k4 => q _ _ _ _ (((s1.trans s2).trans s3).trans s4) ok4 r4 k4⟩
/-- xs[::-1] -/
def aRev (te : ATE) : ATE := fun as os κ => te as os fun x os1 => ∃ xs, dr os1 x = some (.lst xs) ∧ κ (.p (.lst xs.reverse)) os1
theorem ae_rev {k : Nat} {p1 p3 : Pos} (he : AE X e te) : AE X (.Subscript e (.Slice none none (some (.UnaryOp .USub (.Constant (.int 1) k p1) p2)) p3) pos) (aRev te) := PEm (pe_revL he) fun σ H Q q => by
  obtain ⟨W, as, os, κ, rfl, ok, sl, k, q⟩ := q
  refine ⟨W, as, os, _, rfl, ok, sl, k, fun vx W1 os1 bx s1 ok1 rx ⟨xs, hx, h1⟩ => ?_⟩
  obtain ⟨p, vs, rfl, g1, r1⟩ := dr_lst ok1 rx hx
  refine ⟨p, vs, rfl, sqL_of g1, fun l hl => ?_⟩
  obtain ⟨W2, e3, ok2, s2, r3⟩ := newL ok1 hl r1.reverse
  rw [← e3]
  exact q _ _ _ _ (s1.trans s2) ok2 r3 h1
/-! ### methods of lists -/
theorem mutL {K : PySem.W.Frag} {W : Wd} {os : OS} (ok : Wok K W os) {k : Nat} {l : Addr} (hl : W.ls[k]? = some l) {xs : List A} (ho : os[k]? = some (.lst xs)) {vs : List V} {ys : List A} (r : ARs K W.G vs ys) :
    ∃ W', W'.H = upd W.H l (.lst vs) ∧ Wok K W' (os.set k (.lst ys)) ∧ Sn W W' := by
  obtain ⟨hg, _⟩ := ok.own k l _ hl ho
  obtain ⟨o, s⟩ := ok.mut hl (o := .lst vs) (ob := .lst ys) hg ⟨hg, vs, upd_same, r⟩
  exact ⟨_, rfl, o, s⟩
abbrev AMR := B → List B → OS → (B → OS → Prop) → Prop
def cM (K : PySem.W.Frag) (R : AMR) : V → List V → Hp → VK → Prop := fun vx vs H Q => ∃ (W : Wd) (os : OS) (x : B) (bs : List B) (κ : B → OS → Prop), W.H = H ∧ Wok K W os ∧ BR K W vx x ∧ BRs K W vs bs ∧ R x bs os κ ∧
  ∀ v W' os' b, Sn W W' → Wok K W' os' → BR K W' v b → κ b os' → Q v W'.H
def aBM (R : AMR) (to : ATE) (t : ATA) : ATE := fun as os κ => to as os fun x os1 => (∃ xs, dr os1 x = some (.lst xs)) ∧ t as os1 fun bs os2 => R x bs os2 κ
theorem BRs.one {K : PySem.W.Frag} {W : Wd} {vs : List V} {b : B} (h : BRs K W vs [b]) : ∃ v, vs = [v] ∧ BR K W v b := by
  cases h with | cons h t => cases t; exact ⟨_, rfl, h⟩
theorem BRs.two {K : PySem.W.Frag} {W : Wd} {vs : List V} {b c : B} (h : BRs K W vs [b, c]) : ∃ v w, vs = [v, w] ∧ BR K W v b ∧ BR K W w c := by
  cases h with | cons h t => obtain ⟨w, rfl, h2⟩ := t.one; exact ⟨_, _, rfl, h, h2⟩
theorem BRs.nil' {K : PySem.W.Frag} {W : Wd} {vs : List V} (h : BRs K W vs []) : vs = [] := by cases h; rfl
def mAppend : AMR := fun x bs os κ => ∃ k xs a, x = .own k ∧ bs = [.p a] ∧ os[k]? = some (.lst xs) ∧ xs.length < sizeLine ∧ κ (.p .non) (os.set k (.lst (xs ++ [a])))
def mExtend : AMR := fun x bs os κ => ∃ k xs y ys, x = .own k ∧ bs = [y] ∧ os[k]? = some (.lst xs) ∧ dr os y = some (.lst ys) ∧ xs.length + ys.length ≤ sizeLine ∧ κ (.p .non) (os.set k (.lst (xs ++ ys)))
def mPop : AMR := fun x bs os κ => ∃ k ini a, x = .own k ∧ bs = [] ∧ os[k]? = some (.lst (ini ++ [a])) ∧ κ (.p a) (os.set k (.lst ini))
theorem ma_append : MtR X "list.append" (cM X.K mAppend) := by
  intro pins s σ H vx vs v us Q I rx rs h
  obtain ⟨W, os, x, bs, κ, rfl, ok, bx, rb, ⟨k, xs, a, rfl, rfl, ho, hz, h⟩, q⟩ := h
  obtain ⟨y, rfl, ry⟩ := rb.one
  obtain ⟨l, hl, rfl⟩ := bx
  obtain ⟨hg, ws, h1, r1⟩ := ok.own k l _ hl ho
  refine mt_append pins s σ _ _ _ v us Q I rx rs ⟨l, ws, y, rfl, rfl, h1, by rw [r1.length]; exact hz, ?_⟩
  obtain ⟨W2, e3, ok2, s2⟩ := mutL ok hl ho (r1.append (.cons ry .nil))
  rw [← e3]
  exact q _ _ _ _ s2 ok2 nB h
theorem ma_extend : MtR X "list.extend" (cM X.K mExtend) := by
  intro pins s σ H vx vs v us Q I rx rs h
  obtain ⟨W, os, x, bs, κ, rfl, ok, bx, rb, ⟨k, xs, y, ys, rfl, rfl, ho, hy, hz, h⟩, q⟩ := h
  obtain ⟨y', rfl, ry⟩ := rb.one
  obtain ⟨l, hl, rfl⟩ := bx
  obtain ⟨hg, ws, h1, r1⟩ := ok.own k l _ hl ho
  obtain ⟨p, ws2, rfl, h2, r2⟩ := dr_lst ok ry hy
  refine mt_extend pins s σ _ _ _ v us Q I rx rs ⟨l, p, ws, ws2, rfl, rfl, h1, h2, by rw [r1.length, r2.length]; exact hz, ?_⟩
  obtain ⟨W2, e3, ok2, s2⟩ := mutL ok hl ho (r1.append r2)
  rw [← e3]
  exact q _ _ _ _ s2 ok2 nB h
theorem ARs.snoc {K : PySem.W.Frag} {G : Hp} {vs : List V} {xs : List A} {a : A} (r : ARs K G vs (xs ++ [a])) : ∃ ws w, vs = ws ++ [w] ∧ ARs K G ws xs ∧ AR K G w a := by
  induction xs generalizing vs with
  | nil =>
    cases r with | cons h t => cases t; exact ⟨[], _, rfl, .nil, h⟩
  | cons x xs ih =>
    cases r with
    | cons h t =>
      obtain ⟨ws, w, rfl, h1, h2⟩ := ih t
      exact ⟨_ :: ws, w, rfl, .cons h h1, h2⟩
theorem ma_pop : MtR X "list.pop" (cM X.K mPop) := by
  intro pins s σ H vx vs v us Q I rx rs h
  obtain ⟨W, os, x, bs, κ, rfl, ok, bx, rb, ⟨k, ini, a, rfl, rfl, ho, h⟩, q⟩ := h
  cases rb
  obtain ⟨l, hl, rfl⟩ := bx
  obtain ⟨hg, ws, h1, r1⟩ := ok.own k l _ hl ho
  obtain ⟨ws', w, rfl, r2, r3⟩ := r1.snoc
  refine mt_pop pins s σ _ _ _ v us Q I rx rs ⟨l, ws' ++ [w], w, rfl, rfl, h1, by simp, ?_⟩
  rw [List.dropLast_concat]
  obtain ⟨W2, e3, ok2, s2⟩ := mutL ok hl ho r2
  rw [← e3]
  exact q _ _ _ (.p a) s2 ok2 (r3.mono s2.g) h
theorem ae_bm {es : List Expr} {t : ATA} {id : String} {name : Str} {R : AMR} (slot : Slot "list" name id) (hty : typeOf (.builtin id) = pure (.type "method_descriptor")) (hm : MtR X id (cM X.K R)) (ho : AE X a to) (ha : AA X (e :: es) t)
    (hbase : attributeBase a name X.env (eval a X.env) = eval a X.env := by rfl)
    (hfew : ((backTo cpos (starEach (e :: es) X.env)).all (fun x => !x.1) && (backToKw cpos (keywordEach [] X.env)).all (fun x => x.1.isSome)
      && decide ((e :: es).length + ([] : List Keyword).length + (if ([] : List Keyword).isEmpty then 0 else 1) < 30)) = true := by rfl)
    (hline : (apos.endLine == cpos.line) = true := by rfl) (hs : starEach (e :: es) X.env = (false, eval e X.env) :: starEach es X.env := by rfl) (hplain : (backTo cpos (starEach es X.env)).any (·.1) = false := by rfl) :
    AE X (.Call (.Attribute a name apos) (e :: es) [] cpos) (aBM R to t) := PEm (pe_bm PySem.F.plainAttrs_list slot hty hm ho ha hbase hfew hline hs hplain) fun σ H Q q => by
  obtain ⟨W, as, os, κ, rfl, ok, sl, k, q⟩ := q
  refine ⟨W, as, os, _, rfl, ok, sl, k, fun vx W1 os1 bx s1 ok1 rx ⟨⟨xs, hx⟩, h1⟩ => ?_⟩
  obtain ⟨p, vs, rfl, g1, r1⟩ := dr_lst ok1 rx hx
  refine ⟨.inl ⟨rfl, vs, sqL_of g1⟩, ?_⟩
  refine ⟨W1, as, os1, _, rfl, ok1, sl.mono s1, h1, fun vs2 W2 os2 bs s2 ok2 r2 h2 => ?_⟩
  exact ⟨W2, os2, bx, bs, κ, rfl, ok2, rx.mono s2, r2, h2, fun v W3 os3 b s3 ok3 r3 k3 => q _ _ _ _ ((s1.trans s2).trans s3) ok3 r3 k3⟩
theorem ae_bm0 {id : String} {name : Str} {R : AMR} (slot : Slot "list" name id) (hty : typeOf (.builtin id) = pure (.type "method_descriptor")) (hm : MtR X id (cM X.K R)) (ho : AE X a to)
    (hbase : attributeBase a name X.env (eval a X.env) = eval a X.env := by rfl) (hline : (apos.endLine == cpos.line) = true := by rfl) :
    AE X (.Call (.Attribute a name apos) [] [] cpos) (aBM R to aNil) := PEm (pe_bm0 PySem.F.plainAttrs_list slot hty hm ho hbase hline) fun σ H Q q => by
  obtain ⟨W, as, os, κ, rfl, ok, sl, k, q⟩ := q
  refine ⟨W, as, os, _, rfl, ok, sl, k, fun vx W1 os1 bx s1 ok1 rx ⟨⟨xs, hx⟩, h1⟩ => ?_⟩
  obtain ⟨p, vs, rfl, g1, r1⟩ := dr_lst ok1 rx hx
  refine ⟨.inl ⟨rfl, vs, sqL_of g1⟩, ?_⟩
  exact ⟨W1, os1, bx, [], κ, rfl, ok1, rx, .nil, h1, fun v W3 os3 b s3 ok3 r3 k3 => q _ _ _ _ (s1.trans s3) ok3 r3 k3⟩
theorem ae_append {es : List Expr} {t : ATA} (ho : AE X a to) (ha : AA X (e :: es) t)
    (hbase : attributeBase a "append" X.env (eval a X.env) = eval a X.env := by rfl)
    (hfew : ((backTo cpos (starEach (e :: es) X.env)).all (fun x => !x.1) && (backToKw cpos (keywordEach [] X.env)).all (fun x => x.1.isSome)
      && decide ((e :: es).length + ([] : List Keyword).length + (if ([] : List Keyword).isEmpty then 0 else 1) < 30)) = true := by rfl)
    (hline : (apos.endLine == cpos.line) = true := by rfl) (hs : starEach (e :: es) X.env = (false, eval e X.env) :: starEach es X.env := by rfl) (hplain : (backTo cpos (starEach es X.env)).any (·.1) = false := by rfl) :
    AE X (.Call (.Attribute a "append" apos) (e :: es) [] cpos) (aBM mAppend to t) := ae_bm PySem.F.slot_list_append PySem.F.type_list_append ma_append ho ha hbase hfew hline hs hplain
theorem ae_extend {es : List Expr} {t : ATA} (ho : AE X a to) (ha : AA X (e :: es) t)
    (hbase : attributeBase a "extend" X.env (eval a X.env) = eval a X.env := by rfl)
    (hfew : ((backTo cpos (starEach (e :: es) X.env)).all (fun x => !x.1) && (backToKw cpos (keywordEach [] X.env)).all (fun x => x.1.isSome)
      && decide ((e :: es).length + ([] : List Keyword).length + (if ([] : List Keyword).isEmpty then 0 else 1) < 30)) = true := by rfl)
    (hline : (apos.endLine == cpos.line) = true := by rfl) (hs : starEach (e :: es) X.env = (false, eval e X.env) :: starEach es X.env := by rfl) (hplain : (backTo cpos (starEach es X.env)).any (·.1) = false := by rfl) :
    AE X (.Call (.Attribute a "extend" apos) (e :: es) [] cpos) (aBM mExtend to t) := ae_bm PySem.F.slot_list_extend PySem.F.type_list_extend ma_extend ho ha hbase hfew hline hs hplain
theorem ae_pop (ho : AE X a to) (hbase : attributeBase a "pop" X.env (eval a X.env) = eval a X.env := by rfl) (hline : (apos.endLine == cpos.line) = true := by rfl) :
    AE X (.Call (.Attribute a "pop" apos) [] [] cpos) (aBM mPop to aNil) := ae_bm0 PySem.F.slot_list_pop PySem.F.type_list_pop ma_pop ho hbase hline
/-! ### sep.join(xs) -/
def aJoin (to te : ATE) : ATE := fun as os κ => to as os fun x os1 => ∃ z, dr os1 x = some (.str z) ∧ te as os1 fun y os2 => ∃ ys : List Str, (dr os2 y = some (.lst (ys.map A.str)) ∨ dr os2 y = some (.tup (ys.map A.str))) ∧
  (ys.map (·.length)).sum + ys.length * z.length ≤ 16777216 ∧ κ (.p (.str (Txt.join z ys))) os2
theorem ae_join (ho : AE X a to) (he : AE X e te) (pj : PE X (.Call (.Attribute a "join" apos) [e] [] pos) (tM1 (fun x xs H Q => ∃ a p, ∃ ys : List Str, x = .str a ∧ xs = [.ref p] ∧ (SqL X.K H p (ys.map V.str) ∨ SqT X.K H p (ys.map V.str)) ∧ (ys.map (·.length)).sum + ys.length * a.length ≤ 16777216 ∧ Q (.str (Txt.join a ys)) H) (cE X.K to) (cE X.K te))) :
    AE X (.Call (.Attribute a "join" apos) [e] [] pos) (aJoin to te) := PEm pj fun σ H Q q => by
  obtain ⟨W, as, os, κ, rfl, ok, sl, k, q⟩ := q
  refine ⟨W, as, os, _, rfl, ok, sl, k, fun vx W1 os1 bx s1 ok1 rx ⟨z, hz, h1⟩ => ?_⟩
  refine ⟨⟨z, dr_str rx hz⟩, W1, as, os1, _, rfl, ok1, sl.mono s1, h1, fun vy W2 os2 by' s2 ok2 ry ⟨ys, hy, hl, h2⟩ => ?_⟩
  obtain ⟨p, vs, rfl, g1, r1⟩ := dr_seq ok2 ry hy
  rw [ARs.strL' r1] at g1
  exact ⟨z, p, ys, dr_str rx hz, rfl, g1, hl, q _ _ _ _ (s1.trans s2) ok2 sB h2⟩
/-! ### built-in functions -/
def cLen : List B → OS → (B → OS → Prop) → Prop := fun bs os κ => ∃ x, bs = [x] ∧ match dr os x with
  | some (.lst xs) => κ (.p (.int xs.length)) os
  | some (.tup xs) => κ (.p (.int xs.length)) os
  | some (.frz xs) => κ (.p (.int xs.length)) os
  | some (.str z) => z.length ≤ sizeLine ∧ κ (.p (.int z.length)) os
  | some (.dic kvs) => κ (.p (.int kvs.length)) os
  | _ => False
theorem ca_len : CA X (.builtin "len") cLen := by
  intro pins s σ H vs us Q I rs h
  obtain ⟨W, os, bs, κ, rfl, ok, rb, ⟨x, rfl, h⟩, q⟩ := h
  obtain ⟨v, rfl, rx⟩ := rb.one
  split at h
  · rename_i xs e1
    obtain ⟨p, vs, rfl, h1, r1⟩ := dr_lst ok rx e1
    exact call_len_seq pins s σ _ _ us Q I rs ⟨p, vs, rfl, .inl (sqL_of h1), by rw [r1.length]; exact q _ W os _ (Sn.refl W) ok iB h⟩
  · rename_i xs e1
    obtain ⟨p, vs, rfl, h1, r1⟩ := dr_tup ok rx e1
    exact call_len_seq pins s σ _ _ us Q I rs ⟨p, vs, rfl, .inr h1, by rw [r1.length]; exact q _ W os _ (Sn.refl W) ok iB h⟩
  · rename_i xs e1
    obtain ⟨p, o, vs, rfl, h1, r1⟩ := dr_frz ok rx e1
    exact call_len_seq pins s σ _ _ us Q I rs ⟨p, vs, rfl, .inl (.inl (.inr ⟨o, h1⟩)), by rw [r1.length]; exact q _ W os _ (Sn.refl W) ok iB h⟩
  · rename_i z e1
    refine call_len_str pins s σ _ _ us Q I rs ⟨z, by rw [dr_str rx e1], h.1, q _ W os _ (Sn.refl W) ok iB h.2⟩
  · rename_i kvs e1
    obtain ⟨p, kw, rfl, h1, r1⟩ := dr_dic ok rx e1
    exact call_lenD pins s σ _ _ us Q I rs ⟨p, kw, rfl, h1, by rw [r1.length]; exact q _ W os _ (Sn.refl W) ok iB h⟩
  · exact h.elim
def cOrd : List B → OS → (B → OS → Prop) → Prop := fun bs os κ => ∃ x c, bs = [x] ∧ dr os x = some (.str ⟨#[c]⟩) ∧ κ (.p (.int (c : Nat))) os
theorem ca_ord : CA X (.builtin "ord") cOrd := by
  intro pins s σ H vs us Q I rs h
  obtain ⟨W, os, bs, κ, rfl, ok, rb, ⟨x, c, rfl, e1, h⟩, q⟩ := h
  obtain ⟨v, rfl, rx⟩ := rb.one
  exact call_ord pins s σ _ _ us Q I rs ⟨_, by rw [dr_str rx e1], rfl, q _ W os (.p (.int (c : Nat))) (Sn.refl W) ok iB h⟩
def cChr : List B → OS → (B → OS → Prop) → Prop := fun bs os κ => ∃ x i, bs = [x] ∧ dr os x = some (.int i) ∧ 0 ≤ i ∧ i ≤ 1114111 ∧ κ (.p (.str ⟨#[i.toNat]⟩)) os
theorem ca_chr : CA X (.builtin "chr") cChr := by
  intro pins s σ H vs us Q I rs h
  obtain ⟨W, os, bs, κ, rfl, ok, rb, ⟨x, c, rfl, e1, h0, h1, h⟩, q⟩ := h
  obtain ⟨v, rfl, rx⟩ := rb.one
  exact call_chr pins s σ _ _ us Q I rs ⟨_, by rw [dr_int rx e1], h0, h1, q _ W os _ (Sn.refl W) ok sB h⟩
def cAbs : List B → OS → (B → OS → Prop) → Prop := fun bs os κ => ∃ x i, bs = [x] ∧ dr os x = some (.int i) ∧ κ (.p (.int (if i < 0 then -i else i))) os
theorem ca_abs : CA X (.builtin "abs") cAbs := by
  intro pins s σ H vs us Q I rs h
  obtain ⟨W, os, bs, κ, rfl, ok, rb, ⟨x, c, rfl, e1, h⟩, q⟩ := h
  obtain ⟨v, rfl, rx⟩ := rb.one
  exact call_abs pins s σ _ _ us Q I rs ⟨_, by rw [dr_int rx e1], q _ W os _ (Sn.refl W) ok iB h⟩
def cInt : List B → OS → (B → OS → Prop) → Prop := fun bs os κ => ∃ x, bs = [x] ∧ match dr os x with
  | some (.int i) => κ (.p (.int i)) os
  | some (.bl k) => κ (.p (.int (if k then 1 else 0))) os
  | _ => False
theorem ca_int : CA X (.type "int") cInt := by
  intro pins s σ H vs us Q I rs h
  obtain ⟨W, os, bs, κ, rfl, ok, rb, ⟨x, rfl, h⟩, q⟩ := h
  obtain ⟨v, rfl, rx⟩ := rb.one
  split at h
  · rename_i i e1
    exact call_int1 pins s σ _ _ us Q I rs (.inl ⟨i, by rw [dr_int rx e1], q _ W os _ (Sn.refl W) ok iB h⟩)
  · rename_i k e1
    exact call_int1 pins s σ _ _ us Q I rs (.inr ⟨k, by rw [(dr_flat rx e1 rfl).1]; rfl, q _ W os _ (Sn.refl W) ok iB h⟩)
  · exact h.elim
def cTuple : List B → OS → (B → OS → Prop) → Prop := fun bs os κ => ∃ x xs, bs = [x] ∧ (dr os x = some (.lst xs) ∨ dr os x = some (.tup xs)) ∧ κ (.p (.tup xs)) os
theorem ca_tuple : CA X (.type "tuple") cTuple := by
  intro pins s σ H vs us Q I rs h
  obtain ⟨W, os, bs, κ, rfl, ok, rb, ⟨x, xs, rfl, e1, h⟩, q⟩ := h
  obtain ⟨v, rfl, rx⟩ := rb.one
  rcases e1 with e1 | e1
  · obtain ⟨p, vs, rfl, h1, r1⟩ := dr_lst ok rx e1
    refine call_tuple_of pins s σ _ _ us Q I rs ⟨p, vs, rfl, .inl ⟨sqL_of h1, fun l hl => ?_⟩⟩
    obtain ⟨W2, e3, ok2, s2, r3⟩ := newT ok hl r1
    rw [← e3]
    exact q _ _ _ _ s2 ok2 r3 h
  · obtain ⟨p, vs, rfl, h1, r1⟩ := dr_tup ok rx e1
    exact call_tuple_of pins s σ _ _ us Q I rs ⟨p, vs, rfl, .inr ⟨h1, q _ W os _ (Sn.refl W) ok (rx.tupAgain e1) h⟩⟩
def cList : List B → OS → (B → OS → Prop) → Prop := fun bs os κ => ∃ x xs, bs = [x] ∧ (dr os x = some (.lst xs) ∨ dr os x = some (.tup xs)) ∧ κ (.p (.lst xs)) os
theorem ca_list : CA X (.type "list") cList := by
  intro pins s σ H vs us Q I rs h
  obtain ⟨W, os, bs, κ, rfl, ok, rb, ⟨x, xs, rfl, e1, h⟩, q⟩ := h
  obtain ⟨v, rfl, rx⟩ := rb.one
  obtain ⟨p, vs, rfl, h1, r1⟩ := dr_seq ok rx e1
  refine call_list_of pins s σ _ _ us Q I rs ⟨p, vs, rfl, h1, fun l hl => ?_⟩
  obtain ⟨W2, e3, ok2, s2, r3⟩ := newL ok hl r1
  rw [← e3]
  exact q _ _ _ _ s2 ok2 r3 h
def cAll : List B → OS → (B → OS → Prop) → Prop := fun bs os κ => ∃ x, ∃ ks : List Bool, bs = [x] ∧ dr os x = some (.lst (ks.map A.bl)) ∧ κ (.p (.bl (ks.all id))) os
theorem ca_all (hc : X.calm = true) : CA X (.builtin "all") cAll := by
  intro pins s σ H vs us Q I rs h
  obtain ⟨W, os, bs, κ, rfl, ok, rb, ⟨x, ks, rfl, e1, h⟩, q⟩ := h
  obtain ⟨v, rfl, rx⟩ := rb.one
  obtain ⟨p, vs, rfl, h1, r1⟩ := dr_lst ok rx e1
  exact cr_all hc pins s σ _ _ us Q I rs ⟨p, ks, rfl, by rw [← r1.blL']; exact sqL_of h1, q _ W os _ (Sn.refl W) ok bB h⟩
def cAny : List B → OS → (B → OS → Prop) → Prop := fun bs os κ => ∃ x, ∃ ks : List Bool, bs = [x] ∧ dr os x = some (.lst (ks.map A.bl)) ∧ κ (.p (.bl (ks.any id))) os
theorem ca_any (hc : X.calm = true) : CA X (.builtin "any") cAny := by
  intro pins s σ H vs us Q I rs h
  obtain ⟨W, os, bs, κ, rfl, ok, rb, ⟨x, ks, rfl, e1, h⟩, q⟩ := h
  obtain ⟨v, rfl, rx⟩ := rb.one
  obtain ⟨p, vs, rfl, h1, r1⟩ := dr_lst ok rx e1
  exact cr_any hc pins s σ _ _ us Q I rs ⟨p, ks, rfl, by rw [← r1.blL']; exact sqL_of h1, q _ W os _ (Sn.refl W) ok bB h⟩
/-! ### isinstance -/
structure TyIns (K : PySem.W.Frag) (C : Addr) : Prop where
  cl : Cls K C
  ha : PySem.W.findIn K (.ref C) "__class__" = some (some (.builtin "object.__class__"))
  hn : PySem.W.specialIn K (.builtin "object.__class__") "__get__" = some (some (.builtin "getset_descriptor.__get__"))
  htk : PySem.W.takesIn K (.builtin "object.__class__") = some true
  hm : PySem.W.mroIn K C (.type "object") = some true
def tyA (K : PySem.W.Frag) : A → Option Value
  | .non => some (.type "NoneType")
  | .bl _ => some (.type "bool")
  | .int _ => some (.type "int")
  | .str _ => some (.type "str")
  | .lst _ => some (.type "list")
  | .frz _ => some (.type "list")
  | .tup _ => some (.type "tuple")
  | .dic _ => some (.type "dict")
  | .ins C _ => some (.ref (cAt K C))
  | .val _ => none
  | .exc _ _ => none
theorem tyT {K : PySem.W.Frag} {H : Hp} {a : Addr} {vs : List V} (h : SqT K H a vs) : TyX K H (.ref a) (.type "tuple") := by
  rcases h with (h | ⟨o, h⟩) | ⟨o, its, n, hk, hc, _⟩
  · exact .base (.tup h)
  · exact .fTuple h
  · exact .kTuple hk hc
theorem AR.ty {K : PySem.W.Frag} {G H : Hp} (e : Ex G H) {v : V} {a : A} {t : Value} (r : AR K G v a) (h : tyA K a = some t) (hi : ∀ C gs, a = .ins C gs → TyIns K (cAt K C)) : TyX K H v t := by
  cases r with
  | non => cases h; exact .base .non
  | bl b => cases h; exact .base (.bl b)
  | int b => cases h; exact .base (.int b)
  | str b => cases h; exact .base (.str b)
  | lst h1 _ => cases h; exact .base (.lst (e _ _ h1))
  | frz h1 _ => cases h; exact .base (.frz (e _ _ h1))
  | tup h1 _ => cases h; exact tyT (ex_t e h1)
  | dic h1 _ => cases h; exact .base (.dK (e _ _ h1))
  | ins h1 _ =>
    cases h
    have T := hi _ _ rfl
    exact .base (.ins (e _ _ h1) T.cl T.ha T.hn T.htk T.hm)
  | val v => cases h
  | exc0 _ => cases h
  | exc _ _ _ => cases h
theorem dr_ty {K : PySem.W.Frag} {W : Wd} {os : OS} {v : V} {b : B} {a : A} {t : Value} (ok : Wok K W os) (r : BR K W v b) (h : dr os b = some a) (ht : tyA K a = some t) (hi : ∀ C gs, a = .ins C gs → TyIns K (cAt K C)) : TyX K W.H v t := by
  cases b with
  | p a' => cases h; exact AR.ty ok.sub r ht hi
  | own k =>
    obtain ⟨l, hl, rfl⟩ := r
    obtain ⟨o, ho, ⟨ys, rfl, rfl⟩ | ⟨ys, rfl, rfl⟩ | ⟨D, ys, rfl, rfl⟩⟩ := dr_own h
    · obtain ⟨_, vs, h1, h2⟩ := ok.own k l _ hl ho; cases ht; exact .base (.lst h1)
    · obtain ⟨_, vs, h1, h2⟩ := ok.own k l _ hl ho; cases ht; exact .base (.dK h1)
    · obtain ⟨_, dx, fs, h1, h2⟩ := ok.own k l _ hl ho
      have T := hi _ _ rfl
      cases ht
      exact .base (.ins h1 T.cl T.ha T.hn T.htk T.hm)
/-- isinstance(x, c): f tells the answer where okA holds -/
structure IsK (K : PySem.W.Frag) (okA : A → Prop) (us : List Value) (f : A → Bool) : Prop where
  ans : ∀ a, okA a → ∃ t, tyA K a = some t ∧ PySem.W.kitAny K t us = some (f a)
  ins : ∀ C gs, okA (.ins C gs) → TyIns K (cAt K C)
theorem IsK.dr_ty {K : PySem.W.Frag} {okA : A → Prop} {us : List Value} {f : A → Bool} (k : IsK K okA us f) {a : A} (h : okA a) : (∃ t, tyA K a = some t ∧ PySem.W.kitAny K t us = some (f a)) ∧ ∀ C gs, a = .ins C gs → TyIns K (cAt K C) :=
  ⟨k.ans a h, fun C gs e => k.ins C gs (e ▸ h)⟩
theorem kit1 {K : PySem.W.Frag} {t u : Value} {b : Bool} (h : PySem.W.kitAny K t [u] = some b) : PySem.W.kitOne K t u = some b := by
  unfold PySem.W.kitAny at h
  cases e : PySem.W.kitOne K t u with
  | none => rw [e] at h; cases h
  | some c => rw [e] at h; cases c with
    | true => exact h
    | false => unfold PySem.W.kitAny at h; exact h
def cIsi (okA : A → Prop) (f : A → Bool) (u : V) : List B → OS → (B → OS → Prop) → Prop := fun bs os κ => ∃ x a, bs = [x, .p (.val u)] ∧ dr os x = some a ∧ okA a ∧ κ (.p (.bl (f a))) os
theorem ca_isi {okA : A → Prop} {f : A → Bool} {cv : V} {u : Value} (c : ClsV cv u) (k : IsK X.K okA [u] f) : CA X (.builtin "isinstance") (cIsi okA f cv) := by
  intro pins s σ H vs us Q I rs h
  obtain ⟨W, os, bs, κ, rfl, ok, rb, ⟨x, a, rfl, e1, ha, h⟩, q⟩ := h
  obtain ⟨v, w, rfl, rx, ry⟩ := rb.two
  obtain ⟨⟨t, h1, h2⟩, h3⟩ := k.dr_ty ha
  exact call_isi pins s σ _ _ us Q I rs ⟨v, w, t, u, f a, rfl, by rw [BR.val ry]; exact c, dr_ty ok rx e1 h1 h3, kit1 h2, q _ W os _ (Sn.refl W) ok bB h⟩
/-- isinstance(x, (c1, ..)) -/
def aIsT (okA : A → Prop) (f : A → Bool) (tx : ATE) : ATE := fun as os κ => tx as os fun x os1 => ∃ a, dr os1 x = some a ∧ okA a ∧ κ (.p (.bl (f a))) os1
theorem ae_isT {okA : A → Prop} {f : A → Bool} {us : List Value} {cs : List V} {tcs : TA} {cs' : List Expr} {x1} {p p2 pos : Pos} {tx : ATE} (hx : AE X e tx) (k : IsK X.K okA us f) (hc : Paired ClsV cs us) (hl : cs.length ≤ sizeLine) (ht : PA X cs' tcs) (htc : ∀ σ H Q, Q cs H → tcs σ H Q)
    (hg : Gl X "isinstance") (hm : X.mg "isinstance" = none) (hb : bootBuiltins "isinstance" = some (.builtin "isinstance"))
    (h1 : starEach [e, .Tuple cs' x1 p2] X.env = (false, eval e X.env) :: starEach [.Tuple cs' x1 p2] X.env := by rfl) (h2 : starEach [.Tuple cs' x1 p2] X.env = (false, eval (.Tuple cs' x1 p2) X.env) :: starEach [] X.env := by rfl)
    (pcb : PA X [e, .Tuple cs' x1 p2] (tCons (cE X.K tx) (tCons (tTup tcs) tNil)) → PE X (.Call (.Name "isinstance" p) [e, .Tuple cs' x1 p2] [] pos) (tCB (rIsiT X.K) (tCons (cE X.K tx) (tCons (tTup tcs) tNil)))) :
    AE X (.Call (.Name "isinstance" p) [e, .Tuple cs' x1 p2] [] pos) (aIsT okA f tx) := PEm (pcb (pa_cons hx (pa_cons (pe_tup ht) pa_nil h2) h1)) fun σ H Q q => by
  obtain ⟨W, as, os, κ, rfl, ok, sl, k1, q⟩ := q
  refine ⟨W, as, os, _, rfl, ok, sl, k1, fun vx W1 os1 bx s1 ok1 rx ⟨a, ha, hoa, h1⟩ => ?_⟩
  refine htc _ _ _ ⟨hl, fun l hl => ?_⟩
  obtain ⟨⟨t, g1, g2⟩, g3⟩ := k.dr_ty hoa
  obtain ⟨ok2, s2⟩ := ok1.new hl (.tup cs)
  refine ⟨vx, l, cs, t, us, f a, rfl, upd_same, hc, ?_, g2, q _ _ _ _ (s1.trans s2) ok2 bB h1⟩
  exact dr_ty ok2 (rx.mono s2) ha g1 g3
end
end AB

end

section
set_option Elab.async false
set_option linter.all false
set_option maxRecDepth 100000
set_option maxHeartbeats 4000000
namespace AB
open PySem PySem.Spec PyProof.Rows L2 Evl
/-! ### attributes, calls -/
def aFld (K : PySem.W.Frag) (f : Str) (te : ATE) : ATE := fun as os κ => te as os fun x os1 => ∃ C gs a, dr os1 x = some (.ins C gs) ∧ Cls K (cAt K C) ∧ NoAttr K (cAt K C) f ∧ gs.lookup f = some a ∧ κ (.p a) os1
abbrev ASp := List B → OS → (B → OS → Prop) → Prop
/-- a def's promise over plain data -/
def cSp (K : PySem.W.Frag) (sp : ASp) : Sp := fun vs H Q _ => ∃ (W : Wd) (bs : List B) (os : OS) (κ : B → OS → Prop), W.H = H ∧ Wok K W os ∧ BRs K W vs bs ∧ sp bs os κ ∧
  ∀ v W' os' b, Sn W W' → Wok K W' os' → BR K W' v b → κ b os' → Q v W'.H
/-- what a callee hands back: a plain value, or a new owned object -/
def resP (κ : B → OS → Prop) (os1 : OS) : B → OS → Prop := fun r os' => match r, os' with
  | .p a, _ => κ (.p a) os1
  | .own k, os' => ∃ ob, os'[k]? = some ob ∧ κ (.own os1.length) (os1 ++ [ob])
def toOne : B → B
  | .own _ => .own 0
  | .p a => .p a
def res1 (κ : B → OS → Prop) (k : Nat) (os1 : OS) : B → OS → Prop := fun r os' => match r, os' with
  | .p a, ob :: _ => κ (.p a) (os1.set k ob)
  | _, _ => False
def aCall (sp : ASp) (ds : List A) (t : ATA) : ATE := fun as os κ => t as os fun bs os1 => ∃ xs, bs = xs.map B.p ∧ sp ((xs ++ ds).map B.p) [] (resP κ os1)
/-- a call that is handed one owned object -/
def aCall1 (sp : ASp) (ds : List A) (t : ATA) : ATE := fun as os κ => t as os fun bs os1 => ∃ k ob, os1[k]? = some ob ∧ (∀ j, B.own j ∈ bs → j = k) ∧ sp (bs.map toOne ++ ds.map B.p) [ob] (res1 κ k os1)
section
variable {K : PySem.W.Frag} {W1 W' : Wd} {os1 os' : OS}
theorem Wok.pureW (ok : Wok K W1 os1) : Wok K ⟨W1.G, W1.H, []⟩ [] := ⟨ok.sub, rfl, by simp, by simp, by simp⟩
theorem Wok.oneW (ok : Wok K W1 os1) {k : Nat} {l : Addr} {ob : OB} (hl : W1.ls[k]? = some l) (ho : os1[k]? = some ob) : Wok K ⟨W1.G, W1.H, [l]⟩ [ob] := by
  refine ⟨ok.sub, rfl, by simp, fun x hx => ?_, fun j x o h1 h2 => ?_⟩
  · have : x = l := by simpa using hx
    subst this; exact ok.has x (List.mem_of_getElem? hl)
  · cases j with
    | zero => simp at h1 h2; subst h1 h2; exact (ok.own k l ob hl ho).keep (Ex.refl _) id rfl
    | succ j => simp at h1
/-- behind a pure call: the caller's owned objects stand -/
theorem back0 (ok : Wok K W1 os1) (s : Sn ⟨W1.G, W1.H, []⟩ W') (ok' : Wok K W' os') : Wok K ⟨W'.G, W'.H, W1.ls⟩ os1 ∧ Sn W1 ⟨W'.G, W'.H, W1.ls⟩ := by
  refine ⟨⟨ok'.sub, ok.len, ok.nd, fun l hl => s.al l (ok.has l hl), fun k l o h1 h2 => ?_⟩, ⟨s.g, fun a o h _ => s.h a o h (by simp), fun a h _ n => s.st a h (by simp) n, fun _ _ h => h, fun k l h q => ?_, s.al⟩⟩
  · have hm := ok.has l (List.mem_of_getElem? h1)
    refine (ok.own k l o h1 h2).keep s.g (fun z => s.st l hm (by simp) z) ?_
    cases e : W1.H l with
    | none => exact absurd e hm
    | some u => exact s.h l u e (by simp)
  · have := (List.getElem?_eq_some_iff.mp h).1
    exact absurd this (by show ¬ k < W1.ls.length; omega)
theorem back0O (ok : Wok K W1 os1) {n : Nat} {ob : OB} {l : Addr} (s : Sn ⟨W1.G, W1.H, []⟩ W') (ok' : Wok K W' os') (hl : W'.ls[n]? = some l) (hn : os'[n]? = some ob) : Wok K ⟨W'.G, W'.H, W1.ls ++ [l]⟩ (os1 ++ [ob]) ∧ Sn W1 ⟨W'.G, W'.H, W1.ls ++ [l]⟩ := by
  have hf : W1.H l = none := s.fr n l hl (Nat.zero_le _)
  have hnl : l ∉ W1.ls := fun z => ok.has l z hf
  obtain ⟨o1, s1⟩ := back0 ok s ok'
  refine ⟨⟨ok'.sub, by simp [ok.len], ?_, fun x hx => ?_, fun k x o h1 h2 => ?_⟩, ⟨s.g, s1.h, s1.st, fun k x h => ?_, fun k x h q => ?_, s.al⟩⟩
  · show (W1.ls ++ [l]).Nodup
    rw [List.nodup_append]
    refine ⟨ok.nd, by simp, fun a ha b hb => ?_⟩
    have hb' : b = l := by simpa using hb
    subst hb'
    exact fun z => hnl (z ▸ ha)
  · have hx' : x ∈ W1.ls ++ [l] := hx
    rw [List.mem_append] at hx'
    rcases hx' with hx' | hx'
    · exact o1.has x hx'
    · have : x = l := by simpa using hx'
      subst this
      exact ok'.has x (List.mem_of_getElem? hl)
  · have h1' : (W1.ls ++ [l])[k]? = some x := h1
    by_cases hk : k < W1.ls.length
    · rw [List.getElem?_append_left hk] at h1'
      rw [List.getElem?_append_left (by rw [← ok.len]; exact hk)] at h2
      exact o1.own k x o h1' h2
    · have hk' : k = W1.ls.length := by
        have := (List.getElem?_eq_some_iff.mp h1').1
        simp at this; omega
      subst hk'
      rw [List.getElem?_append_right (Nat.le_refl _)] at h1'
      rw [ok.len, List.getElem?_append_right (Nat.le_refl _)] at h2
      simp at h1' h2
      subst h1' h2
      exact ok'.own n _ _ hl hn
  · show (W1.ls ++ [l])[k]? = some x
    rw [List.getElem?_append_left (List.getElem?_eq_some_iff.mp h).1]; exact h
  · have h' : (W1.ls ++ [l])[k]? = some x := h
    rw [List.getElem?_append_right q] at h'
    have hk : k - W1.ls.length < 1 := (List.getElem?_eq_some_iff.mp h').1
    have hk' : k - W1.ls.length = 0 := by omega
    rw [hk'] at h'
    simp at h'
    subst h'; exact hf
/-- behind a call that was handed one owned object -/
theorem back1 (ok : Wok K W1 os1) {k : Nat} {l : Addr} {ob' : OB} {rest : OS} (hl : W1.ls[k]? = some l) (s : Sn ⟨W1.G, W1.H, [l]⟩ W') (ok' : Wok K W' (ob' :: rest)) : Wok K ⟨W'.G, W'.H, W1.ls⟩ (os1.set k ob') ∧ Sn W1 ⟨W'.G, W'.H, W1.ls⟩ := by
  have hlm := List.mem_of_getElem? hl
  refine ⟨⟨ok'.sub, by simp [ok.len], ok.nd, fun x hx => s.al x (ok.has x hx), fun j x o h1 h2 => ?_⟩, ⟨s.g, fun a o h n => s.h a o h (by intro z; exact n ((show a = l by simpa using z) ▸ hlm)), fun a h m n => s.st a h (by intro z; exact m ((show a = l by simpa using z) ▸ hlm)) n, fun _ _ h => h, fun j x h q => ?_, s.al⟩⟩
  · by_cases z : j = k
    · subst z
      have e : x = l := by
        have h1' : W1.ls[j]? = some x := h1
        rw [hl] at h1'; exact (Option.some.inj h1').symm
      subst e
      have hk : j < os1.length := by
        have := (List.getElem?_eq_some_iff.mp h2).1
        simpa using this
      rw [List.getElem?_set_self hk] at h2
      cases h2
      exact ok'.own 0 x _ (s.pre 0 x rfl) rfl
    · rw [List.getElem?_set_ne (fun y => z y.symm)] at h2
      have h1' : W1.ls[j]? = some x := h1
      have hx : x ≠ l := fun y => by
        subst y
        exact z ((List.getElem?_inj (List.getElem?_eq_some_iff.mp h1').1 ok.nd).mp (h1'.trans hl.symm))
      have hm := ok.has x (List.mem_of_getElem? h1')
      refine (ok.own j x o h1' h2).keep s.g (fun y => s.st x hm (by simpa using hx) y) ?_
      cases e : W1.H x with
      | none => exact absurd e hm
      | some u => exact s.h x u e (by simpa using hx)
  · have := (List.getElem?_eq_some_iff.mp h).1
    exact absurd this (by show ¬ j < W1.ls.length; omega)
theorem oneRel {vs : List V} {bs : List B} (ok : Wok K W1 os1) {k : Nat} {l : Addr} (hl : W1.ls[k]? = some l) (r : BRs K W1 vs bs) (h : ∀ j, B.own j ∈ bs → j = k) : BRs K ⟨W1.G, W1.H, [l]⟩ vs (bs.map toOne) := by
  induction r with
  | nil => exact .nil
  | @cons v vs b bs hb t ih =>
    refine .cons ?_ (ih fun j hj => h j (List.mem_cons_of_mem _ hj))
    cases b with
    | p a => exact hb
    | own j =>
      obtain ⟨l', h1, h2⟩ := hb
      have e := h j List.mem_cons_self
      subst e
      rw [hl] at h1
      cases h1
      exact ⟨l, rfl, h2⟩
theorem ARs.dfl {G : Hp} {dvs : List V} {ds : List A} (h : ∀ G, ARs K G dvs ds) : ARs K G dvs ds := h G
/-- the heart of a pure call -/
theorem call0 {sp : ASp} {ds : List A} {dvs : List V} {vs : List V} {xs : List A} {κ : B → OS → Prop} {Q : VK} {E : XK} {W0 : Wd} (hds : ∀ G, ARs K G dvs ds) (ok : Wok K W1 os1) (r : ARs K W1.G vs xs) (h : sp ((xs ++ ds).map B.p) [] (resP κ os1))
    (q : ∀ v W' os' b, Sn W1 W' → Wok K W' os' → BR K W' v b → κ b os' → Q v W'.H) : cSp K sp (vs ++ dvs) W1.H Q E := by
  refine ⟨⟨W1.G, W1.H, []⟩, _, [], _, rfl, ok.pureW, BRs.pure (r.append (hds _)), h, fun v W' os' b s ok' rb k => ?_⟩
  cases b with
  | p a =>
    obtain ⟨o2, s2⟩ := back0 ok s ok'
    exact q v ⟨W'.G, W'.H, W1.ls⟩ os1 (.p a) s2 o2 rb k
  | own j =>
    obtain ⟨ob, hob, k⟩ : ∃ ob, os'[j]? = some ob ∧ κ (.own os1.length) (os1 ++ [ob]) := k
    obtain ⟨l, hl, rfl⟩ := rb
    obtain ⟨o2, s2⟩ := back0O ok s ok' hl hob
    refine q _ ⟨W'.G, W'.H, W1.ls ++ [l]⟩ (os1 ++ [ob]) (.own os1.length) s2 o2 ⟨l, ?_, rfl⟩ k
    show (W1.ls ++ [l])[os1.length]? = some l
    rw [← ok.len, List.getElem?_append_right (Nat.le_refl _)]
    simp
theorem call1 {sp : ASp} {ds : List A} {dvs : List V} {vs : List V} {bs : List B} {κ : B → OS → Prop} {Q : VK} {E : XK} {k : Nat} {ob : OB} (hds : ∀ G, ARs K G dvs ds) (ok : Wok K W1 os1) (r : BRs K W1 vs bs) (ho : os1[k]? = some ob) (hb : ∀ j, B.own j ∈ bs → j = k)
    (h : sp (bs.map toOne ++ ds.map B.p) [ob] (res1 κ k os1)) (q : ∀ v W' os' b, Sn W1 W' → Wok K W' os' → BR K W' v b → κ b os' → Q v W'.H) : cSp K sp (vs ++ dvs) W1.H Q E := by
  have hk : k < W1.ls.length := by rw [ok.len]; exact (List.getElem?_eq_some_iff.mp ho).1
  have hl : W1.ls[k]? = some W1.ls[k] := List.getElem?_eq_getElem hk
  refine ⟨⟨W1.G, W1.H, [W1.ls[k]]⟩, _, [ob], _, rfl, ok.oneW hl ho, (oneRel ok hl r hb).append (BRs.pure (hds _)), h, fun v W' os' b s ok' rb k' => ?_⟩
  cases b with
  | own j => cases os' <;> exact (show False from k').elim
  | p a =>
    cases os' with
    | nil => exact (show False from k').elim
    | cons ob' rest =>
      obtain ⟨o2, s2⟩ := back1 ok hl s ok'
      exact q v ⟨W'.G, W'.H, W1.ls⟩ (os1.set k ob') (.p a) s2 o2 rb k'
end
/-- a new instance: __init__ fills it; it is handed on as plain data -/
def resM (C : String) (κ : B → OS → Prop) (os1 : OS) : B → OS → Prop := fun r os' => match r, os' with
  | .p .non, .ins C' gs :: _ => C' = C ∧ κ (.p (.ins C gs)) os1
  | _, _ => False
def aMake (C : String) (sp : ASp) (ds : List A) (t : ATA) : ATE := fun as os κ => t as os fun bs os1 => ∃ xs, bs = xs.map B.p ∧ sp (.own 0 :: (xs ++ ds).map B.p) [.ins C []] (resM C κ os1)
def aMeth (C : String) (m : Str) (sp : ASp) (ds : List A) (to : ATE) (t : ATA) : ATE := fun as os κ => to as os fun x os1 => ∃ gs, x = .p (.ins C gs) ∧ gs.lookup m = none ∧ t as os1 fun bs os2 => ∃ xs, bs = xs.map B.p ∧ sp (x :: (xs ++ ds).map B.p) [] (resP κ os2)
section
variable {X : Cx} {CX : CXT} {k : Nat} {f : Addr} {C : String} {fd : FuncData} {ps : List Str} {sp : ASp} {dvs : List V} {ds : List Value} {das : List A} {x m : Str} {p pos apos : Pos} {e o : Expr} {es : List Expr} {to te : ATE} {t : ATA}
theorem ae_fld {n : Str} (he : AE X e te) (hb : attributeBase e n X.env (eval e X.env) = eval e X.env := by rfl) : AE X (.Attribute e n pos) (aFld X.K n te) := PEm (pe_fld he hb) fun σ H Q q => by
  obtain ⟨W, as, os, κ, rfl, ok, sl, k, q⟩ := q
  refine ⟨W, as, os, _, rfl, ok, sl, k, fun vx W1 os1 bx s1 ok1 rx ⟨C, gs, a, h1, c, n, l, h2⟩ => ?_⟩
  obtain ⟨p, dx, fs, rfl, g1, g2⟩ := dr_ins ok1 rx h1
  obtain ⟨v, g3, g4⟩ := g2.get l
  exact ⟨p, _, dx, fs, v, rfl, g1, c, n, g3, q v W1 os1 (.p a) s1 ok1 g4 h2⟩
theorem cE_call {K : PySem.W.Frag} {E : XK} {σ : L2.St} {H : Hp} {Q : VK} (hds : ∀ G, ARs K G dvs das) (h : cE K (aCall sp das t) σ H Q) : tCall (cSp K sp) dvs E (cA K t) σ H Q := by
  obtain ⟨W, as, os, κ, rfl, ok, sl, h, q⟩ := h
  refine ⟨W, as, os, _, rfl, ok, sl, h, fun vs W1 os1 bs s1 ok1 rs ⟨xs, hb, h1⟩ => ?_⟩
  subst hb
  exact call0 (W0 := W) hds ok1 rs.pure' h1 fun v W' os' b s2 ok2 r2 k2 => q v W' os' b (s1.trans s2) ok2 r2 k2
theorem cE_call1 {K : PySem.W.Frag} {E : XK} {σ : L2.St} {H : Hp} {Q : VK} (hds : ∀ G, ARs K G dvs das) (h : cE K (aCall1 sp das t) σ H Q) : tCall (cSp K sp) dvs E (cA K t) σ H Q := by
  obtain ⟨W, as, os, κ, rfl, ok, sl, h, q⟩ := h
  refine ⟨W, as, os, _, rfl, ok, sl, h, fun vs W1 os1 bs s1 ok1 rs ⟨k, ob, ho, hb, h1⟩ => ?_⟩
  exact call1 hds ok1 rs ho hb h1 fun v W' os' b s2 ok2 r2 k2 => q v W' os' b (s1.trans s2) ok2 r2 k2
theorem cE_make {K : PySem.W.Frag} {E : XK} {σ : L2.St} {H : Hp} {Q : VK} (hds : ∀ G, ARs K G dvs das) (h : cE K (aMake C sp das t) σ H Q) : tMake (cAt K C) (cSp K sp) dvs E (cA K t) σ H Q := by
  obtain ⟨W, as, os, κ, rfl, ok, sl, h, q⟩ := h
  refine ⟨W, as, os, _, rfl, ok, sl, h, fun vs W1 os1 bs s1 ok1 rs ⟨xs, hb, h1⟩ x dx hx hdx hne => ?_⟩
  subst hb
  have hG := ok1.free hx
  have r := (rs.pure').append (hds W1.G)
  have e0 : Ex W1.H (upd W1.H dx (.own x)) := Ex.new hdx
  have hx' : (upd W1.H dx (.own x)) x = none := by rw [upd_ne (Ne.symm hne)]; exact hx
  refine ⟨⟨W1.G, upd (upd W1.H dx (.own x)) x (.ins (cAt K C) dx []), [x]⟩, _, [.ins C []], _, rfl, ?_, .cons (show BR K ⟨W1.G, upd (upd W1.H dx (.own x)) x (.ins (cAt K C) dx []), [x]⟩ (.ref x) (.own 0) from ⟨x, rfl, rfl⟩) (BRs.pure r), h1, fun v W' os' b s ok' rb k => ?_⟩
  · refine ⟨(ok1.sub.trans e0).trans (Ex.new hx'), rfl, by simp, fun l hl => ?_, fun j l o h2 h3 => ?_⟩
    · have : l = x := by simpa using hl
      subst this
      show upd _ _ _ l ≠ none
      rw [upd_same]; simp
    · cases j with
      | succ j => simp at h2
      | zero =>
        simp at h2 h3
        subst h2 h3
        exact ⟨hG, dx, [], upd_same, .nil⟩
  · cases b with
    | own j => cases os' <;> exact (show False from k).elim
    | p a =>
      cases os' with
      | nil => cases a <;> exact (show False from k).elim
      | cons ob' rest =>
        cases a <;> first | exact (show False from k).elim | skip
        cases ob' <;> first | exact (show False from k).elim | skip
        rename_i C' gs
        obtain ⟨hC, k⟩ : C' = C ∧ κ (.p (.ins C gs)) os1 := k
        subst hC
        refine ⟨rb.non, ?_⟩
        obtain ⟨hG', dx', fs, hH', hf⟩ := ok'.own 0 x _ (s.pre 0 x rfl) rfl
        -- the caller's world
        have hst : ∀ a o, W1.H a = some o → W'.H a = some o := fun a o h => by
          have hne1 : a ≠ x := ne_of_none h hx
          have hne2 : a ≠ dx := ne_of_none h hdx
          refine s.h a o ?_ (by simpa using hne1)
          show upd (upd W1.H dx (.own x)) x (.ins (cAt K C') dx []) a = some o
          rw [upd_ne hne1, upd_ne hne2]; exact h
        have hal : ∀ a, W1.H a ≠ none → W'.H a ≠ none := fun a h => by
          cases e : W1.H a with
          | none => exact absurd e h
          | some o => rw [hst a o e]; simp
        have hsg : ∀ a, W1.H a ≠ none → W1.G a = none → W'.G a = none := fun a h n => by
          refine s.st a ?_ (by simpa using fun z : a = x => h (by rw [z]; exact hx)) n
          have hne1 : a ≠ x := fun z => h (by rw [z]; exact hx)
          have hne2 : a ≠ dx := fun z => h (by rw [z]; exact hdx)
          show upd (upd W1.H dx (.own x)) x (.ins (cAt K C') dx []) a ≠ none
          rw [upd_ne hne1, upd_ne hne2]; exact h
        have hnx : ∀ l ∈ W1.ls, l ≠ x := fun l hl => ok1.ne hl hx
        have eg : Ex W'.G (upd W'.G x (.ins (cAt K C') dx' fs)) := Ex.new hG'
        refine q (.ref x) ⟨upd W'.G x (.ins (cAt K C') dx' fs), W'.H, W1.ls⟩ os1 (.p (.ins C' gs)) (s1.trans ?_) ?_ ?_ k
        · refine ⟨Ex.trans s.g eg, fun a o h _ => hst a o h, fun a h _ n => ?_, fun _ _ h => h, fun j l h q => ?_, hal⟩
          · show upd W'.G x (.ins (cAt K C') dx' fs) a = none
            rw [upd_ne (fun z => h (by rw [z]; exact hx))]
            exact hsg a h n
          · have := (List.getElem?_eq_some_iff.mp h).1
            exact absurd this (by show ¬ j < W1.ls.length; omega)
        · refine ⟨fun a o h => ?_, ok1.len, ok1.nd, fun l hl => hal l (ok1.has l hl), fun j l o h2 h3 => ?_⟩
          · by_cases z : a = x
            · subst z
              have h' : upd W'.G a (.ins (cAt K C') dx' fs) a = some o := h
              rw [upd_same] at h'; cases h'; exact hH'
            · have h' : upd W'.G x (.ins (cAt K C') dx' fs) a = some o := h
              rw [upd_ne z] at h'; exact ok'.sub a o h'
          · have hm := ok1.has l (List.mem_of_getElem? h2)
            refine (ok1.own j l o h2 h3).keep (Ex.trans s.g eg) (fun z => ?_) ?_
            · show upd W'.G x (.ins (cAt K C') dx' fs) l = none
              rw [upd_ne (hnx l (List.mem_of_getElem? h2))]
              exact hsg l hm z
            · cases e : W1.H l with
              | none => exact absurd e hm
              | some u => exact hst l u e
        · exact .ins upd_same (hf.mono eg)
theorem cE_meth {K : PySem.W.Frag} {E : XK} {σ : L2.St} {H : Hp} {Q : VK} (hds : ∀ G, ARs K G dvs das) (h : cE K (aMeth C m sp das to t) σ H Q) : tMeth (cAt K C) m (cSp K sp) dvs E (cE K to) (cA K t) σ H Q := by
  obtain ⟨W, as, os, κ, rfl, ok, sl, h, q⟩ := h
  refine ⟨W, as, os, _, rfl, ok, sl, h, fun vx W1 os1 bx s1 ok1 rx ⟨gs, hx, hl, h1⟩ => ?_⟩
  subst hx
  cases id rx with
  | ins ha hf =>
    rename_i a dx fs
    refine ⟨a, dx, fs, rfl, ok1.sub _ _ ha, hf.none hl, ?_⟩
    refine ⟨W1, as, os1, _, rfl, ok1, sl.mono s1, h1, fun vs W2 os2 bs s2 ok2 rs ⟨xs, hb, h2⟩ => ?_⟩
    subst hb
    exact call0 (W0 := W) (vs := .ref a :: vs) (xs := .ins C gs :: xs) hds ok2 (.cons (rx.mono s2) rs.pure') h2 fun v W' os' b s3 ok3 r3 k3 => q v W' os' b ((s1.trans s2).trans s3) ok3 r3 k3
end
end AB

end

section
set_option Elab.async false
set_option linter.all false
set_option maxRecDepth 100000
set_option maxHeartbeats 4000000
namespace AB
open PySem PySem.Spec PyProof.Rows L2 Evl
/-! ### statements -/
structure AEnds where
  nx : AS → OS → Prop
  rt : B → OS → Prop
  bk : AS → OS → Prop := fun _ _ => False
  ct : AS → OS → Prop := fun _ _ => False
abbrev ATS := AEnds → AS → OS → Prop
structure EndsR (K : PySem.W.Frag) (W0 : Wd) (Δ : AEnds) (D : Ends) : Prop where
  nx : ∀ σ W as os, Sn W0 W → Wok K W os → SlotsR K W σ as → Δ.nx as os → D.nx σ W.H
  rt : ∀ v W b os, Sn W0 W → Wok K W os → BR K W v b → Δ.rt b os → D.rt v W.H
  bk : ∀ σ W as os, Sn W0 W → Wok K W os → SlotsR K W σ as → Δ.bk as os → D.bk σ W.H
  ct : ∀ σ W as os, Sn W0 W → Wok K W os → SlotsR K W σ as → Δ.ct as os → D.ct σ W.H
def cS (K : PySem.W.Frag) (W0 : Wd) (t : ATS) : TS := fun D σ H => ∃ (W : Wd) (as : AS) (os : OS) (Δ : AEnds), W.H = H ∧ Sn W0 W ∧ Wok K W os ∧ SlotsR K W σ as ∧ t Δ as os ∧ EndsR K W0 Δ D
def ASt (X : Cx) (st : Stmt) (t : ATS) : Prop := ∀ W0, PS X st (cS X.K W0 t)
def ABk (X : Cx) (sts : List Stmt) (t : ATS) : Prop := ∀ W0, PSs X sts (cS X.K W0 t)
theorem PSm {X : Cx} {e : Stmt} {t t' : TS} (h : PS X e t) (m : ∀ D σ H, t' D σ H → t D σ H) : PS X e t' := ⟨fun pins s σ H D I q => h.run pins s σ H D I (m D σ H q)⟩
theorem PSsm {X : Cx} {e : List Stmt} {t t' : TS} (h : PSs X e t) (m : ∀ D σ H, t' D σ H → t D σ H) : PSs X e t' := ⟨fun pins s σ H D I q => h.run pins s σ H D I (m D σ H q)⟩
def aNext : ATS := fun Δ as os => Δ.nx as os
def aSeq (t u : ATS) : ATS := fun Δ as os => t { Δ with nx := u Δ } as os
def aBrk : ATS := fun Δ as os => Δ.bk as os
def aCont : ATS := fun Δ as os => Δ.ct as os
def aRet (te : ATE) : ATS := fun Δ as os => te as os Δ.rt
def aRetN : ATS := fun Δ _ os => Δ.rt (.p .non) os
def aDrop (te : ATE) : ATS := fun Δ as os => te as os fun _ os1 => Δ.nx as os1
def aIfS (c : ATT) (t u : ATS) : ATS := fun Δ as os => c as os fun b os1 => if b = true then t Δ as os1 else u Δ as os1
def aNever : ATS := fun _ _ _ => False
/-- targets -/
abbrev ATG := B → AS → OS → (AS → OS → Prop) → Prop
def agName (i : Nat) : ATG := fun b as os κ => κ (as.set i (some b)) os
def setAll (as : AS) : List Nat → List A → AS
  | i :: is, x :: xs => setAll (as.set i (some (.p x))) is xs
  | _, _ => as
def agTup (is : List Nat) : ATG := fun b as os κ => ∃ xs, dr os b = some (.tup xs) ∧ xs.length = is.length ∧ κ (setAll as is xs) os
def cG (K : PySem.W.Frag) (g : ATG) : TG := fun v σ H Q => ∃ (W : Wd) (b : B) (as : AS) (os : OS) (κ : AS → OS → Prop), W.H = H ∧ Wok K W os ∧ BR K W v b ∧ SlotsR K W σ as ∧ g b as os κ ∧
  ∀ σ' W' as' os', Sn W W' → Wok K W' os' → SlotsR K W' σ' as' → κ as' os' → Q σ' W'.H
def AG (X : Cx) (e : Expr) (g : ATG) : Prop := PG X e (cG X.K g)
theorem PGm {X : Cx} {e : Expr} {t t' : TG} (h : PG X e t) (m : ∀ v σ H Q, t' v σ H Q → t v σ H Q) : PG X e t' := ⟨fun pins s σ H v u Q I r q => h.run pins s σ H v u Q I r (m v σ H Q q)⟩
def gNames : List Nat → TGs
  | [] => gNil
  | i :: is => gCons (gName i) (gNames is)
def setAllV (σ : L2.St) : List Nat → List V → L2.St
  | i :: is, x :: xs => setAllV (σ.set i (some x)) is xs
  | _, _ => σ
theorem gNames_ok : ∀ {is : List Nat} {vs : List V} {σ : L2.St} {H : Hp} {Q : L2.St → Hp → Prop}, vs.length = is.length → Q (setAllV σ is vs) H → gNames is vs σ H Q
  | [], [], _, _, _, _, q => ⟨rfl, q⟩
  | i :: is, v :: vs, _, _, _, h, q => ⟨v, vs, rfl, gNames_ok (is := is) (by simpa using h) q⟩
  | [], _ :: _, _, _, _, h, _ => by simp at h
  | _ :: _, [], _, _, _, h, _ => by simp at h
theorem SlotsR.setAll {K : PySem.W.Frag} {W : Wd} : ∀ {is : List Nat} {vs : List V} {xs : List A} {σ : L2.St} {as : AS}, ARs K W.G vs xs → SlotsR K W σ as → SlotsR K W (setAllV σ is vs) (AB.setAll as is xs)
  | [], _, _, _, _, _, s => by unfold setAllV AB.setAll; exact s
  | i :: is, _, _, _, _, .nil, s => by unfold setAllV AB.setAll; exact s
  | i :: is, v :: vs, x :: xs, _, _, .cons h t, s => by
    unfold setAllV AB.setAll
    exact SlotsR.setAll t (SlotsR.set (b := .p x) h i s)
/-- what a loop or a comprehension walks: its items, and what must stand of the owned meanwhile -/
abbrev AI := AS → OS → (List A → (OS → Prop) → OS → Prop) → Prop
structure AWk (K : PySem.W.Frag) (W1 : Wd) (J : It) (items : List A) (stay : OS → Prop) : Prop where
  goes : ∀ W os, Sn W1 W → Wok K W os → stay os → ∀ i, i < items.length → J.go i W.H
  stops : ∀ W os, Sn W1 W → Wok K W os → stay os → J.stop items.length W.H
  yields : ∀ W os i v H', Sn W1 W → Wok K W os → stay os → i < items.length → J.yld i W.H v H' → ∃ W' a, W'.H = H' ∧ Sn W W' ∧ Wok K W' os ∧ items[i]? = some a ∧ AR K W'.G v a
def cI (K : PySem.W.Frag) (ti : AI) : TI := fun σ H R => ∃ (W : Wd) (as : AS) (os : OS) (κ : List A → (OS → Prop) → OS → Prop), W.H = H ∧ Wok K W os ∧ SlotsR K W σ as ∧ ti as os κ ∧
  ∀ J W' os' items stay, Sn W W' → Wok K W' os' → AWk K W' J items stay → κ items stay os' → R J W'.H
def AIt (X : Cx) (tg iter : Expr) (ti : AI) : Prop := PI X tg iter (cI X.K ti)
theorem PIm {X : Cx} {tg e : Expr} {t t' : TI} (h : PI X tg e t) (m : ∀ σ H R, t' σ H R → t σ H R) : PI X tg e t' := ⟨fun pins s σ H R I q => h.run pins s σ H R I (m σ H R q)⟩
def aFor (ti : AI) (g : ATG) (tb : ATS) : ATS := fun Δ as os => ti as os fun items stay os1 => ∃ Pv : Nat → AS → OS → Prop, Pv 0 as os1 ∧ (∀ i as os, i ≤ items.length → Pv i as os → stay os) ∧
  (∀ i a as os, items[i]? = some a → Pv i as os → g (.p a) as os fun as2 os2 => tb { Δ with nx := Pv (i + 1), ct := Pv (i + 1), bk := Δ.nx } as2 os2) ∧ ∀ as os, Pv items.length as os → Δ.nx as os
def aWhile (tc : ATT) (tb : ATS) : ATS := fun Δ as os => ∃ Wv : Nat → AS → OS → Prop, (∃ m, Wv m as os) ∧ ∀ m as os, Wv m as os → tc as os fun c os1 => if c = true then
  tb { Δ with nx := fun as' os' => ∃ m', m' < m ∧ Wv m' as' os', ct := fun as' os' => ∃ m', m' < m ∧ Wv m' as' os', bk := Δ.nx } as os1 else Δ.nx as os1
section
variable {X : Cx} {W0 : Wd} {st : Stmt} {sts rest : List Stmt} {t u : ATS} {te ta : ATE} {e a tg iter : Expr} {pos : Pos}
theorem EndsR.weak {K : PySem.W.Frag} {Δ Δ' : AEnds} {D D' : Ends} (h : EndsR K W0 Δ D) : EndsR K W0 Δ D := h
theorem abk_nil : ABk X [] aNext := fun W0 => PSsm pss_nil fun D σ H q => by
  obtain ⟨W, as, os, Δ, rfl, sn, ok, sl, k, E⟩ := q
  exact E.nx _ _ _ _ sn ok sl k
theorem abk_one (h : ASt X st t) : ABk X [st] t := fun W0 => pss_one (h W0)
theorem abk_cons (h1 : ASt X st t) (h2 : ABk X rest u) : ABk X (st :: rest) (aSeq t u) := fun W0 => PSsm (pss_cons (h1 W0) (h2 W0)) fun D σ H q => by
  obtain ⟨W, as, os, Δ, rfl, sn, ok, sl, k, E⟩ := q
  exact ⟨W, as, os, _, rfl, sn, ok, sl, k, ⟨fun σ' W' as' os' s' o' l' k' => ⟨W', as', os', Δ, rfl, s', o', l', k', E⟩, E.rt, E.bk, E.ct⟩⟩
theorem ast_pass : ASt X (.Pass pos) aNext := fun W0 => PSm ps_pass fun D σ H q => by
  obtain ⟨W, as, os, Δ, rfl, sn, ok, sl, k, E⟩ := q
  exact E.nx _ _ _ _ sn ok sl k
theorem ast_brk : ASt X (.Break pos) aBrk := fun W0 => PSm ps_break fun D σ H q => by
  obtain ⟨W, as, os, Δ, rfl, sn, ok, sl, k, E⟩ := q
  exact E.bk _ _ _ _ sn ok sl k
theorem ast_cont : ASt X (.Continue pos) aCont := fun W0 => PSm ps_continue fun D σ H q => by
  obtain ⟨W, as, os, Δ, rfl, sn, ok, sl, k, E⟩ := q
  exact E.ct _ _ _ _ sn ok sl k
theorem ast_never : ASt X st aNever := fun W0 => PSm ps_never fun D σ H q => by
  obtain ⟨W, as, os, Δ, rfl, sn, ok, sl, k, E⟩ := q
  exact k.elim
theorem abk_never : ABk X sts aNever := fun W0 => PSsm pss_never fun D σ H q => by
  obtain ⟨W, as, os, Δ, rfl, sn, ok, sl, k, E⟩ := q
  exact k.elim
theorem ast_ret (h : AE X e te) : ASt X (.Return (some e) pos) (aRet te) := fun W0 => PSm (ps_ret h) fun D σ H q => by
  obtain ⟨W, as, os, Δ, rfl, sn, ok, sl, k, E⟩ := q
  exact ⟨W, as, os, _, rfl, ok, sl, k, fun v W1 os1 b s1 ok1 r1 k1 => E.rt _ _ _ _ (sn.trans s1) ok1 r1 k1⟩
theorem ast_retN : ASt X (.Return none pos) aRetN := fun W0 => PSm ps_retN fun D σ H q => by
  obtain ⟨W, as, os, Δ, rfl, sn, ok, sl, k, E⟩ := q
  exact E.rt _ _ _ _ sn ok nB k
theorem ast_expr (h : AE X e te) (hs : swapsWith e none pos.line X.env = pure false := by rfl) : ASt X (.Expr e pos) (aDrop te) := fun W0 => PSm (ps_expr h hs) fun D σ H q => by
  obtain ⟨W, as, os, Δ, rfl, sn, ok, sl, k, E⟩ := q
  exact ⟨W, as, os, _, rfl, ok, sl, k, fun v W1 os1 b s1 ok1 r1 k1 => E.nx _ _ _ _ (sn.trans s1) ok1 (sl.mono s1) k1⟩
theorem ast_if {c : Expr} {p q : List Stmt} {tc : ATT} (hc : AT X c tc) (ha : ABk X p t) (hb : ABk X q u) : ASt X (.If c p q pos) (aIfS tc t u) := fun W0 => PSm (ps_if hc (ha W0) (hb W0)) fun D σ H q => by
  obtain ⟨W, as, os, Δ, rfl, sn, ok, sl, k, E⟩ := q
  refine ⟨W, as, os, _, rfl, ok, sl, k, fun c W1 os1 s1 ok1 k1 => ?_⟩
  cases c with
  | true => exact iteT ⟨W1, as, os1, Δ, rfl, sn.trans s1, ok1, sl.mono s1, iT k1, E⟩
  | false => exact iteF ⟨W1, as, os1, Δ, rfl, sn.trans s1, ok1, sl.mono s1, iF k1, E⟩
/-! targets -/
theorem ag_name {i : Nat} {x : Str} (hN : X.N.Nodup) (hi : X.N[i]? = some x) (hx : Loc X.env.scope x) (hf : X.fn x = true ∨ X.env.scope.names.lookup x = some .local := by first | exact .inl rfl | exact .inr rfl | assumption) : AG X (.Name x pos) (agName i) :=
  PGm (pg_name hN hi hx hf) fun v σ H Q q => by
  obtain ⟨W, b, as, os, κ, rfl, ok, rb, sl, k, q⟩ := q
  exact q _ _ _ _ (Sn.refl W) ok (sl.set rb i) k
theorem ag_tup {is : List Nat} {es : List Expr} {x1} (h : PG X (.Tuple es x1 pos) (gTup X.K is.length (gNames is))) : AG X (.Tuple es x1 pos) (agTup is) := PGm h fun v σ H Q q => by
  obtain ⟨W, b, as, os, κ, rfl, ok, rb, sl, ⟨xs, hx, hl, k⟩, q⟩ := q
  obtain ⟨p, vs, rfl, h1, r1⟩ := dr_tup ok rb hx
  refine ⟨p, vs, rfl, h1, by rw [r1.length]; exact hl, gNames_ok (by rw [r1.length]; exact hl) ?_⟩
  exact q _ W _ _ (Sn.refl W) ok (SlotsR.setAll r1 sl) k
def aAsg (te : ATE) (g : ATG) : ATS := fun Δ as os => te as os fun b os1 => g b as os1 Δ.nx
theorem ast_asg {g : ATG} (he : AE X e te) (hg : AG X tg g) (hs : swapsWithSole [tg] e pos.line X.env = pure false := by rfl) (hw : swappedStores [tg] e X.env = pure none := by rfl) (h1 : (assignEach [tg] X.env).map (·.2) = [assign tg X.env] := by rfl) : ASt X (.Assign [tg] e pos) (aAsg te g) := fun W0 => PSm (ps_asg he hg hs hw h1) fun D σ H q => by
  obtain ⟨W, as, os, Δ, rfl, sn, ok, sl, k, E⟩ := q
  refine ⟨W, as, os, _, rfl, ok, sl, k, fun v W1 os1 b s1 ok1 r1 k1 => ?_⟩
  exact ⟨W1, b, as, os1, _, rfl, ok1, r1, sl.mono s1, k1, fun σ' W' as' os' s' o' l' k' => E.nx _ _ _ _ ((sn.trans s1).trans s') o' l' k'⟩
/-- a, b = e1, e2 -/
def aPar (i j : Nat) (t : ATA) : ATS := fun Δ as os => t as os fun bs os1 => ∃ b c, bs = [b, c] ∧ Δ.nx ((as.set i (some b)).set j (some c)) os1
theorem ast_par {i j : Nat} {t : ATA} {ta : TA} (h : ∀ (tA : TA), PA X [a, e] tA → PS X st (tPar i j tA)) (ha : AA X [a, e] t) : ASt X st (aPar i j t) := fun W0 => PSm (h _ ha) fun D σ H q => by
  obtain ⟨W, as, os, Δ, rfl, sn, ok, sl, k, E⟩ := q
  refine ⟨W, as, os, _, rfl, ok, sl, k, fun vs W1 os1 bs s1 ok1 rs ⟨b, c, hb, k1⟩ => ?_⟩
  subst hb
  obtain ⟨v, w, rfl, rv, rw'⟩ := rs.two
  exact ⟨v, w, rfl, E.nx _ W1 _ _ (sn.trans s1) ok1 (((sl.mono s1).set rv i).set rw' j) k1⟩
/-- xs[i] = e, xs owned -/
def agSub (to ti : ATE) : ATG := fun b as os κ => to as os fun x os1 => ti as os1 fun y os2 => ∃ k xs i j a, x = .own k ∧ b = .p a ∧ dr os2 y = some (.int i) ∧ os2[k]? = some (.lst xs) ∧ ixN xs.length i = some j ∧ κ as (os2.set k (.lst (xs.set j a)))
theorem ag_sub {to ti : ATE} (h : PG X tg (gSub (cE X.K to) (cE X.K ti) rSetL)) : AG X tg (agSub to ti) := PGm h fun v σ H Q q => by
  obtain ⟨W, b, as, os, κ, rfl, ok, rb, sl, k, q⟩ := q
  refine ⟨W, as, os, _, rfl, ok, sl, k, fun vx W1 os1 bx s1 ok1 rx k1 => ?_⟩
  refine ⟨W1, as, os1, _, rfl, ok1, sl.mono s1, k1, fun vy W2 os2 by' s2 ok2 ry ⟨n, xs, i, j, a, hx, hb, hy, ho, hj, k2⟩ => ?_⟩
  subst hx hb
  obtain ⟨l, hl, rfl⟩ := BR.mono s2 rx
  obtain ⟨hg, ws, h1, r1⟩ := ok2.own n l _ hl ho
  refine ⟨l, ws, i, j, rfl, dr_int ry hy, h1, by rw [r1.length]; exact hj, ?_⟩
  obtain ⟨W3, e3, ok3, s3⟩ := mutL ok2 hl ho (ARs.set (BR.mono (s1.trans s2) rb) j r1)
  rw [← e3]
  exact q σ W3 as _ ((s1.trans s2).trans s3) ok3 (sl.mono ((s1.trans s2).trans s3)) k2
/-- self.f = e, self owned -/
def aSetF (K : PySem.W.Frag) (f : Str) (to tv : ATE) : ATS := fun Δ as os => tv as os fun y os1 => to as os1 fun x os2 => ∃ k C gs a, x = .own k ∧ y = .p a ∧ os2[k]? = some (.ins C gs) ∧ Cls K (cAt K C) ∧ NoAttr K (cAt K C) f ∧ gs.length < 1000 ∧ Δ.nx as (os2.set k (.ins C (putA f a gs)))
theorem ARf.put {K : PySem.W.Frag} {G : Hp} {f : Str} {v : V} {a : A} (h : AR K G v a) : ∀ {fs : List (Str × V)} {gs : List (Str × A)}, ARf K G fs gs → ARf K G (putF f v fs) (putA f a gs)
  | _, _, .nil => .cons h .nil
  | (k, w) :: fs, (_, b) :: gs, .cons r t => by
    unfold putA
    by_cases e : k = f
    · rw [if_pos e]
      show ARf K G (if k = f then (k, v) :: fs else (k, w) :: putF f v fs) _
      rw [if_pos e, e]
      exact .cons h t
    · rw [if_neg e]
      show ARf K G (if k = f then (k, v) :: fs else (k, w) :: putF f v fs) _
      rw [if_neg e]
      exact .cons r (ARf.put h t)
theorem ast_setF {o : Expr} {f : Str} {pos' : Pos} {to tv : ATE} (ho : AE X o to) (hv : AE X e tv) (hs : swapsWith e (some (.Attribute o f pos')) pos.line X.env = pure false := by rfl) : ASt X (.Assign [.Attribute o f pos'] e pos) (aSetF X.K f to tv) := fun W0 => PSm (ps_fld ho hv hs) fun D σ H q => by
  obtain ⟨W, as, os, Δ, rfl, sn, ok, sl, k, E⟩ := q
  refine ⟨W, as, os, _, rfl, ok, sl, k, fun vy W1 os1 by' s1 ok1 ry k1 => ?_⟩
  refine ⟨W1, as, os1, _, rfl, ok1, sl.mono s1, k1, fun vx W2 os2 bx s2 ok2 rx ⟨k, C, gs, a, hx, hy, hob, c, n, hl, k2⟩ => ?_⟩
  subst hx hy
  obtain ⟨l, hl1, rfl⟩ := rx
  obtain ⟨hg, dx, fs, h1, r1⟩ := ok2.own k l _ hl1 hob
  refine ⟨l, _, dx, fs, rfl, h1, c, n, by rw [r1.length]; exact hl, ?_⟩
  have ry2 : AR X.K W2.G vy a := BR.mono s2 ry
  obtain ⟨o3, s3⟩ := ok2.mut hl1 (o := .ins (cAt X.K C) dx (putF f vy fs)) (ob := .ins C (putA f a gs)) hg ⟨hg, dx, _, upd_same, ARf.put ry2 r1⟩
  exact E.nx _ _ _ _ (((sn.trans s1).trans s2).trans s3) o3 (sl.mono ((s1.trans s2).trans s3)) k2
/-! loops -/
theorem ast_while {c : Expr} {body : List Stmt} {tc : ATT} (hp : PassesOwn (model X.prog X.w) X.A X.env X.xe) (hc : AT X c tc) (hb : ABk X body t) : ASt X (.While c body [] pos) (aWhile tc t) := fun W0 => PSm (ps_while hp hc (hb W0)) fun D σ H q => by
  obtain ⟨W, as, os, Δ, rfl, sn, ok, sl, ⟨Wv, ⟨m0, w0⟩, turn⟩, E⟩ := q
  refine ⟨fun m σ H => ∃ W as os, W.H = H ∧ Sn W0 W ∧ Wok X.K W os ∧ SlotsR X.K W σ as ∧ Wv m as os, ⟨m0, W, as, os, rfl, sn, ok, sl, w0⟩, fun m σ1 H1 ⟨W1, as1, os1, e1, sn1, ok1, sl1, w1⟩ => ?_⟩
  subst e1
  refine ⟨W1, as1, os1, _, rfl, ok1, sl1, turn m as1 os1 w1, fun c W2 os2 s2 ok2 k2 => ?_⟩
  cases c with
  | true =>
    refine iteT ⟨fun σ' H' => ∃ m', m' < m ∧ ∃ W as os, W.H = H' ∧ Sn W0 W ∧ Wok X.K W os ∧ SlotsR X.K W σ' as ∧ Wv m' as os, fun _ _ h => h, ?_⟩
    refine ⟨W2, as1, os2, _, rfl, sn1.trans s2, ok2, sl1.mono s2, iT k2, ⟨fun σ' W' as' os' s' o' l' ⟨m', h1, h2⟩ => ⟨m', h1, W', as', os', rfl, s', o', l', h2⟩, E.rt, E.nx, fun σ' W' as' os' s' o' l' ⟨m', h1, h2⟩ => ⟨m', h1, W', as', os', rfl, s', o', l', h2⟩⟩⟩
  | false => exact iteF (E.nx _ _ _ _ (sn1.trans s2) ok2 (sl1.mono s2) (iF k2))
theorem ast_for {body : List Stmt} {ti : AI} {g : ATG} (hp : PassesOwn (model X.prog X.w) X.A X.env X.xe) (hc : X.calm = true) (hi : AIt X tg iter ti) (hg : AG X tg g) (hb : ABk X body t)
    (hs : ∀ x, foldedSetIterable iter X.env x = pure x := by intro _; rfl) : ASt X (.For tg iter body [] pos) (aFor ti g t) := fun W0 => PSm (ps_for hp hc hi hg (tb := fun D σ H => ∃ W1, cS X.K W1 t D σ H) ⟨fun pins s σ H D I ⟨W1, q⟩ => (hb W1).run pins s σ H D I q⟩ hs) fun D σ H q => by
  obtain ⟨W, as, os, Δ, rfl, sn, ok, sl, k, E⟩ := q
  refine ⟨W, as, os, _, rfl, ok, sl, k, fun J W1 os1 items stay s1 ok1 wk ⟨Pv, h0, hst, hs, hd⟩ => ?_⟩
  refine ⟨fun i m σ H => m = items.length - i ∧ i ≤ items.length ∧ ∃ W as os, W.H = H ∧ Sn W1 W ∧ Wok X.K W os ∧ SlotsR X.K W σ as ∧ Pv i as os, ⟨_, rfl, Nat.zero_le _, W1, as, os1, rfl, Sn.refl _, ok1, sl.mono s1, h0⟩, ?_⟩
  rintro i m σ2 H2 ⟨rfl, hi, W2, as2, os2, rfl, s2, ok2, sl2, p2⟩
  have q2 := hst i as2 os2 hi p2
  by_cases hlt : i < items.length
  · refine .inr ⟨wk.goes W2 os2 s2 ok2 q2 i hlt, fun σ' H' => ∃ W as os, W.H = H' ∧ Sn W1 W ∧ Wok X.K W os ∧ SlotsR X.K W σ' as ∧ Pv (i + 1) as os, fun σ' H' p' => ⟨_, by omega, rfl, hlt, p'⟩, fun x H' y => ?_⟩
    · obtain ⟨W3, a, rfl, s3, ok3, ha, ra⟩ := wk.yields W2 os2 i x H' s2 ok2 q2 hlt y
      refine ⟨W3, .p a, as2, os2, _, rfl, ok3, ra, sl2.mono s3, hs i a as2 os2 ha p2, fun σ4 W4 as4 os4 s4 ok4 sl4 k4 => ?_⟩
      have s14 := (s2.trans s3).trans s4
      refine ⟨W1, W4, as4, os4, _, rfl, s14, ok4, sl4, k4, ⟨fun σ' W' as' os' s' o' l' k' => ⟨W', as', os', rfl, s', o', l', k'⟩, fun v W' b os' s' o' r' k' => E.rt _ _ _ _ ((sn.trans s1).trans s') o' r' k', fun σ' W' as' os' s' o' l' k' => E.nx _ _ _ _ ((sn.trans s1).trans s') o' l' k',
        fun σ' W' as' os' s' o' l' k' => ⟨W', as', os', rfl, s', o', l', k'⟩⟩⟩
  · have e : i = items.length := by omega
    subst e
    exact .inl ⟨wk.stops W2 os2 s2 ok2 q2, E.nx _ _ _ _ ((sn.trans s1).trans s2) ok2 sl2 (hd as2 os2 p2)⟩
end
end AB

end

section
set_option Elab.async false
set_option linter.all false
set_option maxRecDepth 100000
set_option maxHeartbeats 4000000
namespace AB
open PySem PySem.Spec PyProof.Rows L2 Evl
/-! ### what is walked -/
theorem PI.or {X : Cx} {tg e : Expr} {w1 w2 : TI} (h1 : PI X tg e w1) (h2 : PI X tg e w2) : PI X tg e (fun σ H R => w1 σ H R ∨ w2 σ H R) := ⟨fun pins s σ H R I q => by
  rcases q with q | q
  · exact h1.run pins s σ H R I q
  · exact h2.run pins s σ H R I q⟩
theorem awk_L {K : PySem.W.Frag} {W1 : Wd} {a : Addr} {vs : List V} {xs : List A} (h : Rd W1.G a (.lst vs)) (r : ARs K W1.G vs xs) : AWk K W1 (Itl K a) xs (fun _ => True) := by
  have hq : ∀ W os, Sn W1 W → Wok K W os → SqL K W.H a vs := fun W os s ok => .inl (ex_rd (s.g.trans ok.sub) h)
  refine ⟨fun W os s ok _ i hi => ?_, fun W os s ok _ => ?_, fun W os i v H' s ok _ hi y => ?_⟩
  · exact walk_list.goes i W.H (by rw [r.length]; exact hi) (hq W os s ok)
  · have := walk_list.stops W.H (hq W os s ok)
    rw [r.length] at this; exact this
  · obtain ⟨e, hv⟩ := walk_list.yields i W.H v H' (by rw [r.length]; exact hi) (hq W os s ok) y
    obtain ⟨x, hx, rx⟩ := r.get' hv
    exact ⟨W, x, e.symm, Sn.refl W, ok, hx, rx.mono s.g⟩
theorem awk_T {K : PySem.W.Frag} {W1 : Wd} {a : Addr} {vs : List V} {xs : List A} (h : SqT K W1.G a vs) (r : ARs K W1.G vs xs) : AWk K W1 (Itt K a) xs (fun _ => True) := by
  have hq : ∀ W os, Sn W1 W → Wok K W os → SqT K W.H a vs := fun W os s ok => ex_t (s.g.trans ok.sub) h
  refine ⟨fun W os s ok _ i hi => ?_, fun W os s ok _ => ?_, fun W os i v H' s ok _ hi y => ?_⟩
  · exact walk_tup.goes i W.H (by rw [r.length]; exact hi) (hq W os s ok)
  · have := walk_tup.stops W.H (hq W os s ok)
    rw [r.length] at this; exact this
  · obtain ⟨e, hv⟩ := walk_tup.yields i W.H v H' (by rw [r.length]; exact hi) (hq W os s ok) y
    obtain ⟨x, hx, rx⟩ := r.get' hv
    exact ⟨W, x, e.symm, Sn.refl W, ok, hx, rx.mono s.g⟩
theorem awk_O {K : PySem.W.Frag} {W1 : Wd} {k : Nat} {a : Addr} {xs : List A} (h : W1.ls[k]? = some a) : AWk K W1 (Itl K a) xs (fun os => os[k]? = some (.lst xs)) := by
  have hq : ∀ W os, Sn W1 W → Wok K W os → os[k]? = some (.lst xs) → ∃ vs, W.H a = some (.lst vs) ∧ ARs K W.G vs xs := fun W os s ok ho => (ok.own k a _ (s.pre k a h) ho).2
  refine ⟨fun W os s ok st i hi => ?_, fun W os s ok st => ?_, fun W os i v H' s ok st hi y => ?_⟩
  · obtain ⟨vs, h1, r⟩ := hq W os s ok st
    exact walk_list.goes i W.H (by rw [r.length]; exact hi) (sqL_of h1)
  · obtain ⟨vs, h1, r⟩ := hq W os s ok st
    have := (walk_list (K := K)).stops W.H (sqL_of h1)
    rw [r.length] at this; exact this
  · obtain ⟨vs, h1, r⟩ := hq W os s ok st
    obtain ⟨e, hv⟩ := walk_list.yields i W.H v H' (by rw [r.length]; exact hi) (sqL_of h1) y
    obtain ⟨x, hx, rx⟩ := r.get' hv
    exact ⟨W, x, e.symm, Sn.refl W, ok, hx, rx⟩
/-- a list or a tuple -/
def iSeq (te : ATE) : AI := fun as os κ => te as os fun x os1 => (∃ xs, (x = .p (.lst xs) ∨ x = .p (.tup xs) ∨ x = .p (.frz xs)) ∧ κ xs (fun _ => True) os1) ∨ ∃ k xs, x = .own k ∧ os1[k]? = some (.lst xs) ∧ κ xs (fun os => os[k]? = some (.lst xs)) os1
section
variable {X : Cx} {tg e e2 : Expr} {te te2 : ATE} {pos p tpos : Pos}
theorem iter_list {pins : List (Addr × Obj)} {s2 : Shared} {σ : L2.St} {H1 : Hp} {R : It → Hp → Prop} {a : Addr} {xs : List V} (I1 : Inv X pins σ H1 s2) (hq : SqL X.K H1 a xs) (q : R (Itl X.K a) H1) :
    wpAny (model X.prog X.w) X.A (pyIter (.ref a)) (PIE X pins σ tg R) X.xe s2 := by
  obtain ⟨its, rv, pl, hz⟩ := I1.list hq
  have hn : ∀ b ∈ [s2.heap.objs.size], FpOk X pins H1 b := fun b hb => by
    obtain rfl : b = s2.heap.objs.size := List.mem_singleton.mp hb
    exact I1.fpOk (Nat.le_refl _) (I1.hok.fresh (Nat.le_refl _))
  exact wpAny_pyIter_list pl.isList ⟨_, _, _, _, H1, rfl, I1.kept (t' := s2.toks) fun b o e => Heap.get?_push_of_some _ e, turn_list a _, ⟨_, Heap.get?_push_size _ rfl, rfl, rfl⟩, hn, q⟩
theorem iter_tup {pins : List (Addr × Obj)} {s2 : Shared} {σ : L2.St} {H1 : Hp} {R : It → Hp → Prop} {a : Addr} {xs : List V} (I1 : Inv X pins σ H1 s2) (hq : SqT X.K H1 a xs) (q : R (Itt X.K a) H1) :
    wpAny (model X.prog X.w) X.A (pyIter (.ref a)) (PIE X pins σ tg R) X.xe s2 := by
  obtain ⟨its, rv, pl, hz⟩ := I1.tuple hq
  have hn : ∀ b ∈ [s2.heap.objs.size], FpOk X pins H1 b := fun b hb => by
    obtain rfl : b = s2.heap.objs.size := List.mem_singleton.mp hb
    exact I1.fpOk (Nat.le_refl _) (I1.hok.fresh (Nat.le_refl _))
  exact wpAny_pyIter_tuple (show s2.heap.IsTuple a its.toArray from pl) ⟨_, _, _, _, H1, rfl, I1.kept (t' := s2.toks) fun b o e => Heap.get?_push_of_some _ e, turn_tuple a _, ⟨_, Heap.get?_push_size _ rfl, rfl, rfl⟩, hn, q⟩
theorem ai_seq (h : AE X e te) : AIt X tg e (iSeq te) := ⟨fun pins s σ H R I q => by
  obtain ⟨W, as, os, κ, rfl, ok, sl, k, q⟩ := q
  refine thn (h.run pins s σ W.H (fun v H1 => ∃ a xs, v = .ref a ∧ ((SqL X.K H1 a xs ∧ R (Itl X.K a) H1) ∨ (SqT X.K H1 a xs ∧ R (Itt X.K a) H1))) I ⟨W, as, os, _, rfl, ok, sl, k, fun v W1 os1 b s1 ok1 rb h1 => ?_⟩) fun u s2 ⟨v, H1, I1, rv, a, xs, e, h2⟩ => ?_
  · rcases h1 with ⟨xs, rfl | rfl | rfl, h1⟩ | ⟨n, xs, rfl, ho, h1⟩
    · cases rb with | lst ha r => exact ⟨_, _, rfl, .inl ⟨sqL_of (ok1.sub _ _ ha), q _ W1 os1 xs _ s1 ok1 (awk_L (.inl ha) r) h1⟩⟩
    · cases rb with | tup ha r => exact ⟨_, _, rfl, .inr ⟨ex_t ok1.sub ha, q _ W1 os1 xs _ s1 ok1 (awk_T ha r) h1⟩⟩
    · cases rb with | frz ha r => exact ⟨_, _, rfl, .inl ⟨.inl (.inr ⟨_, ok1.sub _ _ ha⟩), q _ W1 os1 xs _ s1 ok1 (awk_L (.inr ⟨_, ha⟩) r) h1⟩⟩
    · obtain ⟨l, hl, rfl⟩ := rb
      obtain ⟨_, vs, g1, r1⟩ := ok1.own n l _ hl ho
      exact ⟨l, vs, rfl, .inl ⟨sqL_of g1, q _ W1 os1 xs _ s1 ok1 (awk_O hl) h1⟩⟩
  · subst e
    cases rv
    rcases h2 with ⟨h2, h3⟩ | ⟨h2, h3⟩
    · exact iter_list I1 h2 h3
    · exact iter_tup I1 h2 h3⟩
/-- a text, sign by sign -/
def sgn (z : Str) : List A := z.cps.toList.map fun c => A.str ⟨#[c]⟩
def iText (te : ATE) : AI := fun as os κ => te as os fun x os1 => ∃ z, dr os1 x = some (.str z) ∧ κ (sgn z) (fun _ => True) os1
theorem sgn_len (z : Str) : (sgn z).length = z.cps.size := by unfold sgn; simp
theorem ai_text (h : AE X e te) : AIt X tg e (iText te) := PIm (pi_str h) fun σ H R q => by
  obtain ⟨W, as, os, κ, rfl, ok, sl, k, q⟩ := q
  refine ⟨W, as, os, _, rfl, ok, sl, k, fun v W1 os1 b s1 ok1 rb ⟨z, hz, h1⟩ => ?_⟩
  refine ⟨z, dr_str rb hz, q _ W1 os1 (sgn z) _ s1 ok1 ⟨fun W os s ok _ i hi => ?_, fun W os s ok _ => ?_, fun W os i v H' s ok _ hi y => ?_⟩ h1⟩
  · exact walk_str.goes i W.H (by rw [← sgn_len]; exact hi) trivial
  · have := (walk_str (z := z)).stops W.H trivial
    rw [← sgn_len] at this; exact this
  · obtain ⟨e, c, hc, ev⟩ := (walk_str (z := z)).yields i W.H v H' (by rw [← sgn_len]; exact hi) trivial y
    subst ev
    refine ⟨W, .str ⟨#[c]⟩, e.symm, Sn.refl W, ok, ?_, .str _⟩
    unfold sgn
    rw [List.getElem?_map, Array.getElem?_toList, hc]
    rfl
/-- ranges -/
def rgA (lo : Int) (n : Nat) : List A := (List.range n).map fun i => A.int (lo + (i : Nat))
theorem awk_rg {K : PySem.W.Frag} {W1 : Wd} {lo : Int} {n : Nat} : AWk K W1 (Itr lo n) (rgA lo n) (fun _ => True) := by
  have hl : (rgA lo n).length = n := by unfold rgA; simp
  refine ⟨fun W os s ok _ i hi => by rw [hl] at hi; exact hi, fun W os s ok _ => by rw [hl]; exact Nat.le_refl _, fun W os i v H' s ok _ hi y => ?_⟩
  obtain ⟨e, ev⟩ := y
  subst ev
  rw [hl] at hi
  refine ⟨W, .int (lo + i), e.symm, Sn.refl W, ok, ?_, .int _⟩
  unfold rgA
  rw [List.getElem?_map, List.getElem?_range hi]
  rfl
def iRange1 (ta : ATA) : AI := fun as os κ => ta as os fun bs os1 => ∃ b j, bs = [b] ∧ dr os1 b = some (.int j) ∧ -(2 ^ 62) ≤ j ∧ j < 2 ^ 62 ∧ κ (rgA 0 j.toNat) (fun _ => True) os1
def iRange2 (ta : ATA) : AI := fun as os κ => ta as os fun bs os1 => ∃ b c i j, bs = [b, c] ∧ dr os1 b = some (.int i) ∧ dr os1 c = some (.int j) ∧ (-(2 ^ 62) ≤ i ∧ i < 2 ^ 62 ∧ -(2 ^ 62) ≤ j ∧ j < 2 ^ 62) ∧ κ (rgA i (j - i).toNat) (fun _ => True) os1
theorem ai_range1 {ta : ATA} (hg : Gl X "range") (hm : X.mg "range" = none) (ha : AA X [e] ta) (hs : starEach [e] X.env = [(false, eval e X.env)] := by rfl) : AIt X tg (.Call (.Name "range" p) [e] [] pos) (iRange1 ta) := PIm (pi_range1 hg hm ha hs) fun σ H R q => by
  obtain ⟨W, as, os, κ, rfl, ok, sl, k, q⟩ := q
  refine ⟨W, as, os, _, rfl, ok, sl, k, fun vs W1 os1 bs s1 ok1 rs ⟨b, j, hb, hj, h1, h2, h3⟩ => ?_⟩
  subst hb
  obtain ⟨v, rfl, rv⟩ := rs.one
  exact ⟨j, by rw [dr_int rv hj], h1, h2, q _ W1 os1 _ _ s1 ok1 awk_rg h3⟩
theorem ai_range2 {ta : ATA} (hg : Gl X "range") (hm : X.mg "range" = none) (ha : AA X [e, e2] ta) (hs : starEach [e, e2] X.env = [(false, eval e X.env), (false, eval e2 X.env)] := by rfl) (hs2 : starEach [e2] X.env = [(false, eval e2 X.env)] := by rfl) :
    AIt X tg (.Call (.Name "range" p) [e, e2] [] pos) (iRange2 ta) := PIm (pi_range2 hg hm ha hs hs2) fun σ H R q => by
  obtain ⟨W, as, os, κ, rfl, ok, sl, k, q⟩ := q
  refine ⟨W, as, os, _, rfl, ok, sl, k, fun vs W1 os1 bs s1 ok1 rs ⟨b, c, i, j, hb, hi, hj, h1, h3⟩ => ?_⟩
  subst hb
  obtain ⟨v, w, rfl, rv, rw'⟩ := rs.two
  exact ⟨i, j, by rw [dr_int rv hi, dr_int rw' hj], h1, q _ W1 os1 _ _ s1 ok1 awk_rg h3⟩
/-- enumerate(list) -/
def enA : List A → Nat → List A
  | [], _ => []
  | x :: xs, n => .tup [.int (n : Nat), x] :: enA xs (n + 1)
theorem enA_len : ∀ (xs : List A) (n : Nat), (enA xs n).length = xs.length
  | [], _ => rfl
  | x :: xs, n => congrArg (· + 1) (enA_len xs (n + 1))
theorem enA_get : ∀ (xs : List A) (n i : Nat) {x : A}, xs[i]? = some x → (enA xs n)[i]? = some (.tup [.int ((n + i : Nat) : Int), x])
  | [], _, _, _, h => by simp at h
  | y :: ys, n, 0, x, h => by
    simp at h; subst h; rfl
  | y :: ys, n, i + 1, x, h => by
    have h' : ys[i]? = some x := by simpa using h
    show (enA ys (n + 1))[i]? = _
    rw [enA_get ys (n + 1) i h']
    congr 5
    omega
theorem new2 {K : PySem.W.Frag} {W : Wd} {os : OS} (ok : Wok K W os) {T : Addr} (hT : W.H T = none) {v w : V} {a b : A} (r : AR K W.G v a) (r2 : AR K W.G w b) : ∃ W', W'.H = upd W.H T (.tup [v, w]) ∧ Sn W W' ∧ Wok K W' os ∧ AR K W'.G (.ref T) (.tup [a, b]) := by
  obtain ⟨W', e, ok', s', r'⟩ := newT ok hT (.cons r (.cons r2 .nil))
  exact ⟨W', e, s', ok', r'⟩
def iEnumL (ta : ATA) : AI := fun as os κ => ta as os fun bs os1 => ∃ b xs, bs = [b] ∧ ((b = .p (.lst xs) ∧ κ (enA xs 0) (fun _ => True) os1) ∨ ∃ k, b = .own k ∧ os1[k]? = some (.lst xs) ∧ κ (enA xs 0) (fun os => os[k]? = some (.lst xs)) os1)
theorem awk_enum {K : PySem.W.Frag} {W1 : Wd} {a : Addr} {xs : List A} {stay : OS → Prop} (hq : ∀ W os, Sn W1 W → Wok K W os → stay os → ∃ vs, W.H a = some (.lst vs) ∧ ARs K W.G vs xs) : AWk K W1 (Ite K a) (enA xs 0) stay := by
  refine ⟨fun W os s ok st i hi => ?_, fun W os s ok st => ?_, fun W os i v H' s ok st hi y => ?_⟩
  · obtain ⟨vs, h1, r⟩ := hq W os s ok st
    rw [enA_len] at hi
    exact walk_enum.goes i W.H (by rw [r.length]; exact hi) (sqL_of h1)
  · obtain ⟨vs, h1, r⟩ := hq W os s ok st
    have := (walk_enum (K := K)).stops W.H (sqL_of h1)
    rw [r.length, ← enA_len xs 0] at this; exact this
  · obtain ⟨vs, h1, r⟩ := hq W os s ok st
    rw [enA_len] at hi
    obtain ⟨T, x, z, rfl, hT, rfl, hx, hz⟩ := walk_enum.yields i W.H v H' (by rw [r.length]; exact hi) (sqL_of h1) y
    cases hx
    obtain ⟨c, hc, rc⟩ := r.get' hz
    obtain ⟨W', e, s', ok', r'⟩ := new2 ok hT (.int (i : Nat)) rc
    refine ⟨W', _, e, s', ok', enA_get xs 0 i hc, ?_⟩
    rw [Nat.zero_add]
    exact r'
theorem ai_enum {ta : ATA} {elts : List Expr} {kk : Nat} (hg : Gl X "enumerate") (hm : X.mg "enumerate" = none) (ha : AA X [e] ta) (hs : starEach [e] X.env = [(false, eval e X.env)] := by rfl) : AIt X (.Tuple elts kk tpos) (.Call (.Name "enumerate" p) [e] [] pos) (iEnumL ta) :=
  PIm (pi_enum hg hm ha hs) fun σ H R q => by
  obtain ⟨W, as, os, κ, rfl, ok, sl, k, q⟩ := q
  refine ⟨W, as, os, _, rfl, ok, sl, k, fun vs W1 os1 bs s1 ok1 rs ⟨b, xs, hb, h1⟩ => ?_⟩
  subst hb
  obtain ⟨v, rfl, rv⟩ := rs.one
  rcases h1 with ⟨rfl, h1⟩ | ⟨n, rfl, ho, h1⟩
  · cases rv with | lst ha r => exact ⟨_, _, rfl, sqL_of (ok1.sub _ _ ha), q _ W1 os1 _ _ s1 ok1 (awk_enum fun W os s ok _ => ⟨_, ok.sub _ _ (s.g _ _ ha), r.mono s.g⟩) h1⟩
  · obtain ⟨l, hl, rfl⟩ := rv
    obtain ⟨_, vs, g1, r1⟩ := ok1.own n l _ hl ho
    exact ⟨l, vs, rfl, sqL_of g1, q _ W1 os1 _ _ s1 ok1 (awk_enum (stay := fun os => os[n]? = some (.lst xs)) fun W os s ok ho => (ok.own n l (.lst xs) (s.pre n l hl) ho).2) h1⟩
/-- zip of two lists -/
def iZipL (ta : ATA) : AI := fun as os κ => ta as os fun bs os1 => ∃ xs ys, bs = [.p (.lst xs), .p (.lst ys)] ∧ κ (List.zipWith (fun x y => A.tup [x, y]) xs ys) (fun _ => True) os1
def iZipT (ta : ATA) : AI := fun as os κ => ta as os fun bs os1 => ∃ xs ys, bs = [.p (.tup xs), .p (.tup ys)] ∧ κ (List.zipWith (fun x y => A.tup [x, y]) xs ys) (fun _ => True) os1
theorem ai_zip {ta : ATA} {elts : List Expr} {kk : Nat} (hg : Gl X "zip") (hm : X.mg "zip" = none) (ha : AA X [e, e2] ta)
    (hs : starEach [e, e2] X.env = (false, eval e X.env) :: starEach [e2] X.env := by rfl) (hpl : (backTo pos (starEach [e2] X.env)).any (·.1) = false := by rfl) : AIt X (.Tuple elts kk tpos) (.Call (.Name "zip" p) [e, e2] [] pos) (iZipL ta) :=
  PIm (pi_zip hg hm ha hs hpl) fun σ H R q => by
  obtain ⟨W, as, os, κ, rfl, ok, sl, k, q⟩ := q
  refine ⟨W, as, os, _, rfl, ok, sl, k, fun vs W1 os1 bs s1 ok1 rs ⟨xs, ys, hb, h1⟩ => ?_⟩
  subst hb
  obtain ⟨v, w, rfl, rv, rw'⟩ := rs.two
  cases rv with
  | @lst a1 vs1 _ ha r =>
  cases rw' with
  | @lst a2 vs2 _ hb r2 =>
    refine ⟨_, _, _, _, rfl, sqL_of (ok1.sub _ _ ha), sqL_of (ok1.sub _ _ hb), q _ W1 os1 _ _ s1 ok1 ?_ h1⟩
    have hn : (List.zipWith (fun x y => A.tup [x, y]) xs ys).length = min xs.length ys.length := by simp
    have hq : ∀ W os, Sn W1 W → Wok X.K W os → SqL X.K W.H a1 vs1 ∧ SqL X.K W.H a2 vs2 := fun W os s ok => ⟨sqL_of (ok.sub _ _ (s.g _ _ ha)), sqL_of (ok.sub _ _ (s.g _ _ hb))⟩
    have wz := walk_zip (K := X.K) (a := a1) (b := a2) (n := min xs.length ys.length) (by rw [← r.length, ← r2.length])
    refine ⟨fun W os s ok _ i hi => ?_, fun W os s ok _ => ?_, fun W os i v H' s ok _ hi y => ?_⟩
    · rw [hn] at hi
      exact wz.goes i W.H hi (hq W os s ok)
    · have := wz.stops W.H (hq W os s ok)
      rw [← hn] at this; exact this
    · rw [hn] at hi
      obtain ⟨T, x, z, rfl, hT, rfl, hx, hz⟩ := wz.yields i W.H v H' hi (hq W os s ok) y
      obtain ⟨c, hc, rc⟩ := r.get' hx
      obtain ⟨d, hd, rd⟩ := r2.get' hz
      obtain ⟨W', e, s', ok', r'⟩ := new2 ok hT (rc.mono s.g) (rd.mono s.g)
      refine ⟨W', _, e, s', ok', ?_, r'⟩
      rw [List.getElem?_zipWith, hc, hd]
end
end AB

end

section
set_option Elab.async false
set_option linter.all false
set_option maxRecDepth 100000
set_option maxHeartbeats 4000000
namespace AB
open PySem PySem.Spec PyProof.Rows L2 Evl
/-! ### list comprehensions -/
inductive Tg where
  | nm (i : Nat) | tp (is : List Nat)
def gV (K : PySem.W.Frag) : Tg → TG
  | .nm i => gName i
  | .tp is => gTup K is.length (gNames is)
def gA : Tg → ATG
  | .nm i => agName i
  | .tp is => agTup is
def Tg.slots : Tg → List Nat
  | .nm i => [i]
  | .tp is => is
def wipeA (as : AS) : List Nat → AS
  | [] => as
  | v :: vs => (wipeA as vs).set v none
theorem SlotsR.setN {K : PySem.W.Frag} {W : Wd} : ∀ {σ : L2.St} {as : AS} (i : Nat), SlotsR K W σ as → SlotsR K W (σ.set i none) (as.set i none)
  | _, _, _, .nil => .nil
  | _, _, 0, .any r => .any r
  | _, _, 0, .cons _ r => .any r
  | _, _, i + 1, .any r => .any (SlotsR.setN i r)
  | _, _, i + 1, .cons q r => .cons q (SlotsR.setN i r)
theorem SlotsR.wipe {K : PySem.W.Frag} {W : Wd} {σ : L2.St} {as : AS} (s : SlotsR K W σ as) : ∀ vs : List Nat, SlotsR K W (L2.wipe σ vs) (wipeA as vs)
  | [] => s
  | v :: vs => (SlotsR.wipe s vs).setN v
theorem wipe_get (σ : L2.St) (i : Nat) : ∀ vs : List Nat, (L2.wipe σ vs)[i]? = if i ∈ vs then (σ[i]?).map (fun _ => none) else σ[i]?
  | [] => by simp [L2.wipe]
  | v :: vs => by
    unfold L2.wipe
    by_cases h : v = i
    · subst h
      rw [if_pos List.mem_cons_self]
      by_cases hl : v < σ.length
      · rw [List.getElem?_set_self (by rw [wipe_length]; exact hl), List.getElem?_eq_getElem hl]; rfl
      · rw [List.getElem?_eq_none (by rw [List.length_set, wipe_length]; omega), List.getElem?_eq_none (by omega)]; rfl
    · rw [List.getElem?_set_ne h, wipe_get σ i vs]
      by_cases hm : i ∈ vs
      · rw [if_pos hm, if_pos (List.mem_cons_of_mem _ hm)]
      · rw [if_neg hm, if_neg (by simp [hm, Ne.symm h])]
theorem wipe_same {σ τ : L2.St} {vs : List Nat} (hl : τ.length = σ.length) (h : ∀ i, i ∉ vs → τ[i]? = σ[i]?) : L2.wipe τ vs = L2.wipe σ vs := by
  apply List.ext_getElem?
  intro i
  rw [wipe_get, wipe_get]
  by_cases hm : i ∈ vs
  · rw [if_pos hm, if_pos hm]
    by_cases hi : i < σ.length
    · rw [List.getElem?_eq_getElem hi, List.getElem?_eq_getElem (by omega)]; rfl
    · rw [List.getElem?_eq_none (by omega), List.getElem?_eq_none (by omega)]
  · rw [if_neg hm, if_neg hm, h i hm]
theorem setAllV_len : ∀ (is : List Nat) (xs : List V) (σ : L2.St), (setAllV σ is xs).length = σ.length
  | [], _, _ => rfl
  | _ :: _, [], _ => rfl
  | i :: is, x :: xs, σ => by unfold setAllV; rw [setAllV_len is xs, List.length_set]
theorem setAllV_ne : ∀ (is : List Nat) (xs : List V) (σ : L2.St) (j : Nat), j ∉ is → (setAllV σ is xs)[j]? = σ[j]?
  | [], _, _, _, _ => rfl
  | _ :: _, [], _, _, _ => rfl
  | i :: is, x :: xs, σ, j, h => by
    unfold setAllV
    rw [setAllV_ne is xs _ j (fun z => h (List.mem_cons_of_mem _ z)), List.getElem?_set_ne (fun z => h (by rw [z]; exact List.mem_cons_self))]
theorem wipe_wipe (σ : L2.St) (vs : List Nat) : L2.wipe (L2.wipe σ vs) vs = L2.wipe σ vs := wipe_same (wipe_length _ _) fun i hi => by rw [wipe_get, if_neg hi]
/-- the target's stores, in the block -/
theorem gV_run {K : PySem.W.Frag} {W : Wd} {os : OS} {v : V} {b : B} {as : AS} {σ : L2.St} {vs : List Nat} {tg : Tg} {κ : AS → OS → Prop} {Q : L2.St → Hp → Prop} (ok : Wok K W os) (hs : ∀ i ∈ tg.slots, i ∈ vs) (rb : BR K W v b) (sl : SlotsR K W σ as)
    (h : gA tg b (wipeA as vs) os κ) (q : ∀ σ2 as2 os2, SlotsR K W σ2 as2 → Wok K W os2 → L2.wipe σ2 vs = L2.wipe σ vs → κ as2 os2 → Q σ2 W.H) : gV K tg v (L2.wipe σ vs) W.H Q := by
  cases tg with
  | nm i =>
    refine q _ _ _ ((sl.wipe vs).set rb i) ok ?_ h
    rw [wipe_same (σ := L2.wipe σ vs) (by rw [List.length_set]) fun j hj => List.getElem?_set_ne (fun z => hj (by rw [← z]; exact hs i List.mem_cons_self))]
    exact wipe_wipe σ vs
  | tp is =>
    obtain ⟨xs, hx, hl, k⟩ := h
    obtain ⟨p, ws, rfl, h1, r1⟩ := dr_tup ok rb hx
    refine ⟨p, ws, rfl, h1, by rw [r1.length]; exact hl, gNames_ok (by rw [r1.length]; exact hl) ?_⟩
    refine q _ _ _ (SlotsR.setAll r1 (sl.wipe vs)) ok ?_ k
    rw [wipe_same (σ := L2.wipe σ vs) (setAllV_len _ _ _) fun j hj => setAllV_ne is ws _ j fun z => hj (hs j z)]
    exact wipe_wipe σ vs
def ATs (X : Cx) (ifs : List Expr) (t : ATT) : Prop := PTs X ifs (cT X.K t)
def aYes : ATT := fun _ os κ => κ true os
section
variable {X : Cx} {tg iter elt c : Expr} {ifs : List Expr} {pos : Pos}
theorem PTsm {t t' : TT} (h : PTs X ifs t) (m : ∀ σ H Q, t' σ H Q → t σ H Q) : PTs X ifs t' := ⟨fun pins s σ H Q I q => h.run pins s σ H Q I (m σ H Q q)⟩
theorem ats_nil : ATs X [] aYes := PTsm pts_nil fun σ H Q q => by
  obtain ⟨W, as, os, κ, rfl, ok, sl, k, q⟩ := q
  exact q _ _ _ (Sn.refl W) ok k
theorem ats_one {t : ATT} (h : AT X c t) : ATs X [c] t := pts_one h
/-- Pv: by the turn, what is made so far -/
def aLc (ti : AI) (tg : Tg) (tt : ATT) (te : ATE) (vs : List Nat) : ATE := fun as os κ => ti as os fun items stay os1 => ∃ Pv : Nat → List A → OS → Prop, Pv 0 [] os1 ∧ (∀ i acc os, i ≤ items.length → Pv i acc os → stay os) ∧
  (∀ i a acc os, items[i]? = some a → Pv i acc os → gA tg (.p a) (wipeA as vs) os fun as2 os2 => tt as2 os2 fun b os3 => if b = true then te as2 os3 fun y os4 => ∃ c, y = .p c ∧ acc.length < sizeLine ∧ Pv (i + 1) (acc ++ [c]) os4 else Pv (i + 1) acc os3) ∧
  ∀ acc os, Pv items.length acc os → κ (.p (.lst acc)) os
theorem cE_lc {K : PySem.W.Frag} {ti : AI} {tg : Tg} {tt : ATT} {te : ATE} {vs : List Nat} {σ : L2.St} {H : Hp} {Q : VK} (hs : ∀ i ∈ tg.slots, i ∈ vs) (h : cE K (aLc ti tg tt te vs) σ H Q) : tLc (cI K ti) (gV K tg) (cT K tt) (cE K te) vs σ H Q := by
  obtain ⟨W, as, os, κ, rfl, ok, sl, k, q⟩ := h
  refine ⟨W, as, os, _, rfl, ok, sl, k, fun J W1 os1 items stay s1 ok1 wk ⟨Pv, h0, hst, hs', hd⟩ D hD => ?_⟩
  have gD := ok1.free hD
  have slW := sl.mono s1
  have back : ∀ {W2 : Wd} {os2 : OS}, Sn W1 W2 → Wok K W2 os2 → D ∉ W1.ls := fun _ _ z => ok1.has D z hD
  have hDl : D ∉ W1.ls := fun z => ok1.has D z hD
  -- the state between turns
  refine ⟨fun i m H => m = items.length - i ∧ i ≤ items.length ∧ ∃ W2 acc os2 ws, W2.H = H ∧ Sn W1 W2 ∧ Wok K W2 os2 ∧ H D = some (.lst ws) ∧ W2.G D = none ∧ D ∉ W2.ls ∧ ARs K W2.G ws acc ∧ Pv i acc os2, ?_, ?_⟩
  · refine ⟨_, rfl, Nat.zero_le _, ⟨W1.G, upd W1.H D (.lst []), W1.ls⟩, [], os1, [], rfl, ?_, ?_, upd_same, gD, hDl, .nil, h0⟩
    · refine ⟨Ex.refl _, fun a o h _ => ?_, fun a _ _ n => n, fun _ _ h => h, fun k l h q => ?_, fun a h => ?_⟩
      · show upd W1.H D _ a = some o
        rw [upd_ne (ne_of_none h hD)]; exact h
      · have := (List.getElem?_eq_some_iff.mp h).1
        exact absurd this (by show ¬ k < W1.ls.length; omega)
      · show upd W1.H D _ a ≠ none
        rw [upd_ne (fun z => h (by rw [z]; exact hD))]; exact h
    · refine ⟨Ex.up ok1.sub gD, ok1.len, ok1.nd, fun l hl => ?_, fun k l o h1 h2 => ?_⟩
      · show upd W1.H D _ l ≠ none
        rw [upd_ne (ok1.ne hl hD)]; exact ok1.has l hl
      · exact (ok1.own k l o h1 h2).keep (Ex.refl _) id (by show upd W1.H D _ l = W1.H l; rw [upd_ne (ok1.ne (List.mem_of_getElem? h1) hD)])
  · rintro i m H2 ⟨rfl, hi, W2, acc, os2, ws, rfl, s2, ok2, hDw, gD2, lD2, rw2, p2⟩
    have st2 := hst i acc os2 hi p2
    by_cases hlt : i < items.length
    · refine .inr ⟨wk.goes W2 os2 s2 ok2 st2 i hlt, fun H' => ∃ W3 acc os3 ws, W3.H = H' ∧ Sn W1 W3 ∧ Wok K W3 os3 ∧ H' D = some (.lst ws) ∧ W3.G D = none ∧ D ∉ W3.ls ∧ ARs K W3.G ws acc ∧ Pv (i + 1) acc os3, fun H' p' => ⟨_, by omega, rfl, hlt, p'⟩, fun x H' y => ?_⟩
      obtain ⟨W3, a, rfl, s3, ok3, ha, ra⟩ := wk.yields W2 os2 i x H' s2 ok2 st2 hlt y
      have s13 := s2.trans s3
      have lD : ∀ {W5 : Wd}, Sn W2 W5 → D ∉ W5.ls := fun {W5} s5 z => by
        obtain ⟨k, hk⟩ := List.getElem?_of_mem z
        by_cases q : W2.ls.length ≤ k
        · have := s5.fr k D hk q; rw [hDw] at this; cases this
        · have e := (List.getElem?_eq_getElem (l := W2.ls) (by omega : k < W2.ls.length))
          have e2 := s5.pre k _ e
          rw [hk] at e2
          exact lD2 (by rw [Option.some.inj e2]; exact List.getElem_mem _)
      have kD : ∀ {W5 : Wd}, Sn W2 W5 → W5.H D = some (.lst ws) ∧ W5.G D = none := fun s5 => ⟨s5.h D _ hDw lD2, s5.st D (by rw [hDw]; simp) lD2 gD2⟩
      refine gV_run (b := .p a) ok3 hs ra (slW.mono s13) (hs' i a acc os2 ha p2) fun σ2 as2 os3 sl3 ok3' hw k3 => ⟨hw, ?_⟩
      refine ⟨W3, as2, os3, _, rfl, ok3', sl3, k3, fun b W4 os4 s4 ok4 k4 => ?_⟩
      cases b with
      | false =>
        refine iteF ?_
        have s24 := s3.trans s4
        exact ⟨W4, acc, os4, ws, rfl, s13.trans s4, ok4, (kD s24).1, (kD s24).2, lD s24, rw2.mono s24.g, iF k4⟩
      | true =>
        refine iteT ⟨W4, as2, os4, _, rfl, ok4, sl3.mono s4, iT k4, fun y W5 os5 b s5 ok5 r5 ⟨c, hc, hz, p5⟩ => ?_⟩
        subst hc
        have s25 := (s3.trans s4).trans s5
        have s15 := s2.trans s25
        obtain ⟨hD5, gD5⟩ := kD s25
        have lD5 := lD s25
        have rw5 := rw2.mono s25.g
        refine ⟨ws, hD5, by rw [rw5.length]; exact hz, ⟨W5.G, upd W5.H D (.lst (ws ++ [y])), W5.ls⟩, acc ++ [c], os5, _, rfl, ?_, ?_, upd_same, gD5, lD5, rw5.append (.cons r5 .nil), p5⟩
        · refine ⟨s15.g, fun a o h n => ?_, s15.st, s15.pre, s15.fr, fun a h => ?_⟩
          · show upd W5.H D _ a = some o
            rw [upd_ne (ne_of_none h hD)]; exact s15.h a o h n
          · show upd W5.H D _ a ≠ none
            rw [upd_ne (fun z => h (by rw [z]; exact hD))]; exact s15.al a h
        · refine ⟨Ex.up ok5.sub gD5, ok5.len, ok5.nd, fun l hl => ?_, fun k l o h1 h2 => ?_⟩
          · show upd W5.H D _ l ≠ none
            rw [upd_ne (fun z => lD5 (by rw [← z]; exact hl))]; exact ok5.has l hl
          · have hn : l ≠ D := fun z => lD5 (by rw [← z]; exact List.mem_of_getElem? h1)
            exact (ok5.own k l o h1 h2).keep (Ex.refl _) id (by show upd W5.H D _ l = W5.H l; rw [upd_ne hn])
    · have e : i = items.length := by omega
      subst e
      refine .inl ⟨wk.stops W2 os2 s2 ok2 st2, ?_⟩
      -- the list at D becomes plain data
      have s12 : Sn W1 ⟨upd W2.G D (.lst ws), W2.H, W2.ls⟩ := by
        refine ⟨s2.g.trans (Ex.new gD2), s2.h, fun a h m n => ?_, s2.pre, s2.fr, s2.al⟩
        show upd W2.G D _ a = none
        rw [upd_ne (fun z => h (by rw [z]; exact hD))]; exact s2.st a h m n
      have ok2' : Wok K ⟨upd W2.G D (.lst ws), W2.H, W2.ls⟩ os2 := by
        refine ⟨fun a o h => ?_, ok2.len, ok2.nd, ok2.has, fun k l o h1 h2 => ?_⟩
        · by_cases z : a = D
          · subst z
            have h' : upd W2.G a (.lst ws) a = some o := h
            rw [upd_same] at h'; cases h'; exact hDw
          · have h' : upd W2.G D (.lst ws) a = some o := h
            rw [upd_ne z] at h'; exact ok2.sub a o h'
        · have hn : l ≠ D := fun z => lD2 (by rw [← z]; exact List.mem_of_getElem? h1)
          exact (ok2.own k l o h1 h2).keep (Ex.new gD2) (fun z => by show upd W2.G D _ l = none; rw [upd_ne hn]; exact z) rfl
      exact q (.ref D) ⟨upd W2.G D (.lst ws), W2.H, W2.ls⟩ os2 (.p (.lst acc)) (s1.trans s12) ok2' (.lst upd_same (rw2.mono (Ex.new gD2))) (hd acc os2 p2)
theorem ae_lc {scope : Scope} {own : List (Str × Nat)} {ti : AI} {tgt : Tg} {tt : ATT} {te : ATE} (hc : X.calm = true) (hN : X.N.Nodup) (hi : AIt X tg iter ti) (ok : BlkOk X.N X.env.scope scope own) (hsl : ∀ i ∈ tgt.slots, i ∈ own.map (·.2))
    (hg : ∀ (s : Shared) (H : Hp) (C : Addr) (cl : List (Str × Addr)) (fp : List Addr), PG (X.blk s H scope (compEnvC scope cl C X.env) fp) tg (gV X.K tgt)) (ht : ∀ (s : Shared) (H : Hp) (C : Addr) (cl : List (Str × Addr)) (fp : List Addr), ATs (X.blk s H scope (compEnvC scope cl C X.env) fp) ifs tt)
    (he : ∀ (s : Shared) (H : Hp) (C : Addr) (cl : List (Str × Addr)) (fp : List Addr), AE (X.blk s H scope (compEnvC scope cl C X.env) fp) elt te) (hs : ∀ x, foldedSetIterable iter X.env x = pure x := by intro _; rfl) :
    AE X (.ListComp elt [⟨tg, iter, ifs, 0⟩] scope pos) (aLc ti tgt tt te (own.map (·.2))) := PEm (pe_lc (tt := cT X.K tt) (te := cE X.K te) hc hN hi ok hg ht he hs) fun σ H Q q => cE_lc hsl q
theorem ast_setLc {i : Nat} {y : Str} {py spos : Pos} {scope : Scope} {own : List (Str × Nat)} {ti : AI} {tgt : Tg} {tt : ATT} {te : ATE} (hc : X.calm = true) (hN : X.N.Nodup) (hy : X.N[i]? = some y) (hyl : X.env.scope.names.lookup y = some .local)
    (hsw : swapsWith (.ListComp elt [⟨tg, iter, ifs, 0⟩] scope pos) (some (.Name y py)) spos.line X.env = pure true) (hi : AIt X tg iter ti) (ok : BlkOk X.N X.env.scope scope own) (hsl : ∀ i ∈ tgt.slots, i ∈ own.map (·.2))
    (hg : ∀ (s : Shared) (H : Hp) (C : Addr) (cl : List (Str × Addr)) (fp : List Addr), PG (X.blk s H scope (compEnvC scope cl C X.env) fp) tg (gV X.K tgt)) (ht : ∀ (s : Shared) (H : Hp) (C : Addr) (cl : List (Str × Addr)) (fp : List Addr), ATs (X.blk s H scope (compEnvC scope cl C X.env) fp) ifs tt)
    (he : ∀ (s : Shared) (H : Hp) (C : Addr) (cl : List (Str × Addr)) (fp : List Addr), AE (X.blk s H scope (compEnvC scope cl C X.env) fp) elt te) (hs : ∀ x, foldedSetIterable iter X.env x = pure x := by intro _; rfl) :
    ASt X (.Assign [.Name y py] (.ListComp elt [⟨tg, iter, ifs, 0⟩] scope pos) spos) (aAsg (aLc ti tgt tt te (own.map (·.2))) (agName i)) := fun W0 => PSm (ps_setLc (tt := cT X.K tt) (te := cE X.K te) hc hN hy hyl hsw hi ok hg ht he hs) fun D σ H q => by
  obtain ⟨W, as, os, Δ, rfl, sn, ok, sl, k, E⟩ := q
  refine cE_lc hsl ⟨W, as, os, _, rfl, ok, sl, k, fun v W1 os1 b s1 ok1 r1 k1 => ?_⟩
  exact E.nx _ _ _ _ (sn.trans s1) ok1 ((sl.mono s1).set r1 i) k1
end
/-! ### an owned list becomes plain data -/
def unown (k : Nat) (a : A) : Option B → Option B
  | some (.own j) => if j = k then some (.p a) else some (.own j)
  | x => x
/-- n: how many owned objects the def was handed -/
def aFrz (k : Nat) (t : ATS) : ATS := fun Δ as os => ∃ xs, os[k]? = some (.lst xs) ∧ t Δ (as.map (unown k (.lst xs))) (os.set k .dead)
theorem SlotsR.unown {K : PySem.W.Frag} {W W' : Wd} {k : Nat} {a : A} {l : Addr} (hl : W.ls[k]? = some l) (s : Sn W W') (r : AR K W'.G (.ref l) a) : ∀ {σ : L2.St} {as : AS}, SlotsR K W σ as → SlotsR K W' σ (as.map (AB.unown k a))
  | _, _, .nil => .nil
  | _, _, .any t => .any (SlotsR.unown hl s r t)
  | _, _, .cons (b := .p _) h t => .cons (h.mono s) (SlotsR.unown hl s r t)
  | _, _, .cons (b := .own j) (v := v) h t => by
    have t' := SlotsR.unown hl s r t
    show SlotsR K W' _ ((if j = k then some (B.p a) else some (.own j)) :: _)
    by_cases e : j = k
    · rw [if_pos e]
      subst e
      obtain ⟨l', h1, h2⟩ := h
      rw [hl] at h1
      cases h1
      exact .cons (b := .p a) (by rw [h2]; exact r) t'
    · rw [if_neg e]
      exact .cons (b := .own j) (BR.mono s h) t'
theorem frz_ok {K : PySem.W.Frag} {W : Wd} {os : OS} (ok : Wok K W os) {k : Nat} {xs : List A} (ho : os[k]? = some (.lst xs)) : ∃ l W', W.ls[k]? = some l ∧ W'.H = W.H ∧ Sn W W' ∧ Wok K W' (os.set k .dead) ∧ AR K W'.G (.ref l) (.lst xs) := by
  have hk : k < W.ls.length := by rw [ok.len]; exact (List.getElem?_eq_some_iff.mp ho).1
  have hl : W.ls[k]? = some W.ls[k] := List.getElem?_eq_getElem hk
  obtain ⟨hg, vs, h1, r1⟩ := ok.own k _ _ hl ho
  have hlm := List.mem_of_getElem? hl
  refine ⟨W.ls[k], ⟨upd W.G W.ls[k] (.lst vs), W.H, W.ls⟩, hl, rfl, ⟨Ex.new hg, fun _ _ h _ => h, fun a h m n => ?_, fun _ _ h => h, fun j l h q => ?_, fun _ h => h⟩, ⟨fun a o h => ?_, by simp [ok.len], ok.nd, ok.has, fun j l o h2 h3 => ?_⟩, .lst upd_same (r1.mono (Ex.new hg))⟩
  · show upd W.G _ _ a = none
    rw [upd_ne (fun z => m (by rw [z]; exact hlm))]; exact n
  · have := (List.getElem?_eq_some_iff.mp h).1
    exact absurd this (by show ¬ j < W.ls.length; omega)
  · by_cases z : a = W.ls[k]
    · have h' : upd W.G W.ls[k] (.lst vs) a = some o := h
      rw [z, upd_same] at h'; cases h'; rw [z]; exact h1
    · have h' : upd W.G W.ls[k] (.lst vs) a = some o := h
      rw [upd_ne z] at h'; exact ok.sub a o h'
  · by_cases z : j = k
    · subst z
      have hj : j < os.length := (List.getElem?_eq_some_iff.mp ho).1
      rw [List.getElem?_set_self hj] at h3
      cases h3
      trivial
    · rw [List.getElem?_set_ne (fun y => z y.symm)] at h3
      have h2' : W.ls[j]? = some l := h2
      have hne : l ≠ W.ls[k] := fun y => z ((List.getElem?_inj (List.getElem?_eq_some_iff.mp h2').1 ok.nd).mp (h2'.trans (y ▸ hl.symm)))
      exact (ok.own j l o h2' h3).keep (Ex.new hg) (fun y => by show upd W.G _ _ l = none; rw [upd_ne hne]; exact y) rfl
theorem abk_frz {X : Cx} {sts : List Stmt} {t : ATS} (k : Nat) (h : ABk X sts t) : ABk X sts (aFrz k t) := fun W0 => PSsm (h W0) fun D σ H q => by
  obtain ⟨W, as, os, Δ, rfl, sn, ok, sl, ⟨xs, ho, k1⟩, E⟩ := q
  obtain ⟨l, W', hl, e, s', ok', r'⟩ := frz_ok ok ho
  exact ⟨W', _, _, Δ, e, sn.trans s', ok', sl.unown hl s' r', k1, E⟩
/-! ### a def by its body -/
def aStart (N : List Str) (bs : List B) : AS := bs.map some ++ List.replicate (N.length - bs.length) none
theorem fun_ok {P : Program} {w : World} {K : PySem.W.Frag} {mg : Str → Option Value} {base : Heap} {x qual : Str} {st : Stmt} {f : Addr} {fd : FuncData} {N ps : List Str} {k : Nat} {sp : ASp} (F : Fun K x qual st f fd) (S : FnScope N ps (defScope st))
    (len : ∀ bs os κ, sp bs os κ → bs.length = ps.length)
    (hbody : ∀ (cdv : Value) (A : Around) (outer : List Env) (s : Shared) (H : Hp) (E : XK), Room k (A.deeper (envOfC qual (defScope st) s.heap.objs.size f cdv)) →
      ∃ t, ABk (cxOf CX0 P w K mg base N qual (defScope st) f cdv A outer s H E).nox (defBody st) t ∧ ∀ bs os κ, sp bs os κ → t { nx := fun _ os => κ (.p .non) os, rt := κ } (aStart N bs) os) : FnOk P w K mg base CX0 (k + 1) f fd ps (cSp K sp) := by
  refine F.ok S (fun vs H Q E h => ?_) (fun cdv A outer s H vs Q E hr h => ?_)
  · obtain ⟨W, bs, os, κ, _, _, rs, h, _⟩ := h
    rw [rs.length]
    exact len bs os κ h
  · obtain ⟨W, bs, os, κ, rfl, ok, rs, h, q⟩ := h
    obtain ⟨t, ht, hb⟩ := hbody cdv A outer s W.H E hr
    refine ⟨_, ht W, W, _, os, _, rfl, Sn.refl W, ok, ?_, hb bs os κ h, ⟨fun σ W' as os' s' ok' _ k' => q _ _ _ _ s' ok' nB k', fun v W' b os' s' ok' r' k' => q _ _ _ _ s' ok' r' k', fun _ _ _ _ _ _ _ z => z.elim, fun _ _ _ _ _ _ _ z => z.elim⟩⟩
    have e := rs.length
    unfold L2.start aStart
    rw [e]
    exact SlotsR.start _ rs
end AB

end

section
set_option Elab.async false
set_option linter.all false
set_option maxRecDepth 100000
set_option maxHeartbeats 4000000
namespace AB
open PySem PySem.Spec PyProof.Rows L2 Evl
/-! ### defs of the text, by name -/
abbrev XD (P : Program) (w : World) (K : PySem.W.Frag) (mg : Str → Option Value) (base : Heap) (N : List Str) (qual : Str) (st : Stmt) (f : Addr) (cdv : Value) (A : Around) (outer : List Env) (s : Shared) (H : Hp) (E : XK) : Cx :=
  (cxOf CX0 P w K mg base N qual (defScope st) f cdv A outer s H E).nox
/-- the body of st keeps the promise sp, with room k -/
def BodyOk (P : Program) (w : World) (K : PySem.W.Frag) (mg : Str → Option Value) (base : Heap) (N : List Str) (qual : Str) (st : Stmt) (k : Nat) (sp : ASp) : Prop :=
  ∀ (f : Addr) (cdv : Value) (A : Around) (outer : List Env) (s : Shared) (H : Hp) (E : XK), Room k (XD P w K mg base N qual st f cdv A outer s H E).A →
    ∃ t, ABk (XD P w K mg base N qual st f cdv A outer s H E) (defBody st) t ∧ ∀ bs os κ, sp bs os κ → t { nx := fun _ os => κ (.p .non) os, rt := κ } (aStart N bs) os
theorem fun_okD {P : Program} {w : World} {K : PySem.W.Frag} {mg : Str → Option Value} {base : Heap} {x qual : Str} {st : Stmt} {f : Addr} {fd : FuncData} {dvs : List V} {kws : List (Str × V)} {N ps : List Str} {k : Nat} {sp : ASp}
    (F : FunD K x qual (defArgs st) (defBody st) (defScope st) dvs kws f fd) (S : FnScope N ps (defScope st)) (len : ∀ bs os κ, sp bs os κ → bs.length = ps.length) (hbody : BodyOk P w K mg base N qual st k sp) : FnOk P w K mg base CX0 (k + 1) f fd ps (cSp K sp) := by
  refine F.ok S (fun vs H Q E h => ?_) (fun cdv A outer s H vs Q E hr h => ?_)
  · obtain ⟨W, bs, os, κ, _, _, rs, h, _⟩ := h
    rw [rs.length]
    exact len bs os κ h
  · obtain ⟨W, bs, os, κ, rfl, ok, rs, h, q⟩ := h
    obtain ⟨t, ht, hb⟩ := hbody f cdv A outer s W.H E hr
    refine ⟨_, (ht W).nox, W, _, os, _, rfl, Sn.refl W, ok, ?_, hb bs os κ h, ⟨fun σ W' as os' s' ok' _ k' => q _ _ _ _ s' ok' nB k', fun v W' b os' s' ok' r' k' => q _ _ _ _ s' ok' r' k', fun _ _ _ _ _ _ _ z => z.elim, fun _ _ _ _ _ _ _ z => z.elim⟩⟩
    have e := rs.length
    unfold L2.start aStart
    rw [e]
    exact SlotsR.start _ rs
/-- the module's def x keeps the promise sp; das: its defaults -/
def Cl (P : Program) (w : World) (K : PySem.W.Frag) (mg : Str → Option Value) (base : Heap) (k : Nat) (x : Str) (sp : ASp) (das : List A) : Prop :=
  ∃ (f : Addr) (fd : FuncData) (ps : List Str) (dvs : List V) (ds : List Value), mg x = some (.ref f) ∧ PySem.W.keepIn K (.ref f) = true ∧ FnOk P w K mg base CX0 k f fd ps (cSp K sp) ∧ Binds K fd ps ds ∧ Vals dvs ds ∧ ∀ G, ARs K G dvs das
/-- the method m of the class at C -/
def Mt (P : Program) (w : World) (K : PySem.W.Frag) (mg : Str → Option Value) (base : Heap) (k : Nat) (C : String) (m : Str) (sp : ASp) (das : List A) : Prop :=
  Cls K (cAt K C) ∧ ∃ (f : Addr) (fd : FuncData) (ps : List Str) (dvs : List V) (ds : List Value), Meth K (cAt K C) m f ∧ FnOk P w K mg base CX0 k f fd ps (cSp K sp) ∧ Binds K fd ps ds ∧ Vals dvs ds ∧ ∀ G, ARs K G dvs das
/-- the class named x, by its __init__ -/
def Mx (P : Program) (w : World) (K : PySem.W.Frag) (mg : Str → Option Value) (base : Heap) (k : Nat) (x : Str) (C : String) (sp : ASp) (das : List A) : Prop :=
  mg x = some (.ref (cAt K C)) ∧ ∃ (f : Addr) (fd : FuncData) (ps : List Str) (dvs : List V) (ds : List Value), Mk K (cAt K C) f ∧ FnOk P w K mg base CX0 k f fd ps (cSp K sp) ∧ Binds K fd ps ds ∧ Vals dvs ds ∧ ∀ G, ARs K G dvs das
section
variable {X : Cx} {j k : Nat} {C : String} {sp : ASp} {das : List A} {x m : Str} {p pos apos : Pos} {e o : Expr} {es : List Expr} {to : ATE} {t : ATA}
theorem ae_c (c : Cl X.prog X.w X.K X.mg X.base k x sp das) (hr : Room j X.A) (hk : k ≤ j) (hg : Gl X x) (ha : AA X (e :: es) t) (hdb : (x == ("__debug__" : Str)) = false := by decide)
    (he : starEach (e :: es) X.env = (false, eval e X.env) :: starEach es X.env := by rfl) (hpl : (backTo pos (starEach es X.env)).any (·.1) = false := by rfl) : AE X (.Call (.Name x p) (e :: es) [] pos) (aCall sp das t) := by
  obtain ⟨f, fd, ps, dvs, ds, h1, h2, h3, h4, h5, h6⟩ := c
  exact PEm (pe_call (E := E0) (sp := cSp X.K sp) h3 (hr.mono hk) hg h1 h2 h4 h5 pass0 ha hdb he hpl) fun σ H Q q => cE_call h6 q
theorem ae_c1 (c : Cl X.prog X.w X.K X.mg X.base k x sp das) (hr : Room j X.A) (hk : k ≤ j) (hg : Gl X x) (ha : AA X (e :: es) t) (hdb : (x == ("__debug__" : Str)) = false := by decide)
    (he : starEach (e :: es) X.env = (false, eval e X.env) :: starEach es X.env := by rfl) (hpl : (backTo pos (starEach es X.env)).any (·.1) = false := by rfl) : AE X (.Call (.Name x p) (e :: es) [] pos) (aCall1 sp das t) := by
  obtain ⟨f, fd, ps, dvs, ds, h1, h2, h3, h4, h5, h6⟩ := c
  exact PEm (pe_call (E := E0) (sp := cSp X.K sp) h3 (hr.mono hk) hg h1 h2 h4 h5 pass0 ha hdb he hpl) fun σ H Q q => cE_call1 h6 q
theorem ae_x (c : Mx X.prog X.w X.K X.mg X.base k x C sp das) (hr : Room j X.A) (hk : k + 1 ≤ j) (hg : Gl X x) (ha : AA X (e :: es) t) (hdb : (x == ("__debug__" : Str)) = false := by decide)
    (he : starEach (e :: es) X.env = (false, eval e X.env) :: starEach es X.env := by rfl) (hpl : (backTo pos (starEach es X.env)).any (·.1) = false := by rfl) : AE X (.Call (.Name x p) (e :: es) [] pos) (aMake C sp das t) := by
  obtain ⟨h1, f, fd, ps, dvs, ds, h2, h3, h4, h5, h6⟩ := c
  exact PEm (pe_make (E := E0) (sp := cSp X.K sp) h2 h3 (hr.mono hk) hg h1 h4 h5 pass0 ha hdb he hpl) fun σ H Q q => cE_make h6 q
theorem ae_m {ta : ATA} (c : Mt X.prog X.w X.K X.mg X.base k C m sp das) (hr : Room j X.A) (hk : k ≤ j) (ho : AE X o to) (ha : AA X (e :: es) t)
    (h : ∀ (f : Addr) (fd : FuncData) (ps : List Str) (dvs : List V) (ds : List Value), Cls X.K (cAt X.K C) → Meth X.K (cAt X.K C) m f → FnOk X.prog X.w X.K X.mg X.base CX0 k f fd ps (cSp X.K sp) → Room k X.A → Binds X.K fd ps ds → Vals dvs ds →
      PE X (.Call (.Attribute o m apos) (e :: es) [] pos) (tMeth (cAt X.K C) m (cSp X.K sp) dvs E0 (cE X.K to) (cA X.K t))) : AE X (.Call (.Attribute o m apos) (e :: es) [] pos) (aMeth C m sp das to t) := by
  obtain ⟨h1, f, fd, ps, dvs, ds, h2, h3, h4, h5, h6⟩ := c
  exact PEm (h f fd ps dvs ds h1 h2 h3 (hr.mono hk) h4 h5) fun σ H Q q => cE_meth h6 q
theorem ae_m0 (c : Mt X.prog X.w X.K X.mg X.base k C m sp das) (hr : Room j X.A) (hk : k ≤ j) (ho : AE X o to)
    (h : ∀ (f : Addr) (fd : FuncData) (ps : List Str) (dvs : List V) (ds : List Value), Cls X.K (cAt X.K C) → Meth X.K (cAt X.K C) m f → FnOk X.prog X.w X.K X.mg X.base CX0 k f fd ps (cSp X.K sp) → Room k X.A → Binds X.K fd ps ds → Vals dvs ds →
      PE X (.Call (.Attribute o m apos) [] [] pos) (tMeth (cAt X.K C) m (cSp X.K sp) dvs E0 (cE X.K to) tNil)) : AE X (.Call (.Attribute o m apos) [] [] pos) (aMeth C m sp das to aNil) := by
  obtain ⟨h1, f, fd, ps, dvs, ds, h2, h3, h4, h5, h6⟩ := c
  refine PEm (h f fd ps dvs ds h1 h2 h3 (hr.mono hk) h4 h5) fun σ H Q q => ?_
  have z := cE_meth (E := E0) (dvs := dvs) h6 q
  obtain ⟨W, as, os, κ, rfl, ok, sl, k, q⟩ := z
  exact ⟨W, as, os, κ, rfl, ok, sl, k, fun v W' os' b s' ok' r' k' => by
    obtain ⟨a, dx, fs, e1, e2, e3, e4⟩ := q v W' os' b s' ok' r' k'
    refine ⟨a, dx, fs, e1, e2, e3, ?_⟩
    obtain ⟨W2, as2, os2, κ2, e5, ok2, sl2, k2, q2⟩ := e4
    have := q2 [] W2 os2 [] (Sn.refl W2) ok2 .nil k2
    rw [e5] at this
    exact this⟩
end
/-! ### the head's facts -/
abbrev AlX : Type := Bool × List He.FnW
def obsX (chk : PySem.W.Frag → Bool) (fn : List He.DefD) (K : PySem.W.Frag) : AlX := (chk K && fn.all fun d => d.ok K, fn.map fun d => He.fnW K d.at_)
def valX (fn : List He.DefD) : AlX := (true, fn.map He.DefD.val)
def SaysX (chk : PySem.W.Frag → Bool) (fn : List He.DefD) (K : PySem.W.Frag) : Prop := obsX chk fn K = valX fn
def obsXG (n : Nat) (chk : PySem.W.Frag → Bool) (fn : List He.DefD) (g : Addr → Option Obj) : AlX := obsX chk fn (He.frG g (He.asD g n))
def hookX (n : Nat) (chk : PySem.W.Frag → Bool) (fn : List He.DefD) : PySem.W.Hook where
  α := AlX
  obs := fun s => obsXG n chk fn s.heap.get?
  val := fun _ => valX fn
  says := fun _ h => ∃ K : PySem.W.Frag, K.In h ∧ SaysX chk fn K
  of := fun _ _ e => ⟨_, He.frG_in, e⟩
  keeps := fun _ _ _ ⟨K, hK, c⟩ k => ⟨K, PySem.W.Frag.In.keeps hK k, c⟩
theorem obsXG_eq {n : Nat} {chk : PySem.W.Frag → Bool} {fn : List He.DefD} {g : Addr → Option Obj} {s : Shared} (h : ∀ a, g a = s.heap.get? a) : obsXG n chk fn g = (hookX n chk fn).obs s := by
  have e : g = s.heap.get? := funext h
  rw [e] <;> rfl
theorem SaysX.chk {chk : PySem.W.Frag → Bool} {fn : List He.DefD} {K : PySem.W.Frag} (c : SaysX chk fn K) : chk K = true :=
  (He.ba (show (chk K && fn.all fun d => d.ok K) = true from congrArg (fun z : AlX => z.1) c)).1
theorem SaysX.def_ {chk : PySem.W.Frag → Bool} {fn : List He.DefD} {K : PySem.W.Frag} (c : SaysX chk fn K) (i : Nat) {d : He.DefD} (h : fn[i]? = some d := by rfl) : ∃ fd, FunD K d.name d.qual d.params d.body d.scope (d.dvs K) (d.kws K) (He.fAd K d.at_) fd := by
  have c2 := (He.ba (show (chk K && fn.all fun d => d.ok K) = true from congrArg (fun z : AlX => z.1) c)).2
  have e : fn.map (fun d => He.fnW K d.at_) = fn.map He.DefD.val := congrArg (fun z : AlX => z.2) c
  have e2 : (fn.map fun d => He.fnW K d.at_)[i]? = (fn.map He.DefD.val)[i]? := by rw [e]
  rw [List.getElem?_map, List.getElem?_map, h] at e2
  exact He.DefD.funD (Option.some.inj e2) (List.all_eq_true.mp c2 d (List.mem_of_getElem? h))
end AB

end

section
set_option Elab.async false
set_option linter.all false
set_option maxRecDepth 100000
set_option maxHeartbeats 4000000
namespace AB
open PySem PySem.Spec PyProof.Rows L2 Evl
section
variable {X : Cx} {x : Str} {p pos apos cpos : Pos} {e o a b : Expr} {es : List Expr} {t : ATA} {to te ta tb : ATE} {id : String} {T : String}
/-! ### built-ins called by name -/
theorem ae_callB {R : List B → OS → (B → OS → Prop) → Prop} (hc : CA X (.builtin id) R) (hg : Gl X x) (hm : X.mg x = none) (hv : bootBuiltins x = some (.builtin id)) (ha : AA X (e :: es) t)
    (h : CallR X (.builtin id) (cL X.K R) → PA X (e :: es) (cA X.K t) → PE X (.Call (.Name x p) (e :: es) [] pos) (tCB (cL X.K R) (cA X.K t))) : AE X (.Call (.Name x p) (e :: es) [] pos) (aCB R t) := PEm (h hc ha) fun _ _ _ q => cE_cb q
theorem ae_callT {R : List B → OS → (B → OS → Prop) → Prop} (hc : CA X (.type T) R) (hg : Gl X x) (hm : X.mg x = none) (hv : bootBuiltins x = some (.type T)) (ha : AA X (e :: es) t)
    (h : CallR X (.type T) (cL X.K R) → PA X (e :: es) (cA X.K t) → PE X (.Call (.Name x p) (e :: es) [] pos) (tCB (cL X.K R) (cA X.K t))) : AE X (.Call (.Name x p) (e :: es) [] pos) (aCB R t) := PEm (h hc ha) fun _ _ _ q => cE_cb q
/-! ### a constant of the module -/
def GK (K : PySem.W.Frag) (mg : Str → Option Value) (x : Str) (a : A) : Prop := ∃ v u, mg x = some u ∧ RelV v u ∧ ∀ G, AR K G v a
theorem ae_gk {c : A} (h : GK X.K X.mg x c) (hg : Gl X x) (hd : (x == ("__debug__" : Str)) = false := by decide) : AE X (.Name x pos) (aC c) := by
  obtain ⟨v, u, h1, h2, h3⟩ := h
  exact ae_glob hg h1 h2 h3 hd
theorem GK.int {K : PySem.W.Frag} {mg : Str → Option Value} {x : Str} {i : Int} (h : ∃ t, mg x = some (.int i t)) : GK K mg x (.int i) := by
  obtain ⟨t, h⟩ := h
  exact ⟨.int i, _, h, ⟨t, rfl⟩, fun _ => .int i⟩
theorem GK.str {K : PySem.W.Frag} {mg : Str → Option Value} {x z : Str} (h : ∃ t, mg x = some (.str z t)) : GK K mg x (.str z) := by
  obtain ⟨t, h⟩ := h
  exact ⟨.str z, _, h, ⟨t, rfl⟩, fun _ => .str z⟩
def dvA : He.Dv → A
  | .non => .non | .bl b => .bl b | .int i => .int i | .str z => .str z | _ => .non
def dvFlat : He.Dv → Bool
  | .non => true | .bl _ => true | .int _ => true | .str _ => true | _ => false
theorem dvs_rel {K : PySem.W.Frag} {G : Hp} : ∀ {ds : List He.Dv}, ds.all dvFlat = true → ARs K G (ds.map (He.Dv.v K)) (ds.map dvA)
  | [], _ => .nil
  | d :: ds, h => by
    rw [List.all_cons, Bool.and_eq_true] at h
    refine .cons ?_ (dvs_rel h.2)
    cases d <;> first | exact .non | exact .bl _ | exact .int _ | exact .str _ | cases h.1
theorem GK.tup {K : PySem.W.Frag} {mg : Str → Option Value} {x : Str} {ds : List He.Dv} (h : mg x = some (.ref (He.ga K x))) (c : He.tupB K x ds = true) (f : ds.all dvFlat = true) : GK K mg x (.tup (ds.map dvA)) :=
  ⟨.ref (He.ga K x), _, h, rfl, fun G => .tup (He.tupB_ok c G) (dvs_rel f)⟩
/-! ### a written dict with whole numbers as keys -/
/-- at d stands a dict of just these -/
structure KInt (K : PySem.W.Frag) (d : Addr) (kvs : List (Int × A)) : Prop where
  at_ : ∃ es n, K.lookup d = some ⟨.type "dict", none, .dict es n, #[]⟩ ∧ Paired (fun (e : DictEntry) (q : Int × A) => (∃ t, e.key = .int q.1 t) ∧ e.hash = hashInt q.1 ∧ ∃ v, RelV v e.val ∧ ∀ G, AR K G v q.2) es.toList kvs
  low : (d == sysModules) = false
def oInI (kvs : List (Int × A)) (d : V) : AR2 := fun x y os κ => ∃ i, dr os x = some (.int i) ∧ y = .p (.val d) ∧ κ (.p (.bl (kvs.any fun q => decide (q.1 = i)))) os
def pI (i : Int) (e : DictEntry) : Bool := Value.isInt i e.key
theorem kint_find {K : PySem.W.Frag} {i : Int} : ∀ {es : List DictEntry} {kvs : List (Int × A)}, Paired (fun (e : DictEntry) (q : Int × A) => (∃ t, e.key = .int q.1 t) ∧ e.hash = hashInt q.1 ∧ ∃ v, RelV v e.val ∧ ∀ G, AR K G v q.2) es kvs →
    ((es.find? (pI i)).map (·.val)).isSome = (kvs.any fun q => decide (q.1 = i)) ∧ ∀ a, kvs.lookup i = some a → ∃ u v, (es.find? (pI i)).map (·.val) = some u ∧ RelV v u ∧ ∀ G, AR K G v a
  | _, _, .nil => ⟨rfl, fun a h => by simp [List.lookup] at h⟩
  | e :: es, q :: kvs, .cons h t => by
    obtain ⟨⟨tk, hk⟩, hh, v, rv, ra⟩ := h
    obtain ⟨ih1, ih2⟩ := kint_find (i := i) t
    by_cases c : q.1 = i
    · have hi : pI i e = true := by unfold pI; rw [hk, c]; simp [Value.isInt]
      refine ⟨by rw [List.find?_cons_of_pos hi, List.any_cons, decide_eq_true c]; rfl, fun a h => ?_⟩
      have e1 : List.lookup i (q :: kvs) = some q.2 := by
        obtain ⟨q1, q2⟩ := q
        simp only at c
        subst c
        simp [List.lookup]
      rw [e1] at h
      cases h
      exact ⟨e.val, v, by rw [List.find?_cons_of_pos hi]; rfl, rv, ra⟩
    · have hi : ¬ pI i e = true := by unfold pI; rw [hk]; simpa [Value.isInt] using c
      refine ⟨by rw [List.find?_cons_of_neg hi, List.any_cons, decide_eq_false c, ih1]; rfl, fun a h => ?_⟩
      have e1 : List.lookup i (q :: kvs) = List.lookup i kvs := by
        obtain ⟨q1, q2⟩ := q
        have : (i == q1) = false := by simpa using fun z : i = q1 => c z.symm
        simp [List.lookup, this]
      rw [e1] at h
      rw [List.find?_cons_of_neg hi]
      exact ih2 a h
theorem KInt.map {K : PySem.W.Frag} {d : Addr} {kvs : List (Int × A)} (k : KInt K d kvs) {prog : Program} {w : World} {h : Heap} (X : K.In h) : ∃ f, h.MapOf (intKind prog w) d f ∧ (∀ i, (f i).isSome = (kvs.any fun q => decide (q.1 = i))) ∧ ∀ i a, kvs.lookup i = some a → ∃ u v, f i = some u ∧ RelV v u ∧ ∀ G, AR K G v a := by
  obtain ⟨es, n, hl, hp⟩ := k.at_
  refine ⟨fun i => findBy Value.isInt es i, ⟨_, es, n, X _ _ hl, ⟨rfl, rfl, rfl⟩, rfl, fun e he => ?_, fun _ => rfl⟩, fun i => ?_, fun i a ha => ?_⟩
  · have hm : e ∈ es.toList := Array.mem_toList_iff.mpr he
    obtain ⟨j, hj⟩ := List.getElem?_of_mem hm
    have : ∀ {l : List DictEntry} {m : List (Int × A)}, Paired (fun (e : DictEntry) (q : Int × A) => (∃ t, e.key = .int q.1 t) ∧ e.hash = hashInt q.1 ∧ ∃ v, RelV v e.val ∧ ∀ G, AR K G v q.2) l m → e ∈ l → ∃ i t, e.key = .int i t ∧ e.hash = hashInt i := fun {l m} hp => by
      induction hp with
      | nil => intro z; cases z
      | cons r t ih =>
        intro z
        rcases List.mem_cons.mp z with rfl | z
        · obtain ⟨⟨t, h1⟩, h2, _⟩ := r; exact ⟨_, t, h1, h2⟩
        · exact ih z
    obtain ⟨i, t, h1, h2⟩ := this hp hm
    exact ⟨i, by rw [h1]; exact intKind_is prog w i t, h2⟩
  · have := (kint_find (i := i) hp).1
    show (findBy Value.isInt es i).isSome = _
    unfold findBy
    rw [← Array.find?_toList]
    exact this
  · have := (kint_find (i := i) hp).2 a ha
    show ∃ u v, findBy Value.isInt es i = some u ∧ _
    unfold findBy
    rw [← Array.find?_toList]
    exact this
theorem oa_inI {kvs : List (Int × A)} {d : Addr} (k : KInt X.K d kvs) : OA X (compareOp .In) (oInI kvs (.ref d)) := by
  intro pins s σ H vx vy v u Q I rx ry h
  obtain ⟨W, os, x, y, κ, rfl, ok, bx, by', ⟨i, e1, e2, h⟩, q⟩ := h
  subst e2
  have ex := dr_int bx e1
  have ey := BR.val by'
  subst ex ey
  obtain ⟨t, rfl⟩ := rx
  cases ry
  obtain ⟨f, hf, h1, _⟩ := k.map (prog := X.prog) (w := X.w) I.kIn
  refine wpAny_in_of (intKind_is X.prog X.w i t) k.low hf ?_
  rw [h1]
  exact ⟨.bl _, W.H, I.tok _, rfl, q _ W os _ (Sn.refl W) ok bB h⟩
/-- d[i], d a written dict -/
def oIxI (kvs : List (Int × A)) (d : V) : AR2 := fun x y os κ => ∃ i a, x = .p (.val d) ∧ dr os y = some (.int i) ∧ kvs.lookup i = some a ∧ κ (.p a) os
theorem ix_int {kvs : List (Int × A)} {d : Addr} (k : KInt X.K d kvs) : IxR X (cR X.K (oIxI kvs (.ref d))) := by
  intro av bv pins s σ H vx vy v u Q I rx ry h e
  obtain ⟨W, os, x, y, κ, rfl, ok, bx, by', ⟨i, a, e1, e2, ha, h⟩, q⟩ := h
  subst e1
  have ex := BR.val bx
  have ey := dr_int by' e2
  subst ex ey
  cases rx
  obtain ⟨t, rfl⟩ := ry
  obtain ⟨f, hf, _, h2⟩ := k.map (prog := X.prog) (w := X.w) I.kIn
  obtain ⟨u, v, hu, rv, ra⟩ := h2 i a ha
  exact tail_any hf.typeIs PySem.F.slot_dict_getitem.lookup (wpAny_getItem_of (intKind_is X.prog X.w i t) hf hu ⟨v, W.H, I.tok _, rv, q v W os (.p a) (Sn.refl W) ok (ra W.G) h⟩) e
theorem ae_ixI {kvs : List (Int × A)} {d : Addr} (k : KInt X.K d kvs) (ha : AE X a ta) (hb : AE X b tb) (hs : PlainIx b := by exact fun _ _ => rfl) : AE X (.Subscript a b pos) (aOp (oIxI kvs (.ref d)) ta tb) := PEm (pe_ix (ix_int k) ha hb hs) fun _ _ _ h => cE_op h
/-- the name of such a dict -/
theorem ae_gdict {d : Addr} (hm : X.mg x = some (.ref d)) (hg : Gl X x) (hd : (x == ("__debug__" : Str)) = false := by decide) : AE X (.Name x pos) (aC (.val (.ref d))) := ae_glob hg hm (v := .ref d) rfl (fun _ => .val _) hd
/-! ### text * int -/
def oMulS : AR2 := fun x y os κ => ∃ (c : Nat) (n : Int), dr os x = some (.str ⟨#[c]⟩) ∧ dr os y = some (.int n) ∧ 0 ≤ n ∧ n ≤ 1000000 ∧ κ (.p (.str ⟨(List.replicate n.toNat c).toArray⟩)) os
theorem foldl_one (c : Nat) : ∀ (n : Nat) (acc : Array Nat), ((List.replicate n #[c]).foldl (fun x y => x ++ y) acc) = acc ++ (List.replicate n c).toArray
  | 0, acc => by simp
  | n + 1, acc => by
    rw [List.replicate_succ, List.foldl_cons, foldl_one c n]
    apply Array.toList_inj.mp
    simp [List.replicate_succ]
theorem oa_mulS : OA X (binaryOp .Mult) oMulS := by
  intro pins s σ H vx vy v u Q I rx ry h
  obtain ⟨W, os, x, y, κ, rfl, ok, bx, by', ⟨c, n, e1, e2, h0, h1, h⟩, q⟩ := h
  have ex := dr_str bx e1
  have ey := dr_int by' e2
  subst ex ey
  obtain ⟨t, rfl⟩ := rx
  obtain ⟨t', rfl⟩ := ry
  have em : Txt.mul ⟨#[c]⟩ n = ⟨(List.replicate n.toNat c).toArray⟩ := by
    unfold Txt.mul
    by_cases c1 : n < 1
    · rw [if_pos c1]
      have : n.toNat = 0 := by omega
      rw [this]; rfl
    · rw [if_neg c1]
      by_cases c2 : n = 1
      · subst c2; rfl
      · have e0 : (n == 1) = false := by simpa using c2
        have e1 : ((⟨#[c]⟩ : Str).length == 0) = false := rfl
        rw [e0, e1, if_neg (by decide), foldl_one]
        congr 1
        apply Array.toList_inj.mp
        simp
  refine SB.mul ⟨?_, fun _ _ => ?_, fun _ _ => ?_⟩ fun t'' k => ?_
  · have a1 : ¬ n < -(2 ^ 63 : Int) := by omega
    have a2 : ¬ n ≥ 2 ^ 63 := by omega
    rw [decide_eq_false a1, decide_eq_false a2]
    rfl
  · have : (1 : Int) ≤ (2 ^ 63 - 1) / n := Int.le_ediv_of_mul_le (by omega) (by omega)
    show ¬ (((1 : Nat) : Int) > _)
    omega
  · have hz : sizeLine = 16777216 := sizeLine_eq
    show Builtin.Str.tooLong (1 * n.toNat) = false
    unfold Builtin.Str.tooLong
    exact decide_eq_false (by omega)
  · rw [em]
    exact ⟨.str ⟨(List.replicate n.toNat c).toArray⟩, W.H, I.tok k, ⟨t'', rfl⟩, q _ W os _ (Sn.refl W) ok sB h⟩
end
end AB

end

section
set_option Elab.async false
set_option linter.all false
set_option maxRecDepth 100000
set_option maxHeartbeats 4000000
namespace AB
open PySem PySem.Spec PyProof.Rows L2 Evl
/-! ### enumerate(tuple) -/
theorem meets_enum0 {v : Value} {o : Obj} {H : Heap → Prop} (B : Begins v o H) :
    Meets (Builtin.«enumerate.__new__» ⟨[.type "enumerate", v], []⟩) (fun _ R s => H s.heap ∧
      R (.ok (.ret (.ref (s.heap.push o).objs.size))) { s with heap := (s.heap.push o).push { cls := .type "enumerate", data := .fields #[.none, .bool false, .ref s.heap.objs.size, rawInt 0, .none, .none] } }) :=
  .of_wp fun prog w A R s h => by
    obtain ⟨hp, g, d, tk, os⟩ := s
    obtain ⟨h1, h⟩ := h
    have hsub := sub_enumerate
    have it : ∀ {A' : Around} {E : Value → Shared → Prop} {Q : Value → Shared → Prop}, Q (.ref hp.objs.size) ⟨hp.push o, g, d, tk, os⟩ → wpAny (model prog w) A' (pyIter v) Q E ⟨hp, g, d, tk, os⟩ :=
      fun q => B.iter prog w _ _ ⟨hp, g, d, tk, os⟩ _ h1 q
    wp_walk using it
    refine wpAny_stack_any fun st => wpAny_pure ?_
    split
    · rename_i c _ _ _ _ _
      cases (c == Value.type "enumerate") <;> (wp_walk using it; exact ⟨_, rfl, h⟩)
    · wp_walk using it
      exact ⟨_, rfl, h⟩
theorem enum_begin0 {prog : Program} {w : World} {A : Around} {E : Value → Shared → Prop} {s : Shared} {v : Value} {o : Obj} {H : Heap → Prop} {Q : Value → Shared → Prop} (B : Begins v o H) (h1 : H s.heap)
    (h : ∀ h', IsEnum h' (s.heap.objs.size + 1) s.heap.objs.size 0 .none → h'.get? s.heap.objs.size = some o → (∀ b o, s.heap.get? b = some o → h'.get? b = some o) → Q (.ref (s.heap.objs.size + 1)) { s with heap := h' }) :
    wpAny (model prog w) A (call (.type "enumerate") [v]) Q E s := by
  refine callType_new F.called_enumerate (by decide) (F.typeCall_enumerate_1 _) (F.newCall_enumerate_1 _) (fun obj => F.args_object_init_2 obj _) F.entry_enumerate_new (meets_enum0 B) ⟨h1, ?_⟩
  have hz : (s.heap.push o).objs.size = s.heap.objs.size + 1 := Heap.size_push ..
  show _ ∧ _
  rw [hz]
  have he : IsEnum ((s.heap.push o).push { cls := .type "enumerate", data := .fields #[.none, .bool false, .ref s.heap.objs.size, rawInt 0, .none, .none] }) (s.heap.objs.size + 1) s.heap.objs.size 0 .none := by
    have z := Heap.get?_push_size (s.heap.push o) (o := { cls := .type "enumerate", data := .fields #[.none, .bool false, .ref s.heap.objs.size, rawInt 0, .none, .none] }) rfl
    rw [hz] at z
    exact z
  exact ⟨⟨_, he, rfl⟩, h _ he (Heap.get?_push_of_some _ (Heap.get?_push_size _ B.free)) fun b o x => Heap.get?_push_of_some _ (Heap.get?_push_of_some _ x)⟩
def IteT (K : PySem.W.Frag) (a : Addr) : It :=
  ⟨fun i H => ∃ (xs : List V) (x : V), SqT K H a xs ∧ xs[i]? = some x, fun i H v H' => ∃ T x, v = .ref T ∧ H T = none ∧ H' = upd H T (.tup [.int (i : Nat), x]) ∧ ∀ xs, SqT K H a xs → xs[i]? = some x, fun i H => ∃ xs : List V, SqT K H a xs ∧ xs.length = i⟩
theorem walk_enumT {K : PySem.W.Frag} {a : Addr} {xs : List V} : Walk (IteT K a) xs.length (fun H => SqT K H a xs) (YPair (fun i => some (.int (i : Nat))) (fun i => xs[i]?)) := by
  refine ⟨fun i _ hi q => ⟨xs, xs[i], q, by simp [hi]⟩, fun _ q => ⟨xs, q, rfl⟩, fun i H v H' _ q y => ?_⟩
  obtain ⟨T, x, h1, h2, h3, h4⟩ := y
  exact ⟨T, .int (i : Nat), x, h1, h2, h3, rfl, h4 xs q⟩
theorem turn_enumT {P : Program} {w : World} {K : PySem.W.Frag} {elts : List Expr} {kk : Nat} {tpos : Pos} (a e it : Addr) :
    Turn P w K (.Tuple elts kk tpos) (IteT K a) [e, it] e (fun i h => (∃ old, IsEnum h e it ((i : Nat) : Int) old) ∧ h.IsTupleIter it a i ∧ e ≠ it ∧ a ≠ e ∧ a ≠ it) where
  mem := by simp
  obj := fun i h st b hb => by
    obtain ⟨⟨old, he⟩, ⟨o, ho, hc, hd⟩, _⟩ := st
    rcases (show b = e ∨ b = it by simpa using hb) with z | z
    · rw [z]; exact ⟨_, he, fun v q => nomatch q⟩
    · rw [z]; exact ⟨o, ho, fun v q => by rw [hd] at q; cases q⟩
  keep := fun i h h' st k => let ⟨⟨old, he⟩, hi, hne⟩ := st; ⟨⟨old, k e (by simp) _ he⟩, hi.at fun o q => k it (by simp) o q, hne⟩
  item := by
    intro X hP hw hK hc i pins s σ H E I hf st hg
    subst hP hw hK
    obtain ⟨⟨old, he⟩, hit, hne, hae, hai⟩ := st
    obtain ⟨xs, x, hq, hx⟩ := hg
    obtain ⟨its, rv, p, hz⟩ := I.tuple hq
    obtain ⟨u, hu, ru⟩ := rv.get hx
    have hel : e < s.heap.objs.size := Heap.lt_size he
    have hil : it < s.heap.objs.size := by obtain ⟨_, q, _⟩ := hit; exact Heap.lt_size q
    have hlen : i < its.toArray.size := by
      have := (List.getElem?_eq_some_iff.mp hu).1
      simpa using this
    refine wpAny_pyNext_enum_itemD (Draws.tuple (A := X.A.in1) (I.ok.hd hc) it a hai its.toArray) he (i := i) ⟨hit, p⟩ hlen hne (by simp [hne, Ne.symm hae]) fun x' h' tk hx' ho hst' hT hsz hk => ?_
    obtain ⟨hit', _⟩ := hst'
    have exx : x' = u := by
      have h2 : its.toArray[i]? = some u := by simpa using hu
      rw [h2] at hx'; exact (Option.some.inj hx').symm
    subst exx
    refine ⟨_, rfl, wpAny_letOwnedTupleGo_enum (s := { s with heap := h', toks := tk + 1 }) ho fun h'' he' sb => ?_⟩
    have hT2 : h''.get? s.heap.objs.size = some { cls := .type "tuple", data := .seq #[.int i tk, x'] } := (sb.2 _ (Nat.ne_of_gt hel)).trans hT
    have new : ObjOk X.prog X.w (upd H s.heap.objs.size (.tup [.int (i : Nat), x])) h'' s.heap.objs.size (.tup [.int (i : Nat), x]) :=
      ⟨by show 2 ≤ sizeLine; decide, [.int i tk, x'], .cons ⟨_, rfl⟩ (.cons ru .nil), ⟨_, hT2, rfl, _, rfl⟩⟩
    have I1 : Inv X pins σ (upd H s.heap.objs.size (.tup [.int (i : Nat), x])) { s with heap := h'', toks := tk + 1 } :=
      I.turnedNew (ch := [e, it]) (fun b ob hb q => (sb.2 b (fun z => hb (by simp [z]))).trans (hk b ob (fun z => hb (by simp [z])) (fun z => hb (by simp [z])) q)) hf (Nat.le_refl _) new
    refine ⟨.ref s.heap.objs.size, _, I1, rfl, ⟨_, x, rfl, I.hok.fresh (Nat.le_refl _), rfl, fun ys hy => by rw [I.tuple_inj hy hq]; exact hx⟩, ⟨⟨x', ?_⟩, hit'.at fun o q => (sb.2 it (Ne.symm hne)).trans q, hne, hae, hai⟩, fun b hb => ?_⟩
    · have e1 : ((i + 1 : Nat) : Int) = (i : Int) + 1 := by omega
      rw [e1]; exact he'
    · have hb' : b < s.heap.objs.size := by
        rcases (show b = e ∨ b = it by simpa using hb) with z | z
        · rw [z]; exact hel
        · rw [z]; exact hil
      rw [upd_ne (Nat.ne_of_lt hb')]
      exact (hf b hb).1
  done := by
    intro X hP hw hK hc i pins s σ H E I hf st hg
    subst hP hw hK
    obtain ⟨⟨old, he⟩, hit, hne, hae, hai⟩ := st
    obtain ⟨xs, hq, hx⟩ := hg
    obtain ⟨its, rv, p, hz⟩ := I.tuple hq
    obtain ⟨f0, f1, f2, f3, f4, f5⟩ := hf it (by simp)
    have hl : its.toArray.size = i := by rw [List.size_toArray, ← rv.length]; exact hx
    subst hl
    exact wpAny_pyNext_enum_endD (Draws.tuple (A := X.A.in1) (I.ok.hd hc) it a hai its.toArray) he ⟨hit, p⟩ fun h' eb => ⟨rfl, I.turned (t' := s.toks) (fun b o hb q => eb b o hb q) f0 f1 f3 f4 f5⟩
  self := fun A i s Q E st h => let ⟨⟨_, he⟩, _⟩ := st; wpAny_pyIter_enum he h
def iEnumT (ta : ATA) : AI := fun as os κ => ta as os fun bs os1 => ∃ xs, bs = [.p (.tup xs)] ∧ κ (enA xs 0) (fun _ => True) os1
theorem awk_enumT {K : PySem.W.Frag} {W1 : Wd} {a : Addr} {vs : List V} {xs : List A} (h : SqT K W1.G a vs) (r : ARs K W1.G vs xs) : AWk K W1 (IteT K a) (enA xs 0) (fun _ => True) := by
  have hq : ∀ W os, Sn W1 W → Wok K W os → SqT K W.H a vs := fun W os s ok => ex_t (s.g.trans ok.sub) h
  refine ⟨fun W os s ok st i hi => ?_, fun W os s ok st => ?_, fun W os i v H' s ok st hi y => ?_⟩
  · rw [enA_len] at hi
    exact walk_enumT.goes i W.H (by rw [r.length]; exact hi) (hq W os s ok)
  · have := (walk_enumT (K := K)).stops W.H (hq W os s ok)
    rw [r.length, ← enA_len xs 0] at this; exact this
  · rw [enA_len] at hi
    obtain ⟨T, x, z, rfl, hT, rfl, hx, hz⟩ := walk_enumT.yields i W.H v H' (by rw [r.length]; exact hi) (hq W os s ok) y
    cases hx
    obtain ⟨c, hc, rc⟩ := r.get' hz
    obtain ⟨W', e, s', ok', r'⟩ := new2 ok hT (.int (i : Nat)) (rc.mono s.g)
    refine ⟨W', _, e, s', ok', enA_get xs 0 i hc, ?_⟩
    rw [Nat.zero_add]
    exact r'
section
variable {X : Cx} {e : Expr} {ta : ATA} {pos p tpos : Pos}
theorem ai_enumT {elts : List Expr} {kk : Nat} (hg : Gl X "enumerate") (hm : X.mg "enumerate" = none) (ha : AA X [e] ta) (hs : starEach [e] X.env = [(false, eval e X.env)] := by rfl) : AIt X (.Tuple elts kk tpos) (.Call (.Name "enumerate" p) [e] [] pos) (iEnumT ta) := by
  refine ⟨fun pins s σ H R I h => ?_⟩
  obtain ⟨W, as, os, κ, rfl, ok, sl, k, q⟩ := h
  refine Call_ (ld_blt I hg hm boot_enumerate (PyProof.Rows.callWith_type1 (thn (ha.run pos pins s σ W.H (fun vs H1 => ∃ a xs, vs = [.ref a] ∧ SqT X.K H1 a xs ∧ R (IteT X.K a) H1) I ⟨W, as, os, _, rfl, ok, sl, k, fun vs W1 os1 bs s1 ok1 rs ⟨xs, hb, h1⟩ => ?_⟩) fun us s1 ⟨vs, H1, I1, r1, a, xs, ev, hq, q1⟩ => ?_) hs rfl))
  · subst hb
    obtain ⟨v, rfl, rv⟩ := rs.one
    cases rv with
    | tup ha r => exact ⟨_, _, rfl, ex_t ok1.sub ha, q _ W1 os1 _ _ s1 ok1 (awk_enumT ha r) h1⟩
  · subst ev
    cases r1 with
    | cons r rr =>
      cases rr
      cases r
      obtain ⟨its, rv, pt, hz⟩ := I1.tuple hq
      refine enum_begin0 (begins_tuple a its.toArray) pt fun h' he hit hk => wpAny_pyIter_enum he ?_
      have I2 : Inv X pins σ H1 { s1 with heap := h' } := I1.kept (t' := s1.toks) hk
      have hal : a < s1.heap.objs.size := by obtain ⟨_, z, _⟩ := pt; exact Heap.lt_size z
      refine ⟨s1.heap.objs.size + 1, [s1.heap.objs.size + 1, s1.heap.objs.size], _, _, H1, rfl, I2, turn_enumT a (s1.heap.objs.size + 1) s1.heap.objs.size, ⟨⟨.none, he⟩, ⟨_, hit, rfl, rfl⟩, Nat.succ_ne_self _, Nat.ne_of_lt (Nat.lt_succ_of_lt hal), Nat.ne_of_lt hal⟩, fun b hb => ?_, q1⟩
      have hle : s1.heap.objs.size ≤ b := by
        rcases (show b = s1.heap.objs.size + 1 ∨ b = s1.heap.objs.size by simpa using hb) with z | z
        · rw [z]; exact Nat.le_succ _
        · rw [z]; exact Nat.le_refl _
      exact I1.fpOk hle (I1.hok.fresh hle)
theorem AIt.or {tg : Expr} {t1 t2 : AI} (h1 : AIt X tg e t1) (h2 : AIt X tg e t2) : AIt X tg e (fun as os κ => t1 as os κ ∨ t2 as os κ) := ⟨fun pins s σ H R I q => by
  obtain ⟨W, as, os, κ, rfl, ok, sl, k, q⟩ := q
  rcases k with k | k
  · exact h1.run pins s σ _ R I ⟨W, as, os, κ, rfl, ok, sl, k, q⟩
  · exact h2.run pins s σ _ R I ⟨W, as, os, κ, rfl, ok, sl, k, q⟩⟩
end
end AB

end

section
set_option Elab.async false
set_option linter.all false
set_option maxRecDepth 100000
set_option maxHeartbeats 4000000
namespace AB
open PySem PySem.Spec PyProof.Rows L2 Evl
/-! ### isinstance by names of types -/
def nmA : A → String
  | .non => "NoneType" | .bl _ => "bool" | .int _ => "int" | .str _ => "str" | .lst _ => "list" | .frz _ => "list" | .tup _ => "tuple" | .dic _ => "dict" | .ins C _ => C | .val _ => "" | .exc C _ => C
def isQ (ys : List String) (a : A) : Bool := ys.contains (nmA a)
def okQ (CS : List String) : A → Prop
  | .val _ => False
  | .exc _ _ => False
  | .ins C _ => C ∈ CS
  | _ => True
def baseN : List String := ["NoneType", "bool", "int", "str", "list", "tuple", "dict"]
def tyInsB (K : PySem.W.Frag) (C : String) : Bool := (He.Fa.cls (Str.ofString C)).ok K && (He.eqO (PySem.W.findIn K (.ref (cAt K C)) "__class__") (some (some (.builtin "object.__class__"))) && (He.eqO (PySem.W.specialIn K (.builtin "object.__class__") "__get__") (some (some (.builtin "getset_descriptor.__get__"))) &&
  (decide (PySem.W.takesIn K (.builtin "object.__class__") = some true) && decide (PySem.W.mroIn K (cAt K C) (.type "object") = some true))))
theorem tyInsB_ok {K : PySem.W.Frag} {C : String} (h : tyInsB K C = true) : TyIns K (cAt K C) := by
  obtain ⟨h1, h⟩ := He.ba h
  obtain ⟨h2, h⟩ := He.ba h
  obtain ⟨h3, h⟩ := He.ba h
  obtain ⟨h4, h5⟩ := He.ba h
  exact ⟨He.cls_ok h1, He.eqO_ok h2, He.eqO_ok h3, of_decide_eq_true h4, of_decide_eq_true h5⟩
def isiB (K : PySem.W.Frag) (CS : List String) (us : List Value) (ys : List String) : Bool :=
  (baseN.all fun n => decide (PySem.W.kitAny K (.type n) us = some (ys.contains n))) && CS.all fun C => decide (PySem.W.kitAny K (.ref (cAt K C)) us = some (ys.contains C)) && tyInsB K C
theorem isiB_ok {K : PySem.W.Frag} {CS : List String} {us : List Value} {ys : List String} (h : isiB K CS us ys = true) : IsK K (okQ CS) us (isQ ys) := by
  obtain ⟨h1, h2⟩ := He.ba h
  have hb : ∀ n ∈ baseN, PySem.W.kitAny K (.type n) us = some (ys.contains n) := fun n hn => of_decide_eq_true (List.all_eq_true.mp h1 n hn)
  refine ⟨fun a ha => ?_, fun C gs ho => ?_⟩
  · cases a with
    | val v => exact ha.elim
    | exc C gs => exact ha.elim
    | ins C gs => exact ⟨_, rfl, of_decide_eq_true (He.ba (List.all_eq_true.mp h2 C ha)).1⟩
    | non => exact ⟨_, rfl, hb "NoneType" (by decide)⟩
    | bl _ => exact ⟨_, rfl, hb "bool" (by decide)⟩
    | int _ => exact ⟨_, rfl, hb "int" (by decide)⟩
    | str _ => exact ⟨_, rfl, hb "str" (by decide)⟩
    | lst _ => exact ⟨_, rfl, hb "list" (by decide)⟩
    | frz _ => exact ⟨_, rfl, hb "list" (by decide)⟩
    | tup _ => exact ⟨_, rfl, hb "tuple" (by decide)⟩
    | dic _ => exact ⟨_, rfl, hb "dict" (by decide)⟩
  · exact tyInsB_ok (He.ba (List.all_eq_true.mp h2 C ho)).2
section
variable {X : Cx} {e a b c o f : Expr} {ta tb te td tx : ATE} {pos apos cpos pos' : Pos}
/-- a < b < c as a test -/
theorem at_chain {op op' : CmpOp} {R R' : AR2} {tc : ATE} (ho : OA X (compareOp op) R) (ho' : OA X (compareOp op') R') (ha : AE X a ta) (hb : AE X b tb) (hc : AE X c tc) (hm : lastMarks [op, op'] [b, c] = false := by with_unfolding_all rfl) : AT X (.Compare a [op, op'] [b, c] pos) (aB (aChain R R' ta tb tc)) :=
  PTm (pt_chain ho ho' ha hb hc hm) fun σ H Q q => by
  obtain ⟨W, as, os, κ, rfl, ok, sl, k, q⟩ := q
  refine ⟨W, as, os, _, rfl, ok, sl, k, fun vx W1 os1 bx s1 ok1 rx h1 => ?_⟩
  refine ⟨W1, as, os1, _, rfl, ok1, sl.mono s1, h1, fun vy W2 os2 by' s2 ok2 ry h2 => ?_⟩
  refine ⟨W2, os2, bx, by', _, rfl, ok2, rx.mono s2, ry, h2, fun v W3 os3 b s3 ok3 r3 ⟨c, hc, k3⟩ => ?_⟩
  subst hc
  refine ⟨c, r3.bl, ?_⟩
  cases c with
  | true =>
    refine iteT ?_
    have k4 := iT k3
    refine ⟨W3, as, os3, _, rfl, ok3, sl.mono ((s1.trans s2).trans s3), k4, fun vz W4 os4 bz s4 ok4 rz h4 => ?_⟩
    refine ⟨W4, os4, by', bz, _, rfl, ok4, ry.mono (s3.trans s4), rz, h4, fun v W5 os5 b s5 ok5 r5 k5 => ?_⟩
    obtain ⟨c, hc, k5⟩ := k5
    subst hc
    exact ⟨c, r5.bl, q _ _ _ ((((s1.trans s2).trans s3).trans s4).trans s5) ok5 k5⟩
  | false =>
    refine iteF ?_
    obtain ⟨c, hc, k4⟩ := iF k3
    cases hc
    exact ⟨false, rfl, q _ _ _ ((s1.trans s2).trans s3) ok3 k4⟩
def aNo : ATE := fun _ _ _ => False
theorem ae_no : AE X e aNo := ⟨fun pins s σ H Q I q => by
  obtain ⟨W, as, os, κ, rfl, ok, sl, k, q⟩ := q
  exact k.elim⟩
/-! ### owned dicts: keys ints and texts -/
def keyA : A → Option Key
  | .int i => some (.inl i)
  | .str z => some (.inr z)
  | _ => none
def valA (kvs : List (Key × A)) (k : Key) : Option A := (kvs.find? fun kv => decide (kv.1 = k)).map (·.2)
def putKA (kvs : List (Key × A)) (k : Key) (v : A) : List (Key × A) :=
  if (kvs.any fun kv => decide (kv.1 = k)) = true then kvs.map (fun kv => if kv.1 = k then (kv.1, v) else kv) else kvs ++ [(k, v)]
def mergeA (kvs more : List (Key × A)) : List (Key × A) := more.foldl (fun acc kv => putKA acc kv.1 kv.2) kvs
section
variable {K : PySem.W.Frag} {G : Hp}
theorem ARk.val (k : Key) : ∀ {ws : List (Key × V)} {xs : List (Key × A)}, ARk K G ws xs → (∀ x, valA xs k = some x → ∃ v, valV ws k = some v ∧ AR K G v x) ∧ (valA xs k = none → valV ws k = none)
  | _, _, .nil => ⟨fun x h => (nomatch h), fun _ => rfl⟩
  | (k', v) :: ws, (_, x) :: xs, .cons h t => by
    obtain ⟨i1, i2⟩ := ARk.val k t
    by_cases e : k' = k
    · have a1 : valA ((k', x) :: xs) k = some x := by simp [valA, List.find?_cons, e]
      have a2 : valV ((k', v) :: ws) k = some v := by simp [valV, List.find?_cons, e]
      rw [a1, a2]
      exact ⟨fun y hy => by cases hy; exact ⟨v, rfl, h⟩, fun z => (nomatch z)⟩
    · have a1 : valA ((k', x) :: xs) k = valA xs k := by simp [valA, List.find?_cons, e]
      have a2 : valV ((k', v) :: ws) k = valV ws k := by simp [valV, List.find?_cons, e]
      rw [a1, a2]
      exact ⟨i1, i2⟩
theorem ARk.anyK (k : Key) : ∀ {ws : List (Key × V)} {xs : List (Key × A)}, ARk K G ws xs → (ws.any fun kv => decide (kv.1 = k)) = (xs.any fun kv => decide (kv.1 = k))
  | _, _, .nil => rfl
  | _, _, .cons h t => by rw [List.any_cons, List.any_cons, ARk.anyK k t]
theorem ARk.append : ∀ {ws ws' : List (Key × V)} {xs xs' : List (Key × A)}, ARk K G ws xs → ARk K G ws' xs' → ARk K G (ws ++ ws') (xs ++ xs')
  | _, _, _, _, .nil, r => r
  | _, _, _, _, .cons h t, r => .cons h (ARk.append t r)
theorem ARk.mapPut {k : Key} {v : V} {x : A} (h : AR K G v x) : ∀ {ws : List (Key × V)} {xs : List (Key × A)}, ARk K G ws xs → ARk K G (ws.map fun kv => if kv.1 = k then (kv.1, v) else kv) (xs.map fun kv => if kv.1 = k then (kv.1, x) else kv)
  | _, _, .nil => .nil
  | (k', _) :: _, _ :: _, .cons r t => by
    rw [List.map_cons, List.map_cons]
    by_cases e : k' = k
    · simp only [e, if_true]; exact .cons h (ARk.mapPut h t)
    · simp only [e, if_false]; exact .cons r (ARk.mapPut h t)
theorem ARk.put {k : Key} {v : V} {x : A} (h : AR K G v x) {ws : List (Key × V)} {xs : List (Key × A)} (r : ARk K G ws xs) : ARk K G (putK ws k v) (putKA xs k x) := by
  unfold putK putKA
  rw [ARk.anyK k r]
  split
  · exact ARk.mapPut h r
  · exact r.append (.cons h .nil)
theorem ARk.merge : ∀ {more : List (Key × V)} {mo : List (Key × A)} {ws : List (Key × V)} {xs : List (Key × A)}, ARk K G more mo → ARk K G ws xs → ARk K G (mergeK ws more) (mergeA xs mo)
  | _, _, _, _, .nil, r => r
  | (k, v) :: more, (_, a) :: mo, ws, xs, .cons h t, r => show ARk K G (mergeK (putK ws k v) more) (mergeA (putKA xs k a) mo) from ARk.merge t (ARk.put h r)
end
/-- {k: c, ..}, constants all -/
def aDisp (kvs : List (Key × A)) : ATE := fun _ os κ => κ (.own os.length) (os ++ [.dic (mergeA [] kvs)])
def DPs (X : Cx) (pos : Pos) (keys : List (Option Expr)) (values : List Expr) (kvs : List (Key × A)) : Prop :=
  ∃ (kw : List (Key × V)) (trs : List (TE × TE)), PPs X pos keys values trs ∧ (∀ G, ARk X.K G kw kvs) ∧ ∀ σ H (Q : List (V × V) → Hp → Prop), Q (kw.map fun kv => (kV kv.1, kv.2)) H → tPairs trs σ H Q
theorem dps_nil : DPs X pos [] [] [] := ⟨[], [], pps_nil, fun _ => .nil, fun _ _ _ q => q⟩
theorem dps_cons {k v : Expr} {ks : List (Option Expr)} {vs : List Expr} {key : Key} {a : A} {w : V} {kvs : List (Key × A)} (hk : PE X k fun _ H Q => Q (kV key) H) (hv : PE X v fun _ H Q => Q w H) (hw : ∀ G, AR X.K G w a) (hr : DPs X pos ks vs kvs) : DPs X pos (some k :: ks) (v :: vs) ((key, a) :: kvs) := by
  obtain ⟨kw, trs, h1, h2, h3⟩ := hr
  exact ⟨(key, w) :: kw, _, pps_cons hk hv h1, fun G => .cons (hw G) (h2 G), fun σ H Q q => h3 σ H _ q⟩
theorem dps_ss {x z : Str} {i j : Nat} {p p2 : Pos} {ks : List (Option Expr)} {vs : List Expr} {kvs : List (Key × A)} (hr : DPs X pos ks vs kvs) : DPs X pos (some (.Constant (.str x) i p) :: ks) (.Constant (.str z) j p2 :: vs) ((.inr x, .str z) :: kvs) := dps_cons pe_str pe_str (fun _ => .str z) hr
theorem dps_is {x : Int} {z : Str} {i j : Nat} {p p2 : Pos} {ks : List (Option Expr)} {vs : List Expr} {kvs : List (Key × A)} (hr : DPs X pos ks vs kvs) : DPs X pos (some (.Constant (.int x) i p) :: ks) (.Constant (.str z) j p2 :: vs) ((.inl x, .str z) :: kvs) := dps_cons pe_int pe_str (fun _ => .str z) hr
theorem ae_disp {keys : List (Option Expr)} {values : List Expr} {kvs : List (Key × A)} (h : DPs X pos keys values kvs) (hall : keys.all (·.isSome) = true := by rfl) (hl : keys.length = values.length := by rfl) (h0 : keys ≠ [] := by simp) (h15 : keys.length ≤ 15 := by decide) (hk : kvs.length ≤ 15 := by decide) :
    AE X (.Dict keys values pos) (aDisp kvs) := by
  obtain ⟨kw, trs, h1, h2, h3⟩ := h
  refine PEm (pe_disp h1 hall hl h0 h15) fun σ H Q q p hp => ?_
  obtain ⟨W, as, os, κ, rfl, ok, sl, k, q⟩ := q
  refine h3 _ _ _ ⟨upd_same, kw, rfl, by rw [(h2 W.G).length]; exact hk, ?_⟩
  have e : upd (upd W.H p (.dK [])) p (.dK (mergeK [] kw)) = upd W.H p (.dK (mergeK [] kw)) := by
    funext x
    by_cases z : x = p
    · subst z; rw [upd_same, upd_same]
    · rw [upd_ne z, upd_ne z, upd_ne z]
  rw [e]
  obtain ⟨o, s⟩ := ok.newO hp (o := .dK (mergeK [] kw)) (ob := .dic (mergeA [] kvs)) ⟨ok.free hp, _, upd_same, ARk.merge (h2 _) .nil⟩
  refine q _ _ _ (.own os.length) s o ⟨p, ?_, rfl⟩ k
  show (W.ls ++ [p])[os.length]? = some p
  rw [← ok.len, List.getElem?_append_right (Nat.le_refl _)]
  simp
/-- d.get(k, x) -/
def aGet2 (td ty tx : ATE) : ATE := fun as os κ => td as os fun d os1 => ∃ kvs, dr os1 d = some (.dic kvs) ∧ ty as os1 fun y os2 => tx as os2 fun z os3 => os3 = os1 ∧ ∃ a k c, dr os3 y = some a ∧ keyA a = some k ∧ z = .p c ∧ κ (.p ((valA kvs k).getD c)) os3
theorem keyA_v {a : A} {k : Key} (h : keyA a = some k) : flatA a = true ∧ tV a = kV k := by
  cases a <;> first | (cases h; exact ⟨rfl, rfl⟩) | cases h
theorem ae_get2 (hu : X.A.units + 1 < cLine) (ho : AE X o td) (he : AE X e ta) (hf : AE X f tx) (m : M2 X o "get" apos e f cpos) : AE X (.Call (.Attribute o "get" apos) [e, f] [] cpos) (aGet2 td ta tx) := PEm (pe_dget2 hu ho he hf m) fun σ H Q q => by
  obtain ⟨W, as, os, κ, rfl, ok, sl, k, q⟩ := q
  refine ⟨W, as, os, _, rfl, ok, sl, k, fun vd W1 os1 bd s1 ok1 rd ⟨kvs, hd, h1⟩ => ?_⟩
  obtain ⟨p, kw, rfl, g1, r1⟩ := dr_dic ok1 rd hd
  refine ⟨p, rfl, .inl ⟨kw, .inl g1⟩, ?_⟩
  refine ⟨W1, as, os1, _, rfl, ok1, sl.mono s1, h1, fun vy W2 os2 by' s2 ok2 ry h2 => ?_⟩
  refine ⟨W2, as, os2, _, rfl, ok2, sl.mono (s1.trans s2), h2, fun vz W3 os3 bz s3 ok3 rz ⟨eo, a, k, c, hy, hk, hz, h3⟩ => ?_⟩
  subst hz
  subst eo
  have rd3 : BR X.K W3 (.ref p) bd := rd.mono (s2.trans s3)
  obtain ⟨p', kw', ep, g3, r3⟩ := dr_dic ok3 rd3 hd
  cases ep
  obtain ⟨f1, f2⟩ := keyA_v hk
  have ey := (dr_flat (ry.mono s3) hy f1).1
  rw [f2] at ey
  refine ⟨valV kw' k, .inl ⟨kw', k, .inl g3, ey, rfl⟩, ?_⟩
  obtain ⟨v1, v2⟩ := r3.val k
  cases e : valA kvs k with
  | none =>
    rw [v2 e]
    rw [e] at h3
    exact q _ W3 _ (.p c) ((s1.trans s2).trans s3) ok3 rz h3
  | some x =>
    obtain ⟨v, hv, rv⟩ := v1 x e
    rw [hv]
    rw [e] at h3
    exact q _ W3 _ (.p x) ((s1.trans s2).trans s3) ok3 rv h3
/-- d[k] = v, d owned -/
def aPut (td ty tv : ATE) : ATS := fun Δ as os => tv as os fun v os1 => td as os1 fun d os2 => ty as os2 fun y os3 => ∃ n kvs a k c, d = .own n ∧ os3[n]? = some (.dic kvs) ∧ dr os3 y = some a ∧ keyA a = some k ∧ v = .p c ∧ kvs.length < sizeLine ∧ Δ.nx as (os3.set n (.dic (putKA kvs k c)))
theorem ast_put (hu : X.A.units + 1 < cLine) (ho : AE X o td) (hi : AE X e ta) (hv : AE X a tb) (hs : swapsWith a (some (.Subscript o e pos')) pos.line X.env = pure false := by rfl) : ASt X (.Assign [.Subscript o e pos'] a pos) (aPut td ta tb) := fun W0 => PSm (ps_dput hu ho hi hv hs) fun D σ H q => by
  obtain ⟨W, as, os, Δ, rfl, sn, ok, sl, k, E⟩ := q
  refine ⟨W, as, os, _, rfl, ok, sl, k, fun vv W1 os1 bv s1 ok1 rv h1 => ?_⟩
  refine ⟨W1, as, os1, _, rfl, ok1, sl.mono s1, h1, fun vd W2 os2 bd s2 ok2 rd h2 => ?_⟩
  refine ⟨W2, as, os2, _, rfl, ok2, sl.mono (s1.trans s2), h2, fun vy W3 os3 by' s3 ok3 ry ⟨n, kvs, a, k, c, hd, hob, hy, hk, hv, hl, h3⟩ => ?_⟩
  subst hd hv
  obtain ⟨l, hl1, rfl⟩ := rd.mono s3
  obtain ⟨hg, kw, g1, r1⟩ := ok3.own n l _ hl1 hob
  obtain ⟨f1, f2⟩ := keyA_v hk
  have ey := (dr_flat ry hy f1).1
  rw [f2] at ey
  refine ⟨l, _, rfl, .inl ⟨kw, k, g1, ey, by rw [r1.length]; exact hl, rfl⟩, ?_⟩
  have rv3 : AR X.K W3.G vv c := BR.mono (s2.trans s3) rv
  obtain ⟨o4, s4⟩ := ok3.mut hl1 (o := .dK (putK kw k vv)) (ob := .dic (putKA kvs k c)) hg ⟨hg, _, upd_same, ARk.put rv3 r1⟩
  exact E.nx _ _ _ _ ((((sn.trans s1).trans s2).trans s3).trans s4) o4 (sl.mono (((s1.trans s2).trans s3).trans s4)) h3
end
/-! ### defs as the head says -/
section
variable {P : Program} {w : World} {K : PySem.W.Frag} {mg : Str → Option Value} {base : Heap}
/-- a function of the module without defaults -/
theorem cl_of {x qual : Str} {st : Stmt} {N ps : List Str} {k : Nat} {sp : ASp} {fd : FuncData} (hm : mg x = some (.ref (He.ga K x))) (F : FunD K x qual (defArgs st) (defBody st) (defScope st) [] [] (He.ga K x) fd) (S : FnScope N ps (defScope st))
    (hb : ∀ (kV doc pm : Value) (an : Option Addr) (cdv ct : Value) (us : List Value), us.length = ps.length → bindArgs (PySem.W.fnOf x qual (defArgs st) (defBody st) (defScope st) .none kV doc pm an cdv ct) ⟨us, []⟩ = pure (ps.zip us))
    (len : ∀ bs os κ, sp bs os κ → bs.length = ps.length) (hbody : BodyOk P w K mg base N qual st k sp) : Cl P w K mg base (k + 1) x sp [] :=
  ⟨He.ga K x, fd, ps, [], [], hm, F.kp, fun_okD F S len hbody, F.bindsN hb, .nil, fun _ => .nil⟩
theorem mt_of {C : String} {x m qual : Str} {st : Stmt} {N ps : List Str} {k : Nat} {sp : ASp} {fd : FuncData} {f : Addr} (hc : Cls K (cAt K C)) (hm : Meth K (cAt K C) m f) (F : FunD K m qual (defArgs st) (defBody st) (defScope st) [] [] f fd) (S : FnScope N ps (defScope st))
    (hb : ∀ (kV doc pm : Value) (an : Option Addr) (cdv ct : Value) (us : List Value), us.length = ps.length → bindArgs (PySem.W.fnOf m qual (defArgs st) (defBody st) (defScope st) .none kV doc pm an cdv ct) ⟨us, []⟩ = pure (ps.zip us))
    (len : ∀ bs os κ, sp bs os κ → bs.length = ps.length) (hbody : BodyOk P w K mg base N qual st k sp) : Mt P w K mg base (k + 1) C m sp [] :=
  ⟨hc, f, fd, ps, [], [], hm, fun_okD F S len hbody, F.bindsN hb, .nil, fun _ => .nil⟩
theorem mx_of {C : String} {x qual : Str} {st : Stmt} {N ps : List Str} {k : Nat} {sp : ASp} {fd : FuncData} {f : Addr} (hx : mg x = some (.ref (cAt K C))) (hm : Mk K (cAt K C) f) (F : FunD K "__init__" qual (defArgs st) (defBody st) (defScope st) [] [] f fd) (S : FnScope N ps (defScope st))
    (hb : ∀ (kV doc pm : Value) (an : Option Addr) (cdv ct : Value) (us : List Value), us.length = ps.length → bindArgs (PySem.W.fnOf "__init__" qual (defArgs st) (defBody st) (defScope st) .none kV doc pm an cdv ct) ⟨us, []⟩ = pure (ps.zip us))
    (len : ∀ bs os κ, sp bs os κ → bs.length = ps.length) (hbody : BodyOk P w K mg base N qual st k sp) : Mx P w K mg base (k + 1) x C sp [] :=
  ⟨hx, f, fd, ps, [], [], hm, fun_okD F S len hbody, F.bindsN hb, .nil, fun _ => .nil⟩
end
end AB

end

section
set_option Elab.async false
set_option linter.all false
set_option maxRecDepth 100000
set_option maxHeartbeats 4000000
namespace AB
open PySem PySem.Spec PyProof.Rows L2 Evl
/-! ### a comprehension's block, checked -/
def blkB (N : List Str) (sc scope : Scope) (own : List (Str × Nat)) : Bool :=
  decide (∀ y ∈ scope.names, scope.names.lookup y.1 = some y.2) && (decide (∀ p ∈ own, N[p.2]? = some p.1) && (decide (∀ y ∈ scope.names, y.2 = .free → sc.names.lookup y.1 = some .cell ∨ sc.names.lookup y.1 = some .free) &&
  decide (∀ y ∈ scope.names, y.2 = .local ∨ y.2 = .cell → y.1 ∈ own.map (·.1) ∨ y.1 ∉ N)))
theorem blk_ok {N : List Str} {sc scope : Scope} {own : List (Str × Nat)} (hk : scope.kind = .function) (h : blkB N sc scope own = true) : BlkOk N sc scope own := by
  obtain ⟨h1, h⟩ := He.ba h
  obtain ⟨h2, h⟩ := He.ba h
  obtain ⟨h3, h4⟩ := He.ba h
  exact ⟨hk, of_decide_eq_true h1, of_decide_eq_true h2, of_decide_eq_true h3, of_decide_eq_true h4⟩
/-- zip of two, lists or tuples -/
def iZip (ta : ATA) : AI := fun as os κ => ta as os fun bs os1 => ∃ b c xs ys, bs = [b, c] ∧ (b = .p (.lst xs) ∨ b = .p (.tup xs)) ∧ (c = .p (.lst ys) ∨ c = .p (.tup ys)) ∧ κ (List.zipWith (fun x y => A.tup [x, y]) xs ys) (fun _ => True) os1
end AB

end

section
set_option Elab.async false
set_option linter.all false
set_option maxRecDepth 100000
set_option maxHeartbeats 4000000
namespace AB
open PySem PySem.Spec PyProof.Rows L2 Evl
/-! ### == told case by case -/
def eqK : A → A → (Bool → Prop) → Prop
  | .int i, .int j, k => k (decide (i = j))
  | .str i, .str j, k => k (decide (i = j))
  | .bl i, .bl j, k => k (decide (i = j))
  | .int _, .str _, k => k false
  | .str _, .int _, k => k false
  | .non, .non, k => k true
  | .non, .str _, k => k false
  | .str _, .non, k => k false
  | .non, .int _, k => k false
  | .int _, .non, k => k false
  | .lst xs, .lst [], k => k xs.isEmpty
  | .tup xs, .tup [], k => k xs.isEmpty
  | a, c, k => isD a = true ∧ isD c = true ∧ SeqAt.shaped (py a) = true ∧ SeqAt.shaped (py c) = true ∧ k (PyData.eqv (py a) (py c))
def oE (neg : Bool) : AR2 := fun x y os κ => ∃ a c, dr os x = some a ∧ dr os y = some c ∧ eqK a c fun r => κ (.p (.bl (if neg then !r else r))) os
theorem oE_oEq {neg : Bool} {x y : B} {os : OS} {κ : B → OS → Prop} (h : oE neg x y os κ) : oEq neg x y os κ := by
  obtain ⟨a, c, h1, h2, h⟩ := h
  refine ⟨a, c, h1, h2, ?_⟩
  unfold eqK at h
  split at h <;> first
    | (refine .inl ⟨rfl, rfl, rfl, ?_⟩; simpa [tV] using h)
    | (refine .inr (.inr ⟨_, .inl ⟨rfl, rfl⟩, ?_⟩); exact h)
    | (refine .inr (.inr ⟨_, .inr ⟨rfl, rfl⟩, ?_⟩); exact h)
    | exact .inr (.inl h)
theorem OA.weak {X : Cx} {f : Value → Value → Sem Value} {R R' : AR2} (h : OA X f R) (m : ∀ x y os κ, R' x y os κ → R x y os κ) : OA X f R' := by
  intro pins s σ H vx vy v u Q I rx ry ⟨W, os, x, y, κ, e, ok, bx, by', h', q⟩
  exact h pins s σ H vx vy v u Q I rx ry ⟨W, os, x, y, κ, e, ok, bx, by', m _ _ _ _ h', q⟩
theorem oa_e {X : Cx} (hu : X.A.units + 64 + 1 < cLine) : OA X (compareOp .Eq) (oE false) := (oa_eq hu).weak fun _ _ _ _ => oE_oEq
theorem oa_n {X : Cx} (hu : X.A.units + 64 + 1 < cLine) : OA X (compareOp .NotEq) (oE true) := (oa_ne hu).weak fun _ _ _ _ => oE_oEq
/-! ### lists of plain things -/
theorem pm_nil {xs : List A} : ([] = xs.map B.p) ↔ xs = [] := by cases xs <;> simp
theorem pm_cons {xs : List A} {b : B} {l : List B} : (b :: l = xs.map B.p) ↔ ∃ a ys, b = .p a ∧ xs = a :: ys ∧ l = ys.map B.p := by
  cases xs with
  | nil => simp
  | cons x xs =>
    simp only [List.map_cons, List.cons.injEq]
    constructor
    · rintro ⟨h1, h2⟩; exact ⟨x, xs, h1, ⟨rfl, rfl⟩, h2⟩
    · rintro ⟨a, ys, h1, ⟨rfl, rfl⟩, h2⟩; exact ⟨h1, h2⟩
/-! ### names of types, case by case -/
section
variable {CS ys : List String} {C : String} {gs : List (Str × A)} {b : Bool} {i : Int} {z : Str} {xs : List A} {kvs : List (Key × A)} {os : OS} {k : Nat}
theorem isQ_non : isQ ys .non = ys.contains "NoneType" := rfl
theorem isQ_bl : isQ ys (.bl b) = ys.contains "bool" := rfl
theorem isQ_int : isQ ys (.int i) = ys.contains "int" := rfl
theorem isQ_str : isQ ys (.str z) = ys.contains "str" := rfl
theorem isQ_lst : isQ ys (.lst xs) = ys.contains "list" := rfl
theorem isQ_frz : isQ ys (.frz xs) = ys.contains "list" := rfl
theorem isQ_tup : isQ ys (.tup xs) = ys.contains "tuple" := rfl
theorem isQ_dic : isQ ys (.dic kvs) = ys.contains "dict" := rfl
theorem isQ_ins : isQ ys (.ins C gs) = ys.contains C := rfl
theorem okQ_non : okQ CS .non = True := rfl
theorem okQ_bl : okQ CS (.bl b) = True := rfl
theorem okQ_int : okQ CS (.int i) = True := rfl
theorem okQ_str : okQ CS (.str z) = True := rfl
theorem okQ_lst : okQ CS (.lst xs) = True := rfl
theorem okQ_frz : okQ CS (.frz xs) = True := rfl
theorem okQ_tup : okQ CS (.tup xs) = True := rfl
theorem okQ_dic : okQ CS (.dic kvs) = True := rfl
theorem okQ_ins : okQ CS (.ins C gs) = (C ∈ CS) := rfl
theorem isN_non : isN .non = true := rfl
theorem isN_bl : isN (.bl b) = false := rfl
theorem isN_int : isN (.int i) = false := rfl
theorem isN_str : isN (.str z) = false := rfl
theorem isN_lst : isN (.lst xs) = false := rfl
theorem isN_tup : isN (.tup xs) = false := rfl
theorem isN_ins : isN (.ins C gs) = false := rfl
theorem dr_p {a : A} : dr os (.p a) = some a := rfl
theorem dr_oL (h : os[k]? = some (.lst xs)) : dr os (.own k) = some (.lst xs) := by simp [dr, h]
theorem dr_oD (h : os[k]? = some (.dic kvs)) : dr os (.own k) = some (.dic kvs) := by simp [dr, h]
theorem dr_oI (h : os[k]? = some (.ins C gs)) : dr os (.own k) = some (.ins C gs) := by simp [dr, h]
end
section
variable {k : Bool → Prop} {i j : Int} {y z : Str} {b c : Bool} {xs : List A}
theorem eqK_ii : eqK (.int i) (.int j) k = k (decide (i = j)) := rfl
theorem eqK_ss : eqK (.str y) (.str z) k = k (decide (y = z)) := rfl
theorem eqK_bb : eqK (.bl b) (.bl c) k = k (decide (b = c)) := rfl
theorem eqK_is : eqK (.int i) (.str z) k = k false := rfl
theorem eqK_si : eqK (.str z) (.int i) k = k false := rfl
theorem eqK_nn : eqK .non .non k = k true := rfl
theorem eqK_ns : eqK .non (.str z) k = k false := rfl
theorem eqK_sn : eqK (.str z) .non k = k false := rfl
theorem eqK_ni : eqK .non (.int i) k = k false := rfl
theorem eqK_in : eqK (.int i) .non k = k false := rfl
theorem eqK_l0 : eqK (.lst xs) (.lst []) k = k xs.isEmpty := rfl
theorem eqK_t0 : eqK (.tup xs) (.tup []) k = k xs.isEmpty := rfl
end
/-! ### loops and comprehensions, by what they walk -/
def forG (g : ATG) (tb : ATS) (Δ : AEnds) (as : AS) (items : List A) (stay : OS → Prop) (os1 : OS) : Prop := ∃ Pv : Nat → AS → OS → Prop, Pv 0 as os1 ∧ (∀ i as os, i ≤ items.length → Pv i as os → stay os) ∧
  (∀ i a as os, items[i]? = some a → Pv i as os → g (.p a) as os fun as2 os2 => tb { Δ with nx := Pv (i + 1), ct := Pv (i + 1), bk := Δ.nx } as2 os2) ∧ ∀ as os, Pv items.length as os → Δ.nx as os
theorem aFor_eq {ti : AI} {g : ATG} {tb : ATS} {Δ : AEnds} {as : AS} {os : OS} : aFor ti g tb Δ as os = ti as os (forG g tb Δ as) := rfl
def whG (tc : ATT) (tb : ATS) (Δ : AEnds) (as : AS) (os : OS) : Prop := aWhile tc tb Δ as os
def lcG (tg : Tg) (tt : ATT) (te : ATE) (vs : List Nat) (as : AS) (κ : B → OS → Prop) (items : List A) (stay : OS → Prop) (os1 : OS) : Prop := ∃ Pv : Nat → List A → OS → Prop, Pv 0 [] os1 ∧ (∀ i acc os, i ≤ items.length → Pv i acc os → stay os) ∧
  (∀ i a acc os, items[i]? = some a → Pv i acc os → gA tg (.p a) (wipeA as vs) os fun as2 os2 => tt as2 os2 fun b os3 => if b = true then te as2 os3 fun y os4 => ∃ c, y = .p c ∧ acc.length < sizeLine ∧ Pv (i + 1) (acc ++ [c]) os4 else Pv (i + 1) acc os3) ∧
  ∀ acc os, Pv items.length acc os → κ (.p (.lst acc)) os
theorem aLc_eq {ti : AI} {tg : Tg} {tt : ATT} {te : ATE} {vs : List Nat} {as : AS} {os : OS} {κ : B → OS → Prop} : aLc ti tg tt te vs as os κ = ti as os (lcG tg tt te vs as κ) := rfl
section
variable {tg : Tg} {te : ATE} {tt : ATT} {vs : List Nat} {as : AS} {os1 : OS} {items : List A} {stay : OS → Prop} {κ : B → OS → Prop}
theorem lcJ (J : OS → Prop) (Pe : A → Prop) (hst : ∀ os, J os → stay os) (h0 : J os1) (hl : items.length ≤ sizeLine)
    (h : ∀ a ∈ items, ∀ os κ', J os → (∀ c os', Pe c → J os' → κ' (.p c) os') → gA tg (.p a) (wipeA as vs) os fun as2 os2 => te as2 os2 κ')
    (q : ∀ xs os', xs.length = items.length → (∀ x ∈ xs, Pe x) → J os' → κ (.p (.lst xs)) os') : lcG tg aYes te vs as κ items stay os1 := by
  refine ⟨fun i acc os => acc.length = i ∧ (∀ x ∈ acc, Pe x) ∧ J os, ⟨rfl, by simp, h0⟩, fun i acc os _ p => hst os p.2.2, fun i a acc os hi p => ?_, fun acc os p => q acc os p.1 p.2.1 p.2.2⟩
  have hlt : i < items.length := (List.getElem?_eq_some_iff.mp hi).1
  have z := h a (List.mem_of_getElem? hi) os (fun y os4 => ∃ c, y = .p c ∧ acc.length < sizeLine ∧ ((acc ++ [c]).length = i + 1 ∧ (∀ x ∈ acc ++ [c], Pe x) ∧ J os4)) p.2.2 fun c os' pc jc => ⟨c, rfl, by rw [p.1]; omega, by simp [p.1], fun x hx => by
    rcases List.mem_append.mp hx with hx | hx
    · exact p.2.1 x hx
    · rw [List.mem_singleton.mp hx]; exact pc, jc⟩
  simpa [aYes] using z
theorem lcM (f : A → A) (hst : stay os1) (hl : items.length ≤ sizeLine)
    (h : ∀ a ∈ items, ∀ κ' : B → OS → Prop, κ' (.p (f a)) os1 → gA tg (.p a) (wipeA as vs) os1 fun as2 os2 => te as2 os2 κ')
    (q : κ (.p (.lst (items.map f))) os1) : lcG tg aYes te vs as κ items stay os1 := by
  refine ⟨fun i acc os => i ≤ items.length ∧ acc = (items.take i).map f ∧ os = os1, ⟨Nat.zero_le _, by simp, rfl⟩, fun i acc os _ p => by rw [p.2.2]; exact hst, fun i a acc os hi p => ?_, fun acc os p => by
    obtain ⟨_, p2, p3⟩ := p
    rw [List.take_length] at p2
    rw [p2, p3]; exact q⟩
  have hlt : i < items.length := (List.getElem?_eq_some_iff.mp hi).1
  obtain ⟨p1, p2, p3⟩ := p
  subst p3
  have hlen : acc.length < sizeLine := by rw [p2]; simp; omega
  have e : acc ++ [f a] = (items.take (i + 1)).map f := by
    rw [List.take_add_one, hi, p2]; simp
  have z := h a (List.mem_of_getElem? hi) (fun y os4 => ∃ c, y = .p c ∧ acc.length < sizeLine ∧ (i + 1 ≤ items.length ∧ acc ++ [c] = (items.take (i + 1)).map f ∧ os4 = os)) ⟨f a, rfl, hlen, hlt, e, rfl⟩
  simpa [aYes] using z
theorem forI {g : ATG} {tb : ATS} {Δ : AEnds} (Pv : Nat → AS → OS → Prop) (h0 : Pv 0 as os1) (hst : ∀ i as os, i ≤ items.length → Pv i as os → stay os)
    (hs : ∀ i a as os, items[i]? = some a → Pv i as os → g (.p a) as os fun as2 os2 => tb { Δ with nx := Pv (i + 1), ct := Pv (i + 1), bk := Δ.nx } as2 os2) (hd : ∀ as os, Pv items.length as os → Δ.nx as os) : forG g tb Δ as items stay os1 := ⟨Pv, h0, hst, hs, hd⟩
end
theorem gA_nm {i : Nat} : gA (.nm i) = agName i := rfl
theorem gA_tp {is : List Nat} : gA (.tp is) = agTup is := rfl
theorem aPar_cons {i j : Nat} {ta tb : ATE} {Δ : AEnds} {as : AS} {os : OS} : aPar i j (aCons ta (aCons tb aNil)) Δ as os = ta as os (fun x os1 => tb as os1 fun y os2 => Δ.nx ((as.set i (some x)).set j (some y)) os2) := by
  unfold aPar aCons
  congr 1
  funext x os1
  unfold aNil
  simp only [List.cons.injEq, and_true]
  congr 1
  funext y os2
  apply propext
  constructor
  · rintro ⟨b, c, ⟨rfl, rfl⟩, h⟩; exact h
  · intro h; exact ⟨x, y, ⟨rfl, rfl⟩, h⟩
theorem os_same {os : OS} {k : Nat} {o o' : OB} (h : os[k]? = some o) : (os.set k o')[k]? = some o' := List.getElem?_set_self (List.getElem?_eq_some_iff.mp h).1
theorem os_ne {os : OS} {k j : Nat} {o' : OB} (h : k ≠ j) : (os.set k o')[j]? = os[j]? := List.getElem?_set_ne h
theorem os_app {os l : OS} {k : Nat} {o : OB} (h : os[k]? = some o) : (os ++ l)[k]? = some o := by rw [List.getElem?_append_left (List.getElem?_eq_some_iff.mp h).1]; exact h
theorem os_last {os : OS} {o : OB} : (os ++ [o])[os.length]? = some o := by simp
/-! ### fields -/
def fldR (K : PySem.W.Frag) (f : Str) (κ : B → OS → Prop) (x : B) (os1 : OS) : Prop := ∃ C gs a, dr os1 x = some (.ins C gs) ∧ Cls K (cAt K C) ∧ NoAttr K (cAt K C) f ∧ gs.lookup f = some a ∧ κ (.p a) os1
theorem aFld_eq {K : PySem.W.Frag} {f : Str} {te : ATE} {as : AS} {os : OS} {κ : B → OS → Prop} : aFld K f te as os κ = te as os (fldR K f κ) := rfl
theorem fldR_of {K : PySem.W.Frag} {f : Str} {κ : B → OS → Prop} {x : B} {os : OS} {C : String} {gs : List (Str × A)} (h : dr os x = some (.ins C gs)) : fldR K f κ x os = (Cls K (cAt K C) ∧ NoAttr K (cAt K C) f ∧ ∃ a, gs.lookup f = some a ∧ κ (.p a) os) := by
  apply propext
  constructor
  · rintro ⟨C', gs', a, e, h1, h2, h3, h4⟩
    rw [h] at e; cases e
    exact ⟨h1, h2, a, h3, h4⟩
  · rintro ⟨h1, h2, a, h3, h4⟩; exact ⟨C, gs, a, h, h1, h2, h3, h4⟩
def setFR (K : PySem.W.Frag) (f : Str) (Δ : AEnds) (as : AS) (y x : B) (os2 : OS) : Prop := ∃ k C gs a, x = .own k ∧ y = .p a ∧ os2[k]? = some (.ins C gs) ∧ Cls K (cAt K C) ∧ NoAttr K (cAt K C) f ∧ gs.length < 1000 ∧ Δ.nx as (os2.set k (.ins C (putA f a gs)))
theorem aSetF_eq {K : PySem.W.Frag} {f : Str} {to tv : ATE} {Δ : AEnds} {as : AS} {os : OS} : aSetF K f to tv Δ as os = tv as os fun y os1 => to as os1 (setFR K f Δ as y) := rfl
theorem setFR_of {K : PySem.W.Frag} {f : Str} {Δ : AEnds} {as : AS} {k : Nat} {a : A} {os : OS} {C : String} {gs : List (Str × A)} (h : os[k]? = some (.ins C gs)) : setFR K f Δ as (.p a) (.own k) os = (Cls K (cAt K C) ∧ NoAttr K (cAt K C) f ∧ gs.length < 1000 ∧ Δ.nx as (os.set k (.ins C (putA f a gs)))) := by
  apply propext
  constructor
  · rintro ⟨k', C', gs', a', e1, e2, e, h1⟩
    cases e1; cases e2
    rw [h] at e; cases e
    exact h1
  · intro h1; exact ⟨k, C, gs, a, rfl, rfl, h, h1⟩
theorem fldR_p {K : PySem.W.Frag} {f : Str} {κ : B → OS → Prop} {os : OS} {C : String} {gs : List (Str × A)} : fldR K f κ (.p (.ins C gs)) os = (Cls K (cAt K C) ∧ NoAttr K (cAt K C) f ∧ ∃ a, gs.lookup f = some a ∧ κ (.p a) os) := fldR_of rfl
def drO : Option OB → Option A
  | some (.lst xs) => some (.lst xs)
  | some (.dic kvs) => some (.dic kvs)
  | some (.ins C fs) => some (.ins C fs)
  | _ => none
theorem dr_own' {os : OS} {k : Nat} : dr os (.own k) = drO (os[k]?) := rfl
theorem drO_l {xs : List A} : drO (some (.lst xs)) = some (.lst xs) := rfl
theorem drO_d {xs : List (Key × A)} : drO (some (.dic xs)) = some (.dic xs) := rfl
theorem drO_i {C : String} {xs : List (Str × A)} : drO (some (.ins C xs)) = some (.ins C xs) := rfl
def setFO (K : PySem.W.Frag) (f : Str) (Δ : AEnds) (as : AS) (a : A) (k : Nat) (os : OS) : Option OB → Prop
  | some (.ins C gs) => Cls K (cAt K C) ∧ NoAttr K (cAt K C) f ∧ gs.length < 1000 ∧ Δ.nx as (os.set k (.ins C (putA f a gs)))
  | _ => False
theorem setFR_o {K : PySem.W.Frag} {f : Str} {Δ : AEnds} {as : AS} {k : Nat} {a : A} {os : OS} : setFR K f Δ as (.p a) (.own k) os = setFO K f Δ as a k os (os[k]?) := by
  cases e : os[k]? with
  | none =>
    apply propext
    constructor
    · rintro ⟨k', C', gs', a', e1, e2, e3, h1⟩
      cases e1; rw [e] at e3; cases e3
    · intro h; exact h.elim
  | some o =>
    cases o with
    | ins C gs => rw [setFR_of e]; rfl
    | _ =>
      apply propext
      constructor
      · rintro ⟨k', C', gs', a', e1, e2, e3, h1⟩
        cases e1; rw [e] at e3; cases e3
      · intro h; exact h.elim
theorem setFO_i {K : PySem.W.Frag} {f : Str} {Δ : AEnds} {as : AS} {k : Nat} {a : A} {os : OS} {C : String} {gs : List (Str × A)} : setFO K f Δ as a k os (some (.ins C gs)) = (Cls K (cAt K C) ∧ NoAttr K (cAt K C) f ∧ gs.length < 1000 ∧ Δ.nx as (os.set k (.ins C (putA f a gs)))) := rfl
def methR (C : String) (m : Str) (sp : ASp) (ds : List A) (t : ATA) (as : AS) (κ : B → OS → Prop) (x : B) (os1 : OS) : Prop := ∃ gs, x = .p (.ins C gs) ∧ gs.lookup m = none ∧ t as os1 fun bs os2 => ∃ xs, bs = xs.map B.p ∧ sp (x :: (xs ++ ds).map B.p) [] (resP κ os2)
theorem aMeth_eq {C : String} {m : Str} {sp : ASp} {ds : List A} {to : ATE} {t : ATA} {as : AS} {os : OS} {κ : B → OS → Prop} : aMeth C m sp ds to t as os κ = to as os (methR C m sp ds t as κ) := rfl
theorem methR_p {C D : String} {gs : List (Str × A)} {m : Str} {sp : ASp} {ds : List A} {t : ATA} {as : AS} {os1 : OS} {κ : B → OS → Prop} : methR C m sp ds t as κ (.p (.ins D gs)) os1 = (D = C ∧ gs.lookup m = none ∧ t as os1 fun bs os2 => ∃ xs, bs = xs.map B.p ∧ sp (.p (.ins D gs) :: (xs ++ ds).map B.p) [] (resP κ os2)) := by
  apply propext
  constructor
  · rintro ⟨gs', e, h1, h2⟩; cases e; exact ⟨rfl, h1, h2⟩
  · rintro ⟨rfl, h1, h2⟩; exact ⟨gs, rfl, h1, h2⟩
def call1R (sp : ASp) (ds : List A) (κ : B → OS → Prop) (bs : List B) (os1 : OS) : Prop := ∃ k ob, os1[k]? = some ob ∧ (∀ j, B.own j ∈ bs → j = k) ∧ sp (bs.map toOne ++ ds.map B.p) [ob] (res1 κ k os1)
theorem aCall1_eq {sp : ASp} {ds : List A} {t : ATA} {as : AS} {os : OS} {κ : B → OS → Prop} : aCall1 sp ds t as os κ = t as os (call1R sp ds κ) := rfl
theorem call1R_1 {sp : ASp} {ds : List A} {κ : B → OS → Prop} {k : Nat} {os1 : OS} : call1R sp ds κ [.own k] os1 = (∃ ob, os1[k]? = some ob ∧ sp (.own 0 :: ds.map B.p) [ob] (res1 κ k os1)) := by
  apply propext
  constructor
  · rintro ⟨k', ob, h1, h2, h3⟩
    have := h2 k (by simp)
    subst this
    exact ⟨ob, h1, h3⟩
  · rintro ⟨ob, h1, h3⟩
    exact ⟨k, ob, h1, by simp, h3⟩
theorem call1R_2 {sp : ASp} {ds : List A} {κ : B → OS → Prop} {k : Nat} {a : A} {os1 : OS} : call1R sp ds κ [.own k, .p a] os1 = (∃ ob, os1[k]? = some ob ∧ sp (.own 0 :: .p a :: ds.map B.p) [ob] (res1 κ k os1)) := by
  apply propext
  constructor
  · rintro ⟨k', ob, h1, h2, h3⟩
    have := h2 k (by simp)
    subst this
    exact ⟨ob, h1, h3⟩
  · rintro ⟨ob, h1, h3⟩
    exact ⟨k, ob, h1, by simp, h3⟩
theorem ofS_inj {a b : String} : Str.ofString a = Str.ofString b ↔ a = b := by
  refine ⟨fun h => ?_, fun h => by rw [h]⟩
  have e := congrArg (fun z : Str => z.cps.toList) h
  have e1 : (Str.ofString a).cps.toList = a.toList.map Char.toNat := PyProof.Rows.signs_ofString a
  have e2 : (Str.ofString b).cps.toList = b.toList.map Char.toNat := PyProof.Rows.signs_ofString b
  rw [show (Str.ofString a).cps.toList = (Str.ofString b).cps.toList from e] at e1
  have e3 := e1.symm.trans e2
  have inj : ∀ l m : List Char, l.map Char.toNat = m.map Char.toNat → l = m := by
    intro l
    induction l with
    | nil => intro m h; cases m; rfl; simp at h
    | cons x l ih =>
      intro m h
      cases m with
      | nil => simp at h
      | cons y m =>
        simp only [List.map_cons, List.cons.injEq] at h
        have : x = y := Char.ext (by
          have := h.1
          unfold Char.toNat at this
          exact UInt32.toNat_inj.mp this)
        rw [this, ih m h.2]
  have := inj _ _ e3
  exact String.toList_inj.mp this
theorem lk_hit {f : Str} {x : A} {l : List (Str × A)} : List.lookup f ((f, x) :: l) = some x := by simp [List.lookup]
theorem lk_miss {f g : Str} {x : A} {l : List (Str × A)} (h : f ≠ g) : List.lookup f ((g, x) :: l) = List.lookup f l := by
  have : (f == g) = false := by simpa using h
  simp [List.lookup, this]
section
variable {α : Type} {a b c d e : α} {l : List α}
theorem atI_0 : L2.atI (a :: l) 0 = some a := by unfold L2.atI L2.ixN; simp
theorem atI_1 : L2.atI (a :: b :: l) 1 = some b := by unfold L2.atI L2.ixN; rw [if_pos (by decide), if_pos (by simp only [List.length_cons]; omega)]; rfl
theorem atI_2 : L2.atI (a :: b :: c :: l) 2 = some c := by unfold L2.atI L2.ixN; rw [if_pos (by decide), if_pos (by simp only [List.length_cons]; omega)]; rfl
theorem atI_3 : L2.atI (a :: b :: c :: d :: l) 3 = some d := by unfold L2.atI L2.ixN; rw [if_pos (by decide), if_pos (by simp only [List.length_cons]; omega)]; rfl
theorem atI_4 : L2.atI (a :: b :: c :: d :: e :: l) 4 = some e := by unfold L2.atI L2.ixN; rw [if_pos (by decide), if_pos (by simp only [List.length_cons]; omega)]; rfl
theorem atI_m1 : L2.atI (l ++ [a]) (-1) = some a := by
  unfold L2.atI L2.ixN
  rw [if_neg (by decide), if_pos (by simp only [List.length_append, List.length_singleton]; omega)]
  show (l ++ [a])[(-1 + ((l ++ [a]).length : Int)).toNat]? = some a
  have : (-1 + ((l ++ [a]).length : Int)).toNat = l.length := by simp only [List.length_append, List.length_singleton]; omega
  rw [this]; simp
end
def blR (φ : Bool → Prop) (x : B) : Prop := ∃ c, x = .p (.bl c) ∧ φ c
theorem blR_p {φ : Bool → Prop} {c : Bool} : blR φ (.p (.bl c)) = φ c := by
  apply propext
  constructor
  · rintro ⟨d, e, h⟩; cases e; exact h
  · intro h; exact ⟨c, rfl, h⟩
section
variable {te ta tb tc : ATE} {R R' : AR2} {as : AS} {os : OS}
theorem aB_eq {κ : Bool → OS → Prop} : aB te as os κ = te as os fun x os1 => blR (fun c => κ c os1) x := rfl
theorem aAndV_eq {κ : B → OS → Prop} : aAndV ta tb as os κ = ta as os fun x os1 => blR (fun c => if c = true then tb as os1 κ else κ (.p (.bl false)) os1) x := rfl
theorem aOrV_eq {κ : B → OS → Prop} : aOrV ta tb as os κ = ta as os fun x os1 => blR (fun c => if c = true then κ (.p (.bl true)) os1 else tb as os1 κ) x := rfl
theorem aNotV_eq {κ : B → OS → Prop} : aNotV ta as os κ = ta as os fun x os1 => blR (fun c => κ (.p (.bl (!c))) os1) x := rfl
theorem aChain_eq {κ : B → OS → Prop} : aChain R R' ta tb tc as os κ = ta as os fun x os1 => tb as os1 fun y os2 => R x y os2 fun z os3 => blR (fun k => if k = true then tc as os3 fun w os4 => R' y w os4 κ else κ (.p (.bl false)) os3) z := rfl
end
end AB

end

section
set_option Elab.async false
set_option linter.all false
set_option maxRecDepth 100000
set_option maxHeartbeats 4000000
namespace AB
open PySem PySem.Spec PyProof.Rows L2 Evl
/-! ### list(text) -/
section
variable {prog : Program} {w : World} {A : Around} {E : Value → Shared → Prop} {s : Shared} {x : Str} {t : Tok}
theorem lt_hint {Q : Bool → Shared → Prop} (h : Q false s) : wpAny (model prog w) A (Builtin.List.listLengthHint (.str x t)) Q E s := by
  have hT := typeIs_str s x t
  unfold Builtin.List.listLengthHint
  refine wpAny_bind (wpAny_specialOf hT PySem.F.slot_str_len.lookup ?_)
  generalize hid : ("str.__len__" : String) = id0
  wp_delta
  rw [show splitId id0 = some ("str", "__len__") from by subst hid; decide +kernel]
  subst hid
  refine wpAny_bind (wpAny_isInstance (T := "str") (b := true) hT (by rw [isSubtype_type]; kernel_rfl) ?_)
  refine wpAny_ite_split (fun hab => absurd hab (by decide)) (fun _ => ?_)
  refine wpAny_ite_split (fun _ => ?_) (fun hab => absurd (by decide +kernel) hab)
  refine wpAny_bind (wpAny_typeOf hT ?_)
  exact wpAny_pure h
theorem lt_walks {A : Around} (hh : A.handled = none) (I : Addr) (x : Str) (t : Tok) : Walks prog w A I [I] [I] x.cps.size (SignAt x) (fun i h => h.IsStrIter I (strIterType x) x t i) := by
  cases ha : x.cps.all (· < 128)
  · simp only [strIterType, ha, Bool.false_eq_true, if_false]
    exact .strWide hh I x t
  · simp only [strIterType, ha, if_true]
    exact .strAscii hh I x t
theorem lt_extend {R : Result → Shared → Prop} (hh : A.handled = none) (S : Addr) (res : Value) (c₀ : Nat) (hS : s.heap.get? S = some { cls := .type "list", data := .seq #[] c₀ })
    (hR : ∀ h' tk acc' c', (∀ b o, b ≠ S → s.heap.get? b = some o → h'.get? b = some o) → h'.get? S = some { cls := .type "list", dict := none, data := .seq acc' c', slots := #[] } → ItemsOf (SignAt x) acc' x.cps.size → R (.ok (.ret res)) { s with heap := h', toks := tk }) (hn : x.cps.size ≤ sizeLine) :
    wpAny (model prog w) A.in1 (Builtin.List.listExtendWith (.ref S) (.str x t) res)
      (fun fin s' => match fin with | .done f => R (.ok f) s' | .again c' => c'.quiet = true ∧ codeAny (model prog w) A c' R s') (fun e s' => R (.error e) s') s := by
  have hSI : S ≠ s.heap.objs.size := Nat.ne_of_lt (Heap.lt_size hS)
  have hSf : S ∉ [s.heap.objs.size] := fun hm => hSI (List.mem_singleton.mp hm)
  have W := lt_walks (prog := prog) (w := w) (A := A.in1) hh s.heap.objs.size x t
  have key : ∀ (h : Heap) (c₁ tk : Nat), h.IsStrIter s.heap.objs.size (strIterType x) x t 0 → (∀ b o, b ≠ S → s.heap.get? b = some o → h.get? b = some o) →
      h.get? S = some { cls := .type "list", data := .seq #[] c₁ } → codeAny (model prog w) A (.builtin "list.extend.loop" ⟨[.ref S, .ref s.heap.objs.size, res], []⟩) R { s with heap := h, toks := tk } := by
    intro h c₁ tk hst hk hS₁
    refine codeAny_extend_loopS W.toS hn S hSf res x.cps.size 0 _ #[] c₁ rfl (Nat.zero_le _) hst hS₁ (ItemsOf.nil _) fun s' acc' c' hm hS' hacc => ?_
    rw [Moved.eq_with hm]
    refine hR s'.heap s'.toks acc' c' (fun b o hb e => hm.heap b o (fun hmem => ?_) (hk b o hb e)) hS' hacc
    rcases List.mem_cons.mp hmem with e' | hmem
    · exact hb e'
    · exact absurd (Heap.lt_size e) (by rw [List.mem_singleton.mp hmem]; exact Nat.lt_irrefl _)
  unfold Builtin.List.listExtendWith
  refine wpAny_bind (wpAny_typeOf (T := "str") (typeIs_str s x t) ?_)
  have h1 : Builtin.List.listSameRef (.ref S) (.str x t) = false := rfl
  have h2 : (Value.type "str" == Value.type "list") = false := by decide
  have h3 : (Value.type "str" == Value.type "tuple") = false := by decide
  simp only [h1, h2, h3, Bool.or_false, Bool.false_eq_true, if_false]
  refine wpAny_bind (wpAny_pyIter_strU ?_)
  have hS₁ := Heap.get?_push_of_some { cls := .type (strIterType x), data := .fields #[.str x t, .int 0 0] } hS
  have st : (s.heap.push { cls := .type (strIterType x), data := .fields #[.str x t, .int 0 0] }).IsStrIter s.heap.objs.size (strIterType x) x t 0 := ⟨_, Heap.get?_push_size _ rfl, rfl, rfl⟩
  refine wpAny_bind (wpAny_holding (lt_hint ?_))
  refine wpAny_ite_split (fun _ => ?_) (fun _ => wpAny_pure ⟨plainId_quiet PySem.F.plain_extend_loop _, key _ c₀ _ st (fun b o _ e => Heap.get?_push_of_some _ e) hS₁⟩)
  refine wpAny_bind (wpAny_rule ?_)
  refine wpAny_bind ?_
  show wpAny _ _ (updateSeq S (·.push .none) >>= fun _ => updateSeq S (·.pop)) _ _ _
  refine wpAny_bind (wpAny_updateSeq hS₁ rfl ?_)
  have hS₂ := Heap.get?_update_self (Obj.mapSeq (·.push Value.none)) hS₁ rfl
  refine wpAny_updateSeq (hz := by seq_fits) hS₂ rfl ?_
  have hS₃ := Heap.get?_update_self (Obj.mapSeq (·.pop)) hS₂ rfl
  refine wpAny_pure ⟨plainId_quiet PySem.F.plain_extend_loop _, key _ _ _ ?_ (fun b o hb e => ?_) hS₃⟩
  · refine W.frame 0 _ _ st fun b hb o e => ?_
    have hbS : b ≠ S := fun h => hSf (h ▸ hb)
    exact (Heap.get?_update_other _ _ (Ne.symm hbS)).trans ((Heap.get?_update_other _ _ (Ne.symm hbS)).trans e)
  · exact (Heap.get?_update_other _ _ (Ne.symm hb)).trans ((Heap.get?_update_other _ _ (Ne.symm hb)).trans (Heap.get?_push_of_some _ e))
theorem lt_init {R : Result → Shared → Prop} (hh : A.handled = none) (S : Addr) (hS : s.heap.get? S = some { cls := .type "list", data := .seq #[] })
    (hR : ∀ h' tk acc' c', (∀ b o, b ≠ S → s.heap.get? b = some o → h'.get? b = some o) → h'.get? S = some { cls := .type "list", dict := none, data := .seq acc' c', slots := #[] } → ItemsOf (SignAt x) acc' x.cps.size → R (.ok (.ret .none)) { s with heap := h', toks := tk }) (hn : x.cps.size ≤ sizeLine) :
    wpAny (model prog w) A.in1 (Builtin.«list.__init__» ⟨[.ref S, .str x t], []⟩)
      (fun fin s' => match fin with | .done f => R (.ok f) s' | .again c' => c'.quiet = true ∧ codeAny (model prog w) A c' R s') (fun e s' => R (.error e) s') s := by
  show wpAny _ _ (do let old ← Builtin.List.listItems (.ref S); Builtin.List.listUpdate (.ref S) (fun _ => #[]); letGo old.toList.reverse; Builtin.List.listExtendWith (.ref S) (.str x t) .none) _ _ s
  refine wpAny_bind ?_
  unfold Builtin.List.listItems
  refine wpAny_bind (wpAny_seqItems hS rfl (wpAny_pure ?_))
  show wpAny _ _ (updateSeq S (fun _ => #[]) >>= fun _ => letGo (#[] : Array Value).toList.reverse >>= fun _ => Builtin.List.listExtendWith (.ref S) (.str x t) .none) _ _ s
  refine wpAny_bind (wpAny_updateSeq hS rfl ?_)
  have hS₂ := Heap.get?_update_self (Obj.mapSeq (fun _ => (#[] : Array Value))) hS rfl
  have oth : ∀ b o, b ≠ S → s.heap.get? b = some o → (s.heap.update S (Obj.mapSeq (fun _ => (#[] : Array Value)))).get? b = some o :=
    fun b o hb e => (Heap.get?_update_other _ _ (Ne.symm hb)).trans e
  refine wpAny_bind (wpAny_letGo ?_)
  refine lt_extend hh S .none _ hS₂ (fun h' tk acc' c' hk hS' hacc => ?_) hn
  exact hR h' tk acc' c' (fun b o hb e => hk b o hb (oth b o hb e)) hS' hacc
theorem lt_call {Q : Value → Shared → Prop} (hh : A.handled = none) (hn : x.cps.size ≤ sizeLine)
    (hQ : ∀ h' tk acc' c', (∀ b o, s.heap.get? b = some o → h'.get? b = some o) → h'.get? s.heap.objs.size = some { cls := .type "list", dict := none, data := .seq acc' c', slots := #[] } → ItemsOf (SignAt x) acc' x.cps.size → Q (.ref s.heap.objs.size) { s with heap := h', toks := tk }) :
    wpAny (model prog w) A (call (.type "list") [.str x t]) Q E s := by
  refine callType_codes (Q₁ := fun obj s₁ => obj = .ref s.heap.objs.size ∧ s₁ = { s with heap := s.heap.push { cls := .type "list", data := .seq #[] } }) PySem.F.called_list (PySem.F.typeCall_list_1 _) PySem.F.entry_list_init
    (code_list_new _ ⟨rfl, rfl⟩) fun obj s₁ h₁ => ?_
  obtain ⟨rfl, rfl⟩ := h₁
  have hS : (s.heap.push { cls := .type "list", data := .seq #[] }).get? s.heap.objs.size = some { cls := .type "list", data := .seq #[] } := Heap.get?_push_size _ rfl
  refine ⟨⟨_, hS, rfl⟩, PySem.F.args_list_init_2 _ _, lt_init (A := A.in1) hh _ hS (fun h' tk acc' c' hk hS' hacc => ?_) hn⟩
  exact ⟨rfl, hQ h' tk acc' c' (fun b o e => hk b o (Nat.ne_of_lt (Heap.lt_size e)) (Heap.get?_push_of_some _ e)) hS' hacc⟩
end
/-- list(x): a list, a tuple or a text -/
def cListS : List B → OS → (B → OS → Prop) → Prop := fun bs os κ => ∃ x, bs = [x] ∧ match dr os x with
  | some (.lst xs) => κ (.p (.lst xs)) os
  | some (.tup xs) => κ (.p (.lst xs)) os
  | some (.str z) => z.length ≤ sizeLine ∧ κ (.p (.lst (sgn z))) os
  | _ => False
theorem ca_listS {X : Cx} (hcalm : X.calm = true) : CA X (.type "list") cListS := by
  intro pins s σ H vs us Q I rs h
  obtain ⟨W, os, bs, κ, rfl, ok, rb, ⟨x, rfl, h⟩, q⟩ := h
  split at h
  · rename_i xs e
    exact ca_list pins s σ _ vs us Q I rs ⟨W, os, _, κ, rfl, ok, rb, ⟨x, xs, rfl, .inl e, h⟩, q⟩
  · rename_i xs e
    exact ca_list pins s σ _ vs us Q I rs ⟨W, os, _, κ, rfl, ok, rb, ⟨x, xs, rfl, .inr e, h⟩, q⟩
  · rename_i z e
    obtain ⟨v, rfl, rx⟩ := rb.one
    have ev := dr_str rx e
    subst ev
    cases rs with
    | cons r0 rr =>
      cases rr
      obtain ⟨t, rfl⟩ := r0
      refine lt_call (I.ok.hd hcalm) h.1 fun h' tk acc c' hk hD hacc => ?_
      have hl : W.H s.heap.objs.size = none := I.hok.fresh (Nat.le_refl _)
      have hv : Vals (z.cps.toList.map fun c => V.str ⟨#[c]⟩) acc.toList := by
        refine vals_of_at ?_ fun j y u h1 h2 => ?_
        · rw [List.length_map, Array.length_toList, Array.length_toList]; exact hacc.1.symm
        · obtain ⟨c, t', hc, rfl⟩ := hacc.2 j u (by rw [← Array.getElem?_toList]; exact h2)
          rw [List.getElem?_map, Array.getElem?_toList, hc] at h1
          cases h1
          exact ⟨t', rfl⟩
      obtain ⟨W2, e3, ok2, s2, r3⟩ := newL ok hl (vs := z.cps.toList.map fun c => V.str ⟨#[c]⟩) (xs := sgn z) (by
        unfold sgn
        have : ∀ l : List Nat, ARs X.K W.G (l.map fun c => V.str ⟨#[c]⟩) (l.map fun c => A.str ⟨#[c]⟩) := fun l => by
          induction l with
          | nil => exact .nil
          | cons c l ih => exact .cons (.str _) ih
        exact this _)
      refine ⟨.ref s.heap.objs.size, upd W.H s.heap.objs.size (.lst (z.cps.toList.map fun c => V.str ⟨#[c]⟩)), I.laid (t' := tk) hk (Nat.le_refl _)
        (show ObjOk X.prog X.w _ _ _ (.lst (z.cps.toList.map fun c => V.str ⟨#[c]⟩)) from ⟨by rw [List.length_map, Array.length_toList]; exact h.1, acc.toList, c', hv, by rw [Array.toArray_toList]; exact hD⟩), rfl, ?_⟩
      rw [← e3]
      exact q _ _ _ _ s2 ok2 r3 h.2
  · exact h.elim
end AB

end

section
set_option Elab.async false
set_option linter.all false
set_option maxRecDepth 100000
set_option maxHeartbeats 4000000
namespace AB
open PySem PySem.Spec PyProof.Rows L2 Evl
/-! ### operators by what their operands are: nothing is told of what is not yet known -/
def addK : Option A → Option A → (A → Prop) → Prop
  | some (.int i), some (.int j), k => k (.int (i + j))
  | some (.str s), some (.str t), k => s.length + t.length ≤ sizeLine ∧ k (.str (s ++ t))
  | some (.lst xs), some (.lst ys), k => xs.length + ys.length ≤ sizeLine ∧ k (.lst (xs ++ ys))
  | some (.frz xs), some (.lst ys), k => xs.length + ys.length ≤ sizeLine ∧ k (.lst (xs ++ ys))
  | some (.tup xs), some (.tup ys), k => xs.length + ys.length ≤ sizeLine ∧ k (.tup (xs ++ ys))
  | _, _, _ => False
def mulK : Option A → Option A → (A → Prop) → Prop
  | some (.int i), some (.int j), k => CMul i j ∧ k (.int (i * j))
  | some (.lst xs), some (.int n), k => (-(2 ^ 63) ≤ n ∧ n < 2 ^ 63 ∧ xs.length * n.toNat ≤ sizeLine) ∧ k (.lst (List.replicate n.toNat xs).flatten)
  | _, _, _ => False
def ixK : Option A → Int → (A → Prop) → Prop
  | some (.lst xs), i, k => ∃ a, L2.atI xs i = some a ∧ k a
  | some (.tup xs), i, k => ∃ a, L2.atI xs i = some a ∧ k a
  | some (.frz xs), i, k => ∃ a, L2.atI xs i = some a ∧ k a
  | some (.str z), i, k => z.length ≤ sizeLine ∧ ∃ c, L2.atI z.cps.toList i = some c ∧ k (.str ⟨#[c]⟩)
  | _, _, _ => False
def lenK : Option A → (A → Prop) → Prop
  | some (.lst xs), k => k (.int xs.length)
  | some (.tup xs), k => k (.int xs.length)
  | some (.frz xs), k => k (.int xs.length)
  | some (.str z), k => z.length ≤ sizeLine ∧ k (.int z.length)
  | some (.dic kvs), k => k (.int kvs.length)
  | _, _ => False
def slK : Option A → Option Int → Option Int → (A → Prop) → Prop
  | some (.lst xs), lo, hi, k => k (.lst (cutA xs lo hi))
  | some (.frz xs), lo, hi, k => k (.lst (cutA xs lo hi))
  | some (.tup xs), lo, hi, k => k (.tup (cutA xs lo hi))
  | some (.str z), lo, hi, k => z.length ≤ sizeLine ∧ k (.str (cutS z lo hi))
  | _, _, _, _ => False
def intK : Option A → (A → Prop) → Prop
  | some (.int i), k => k (.int i)
  | some (.bl b), k => k (.int (if b then 1 else 0))
  | _, _ => False
section
variable {x y : B} {os : OS} {κ : B → OS → Prop} {k : A → Prop} {i j n : Int} {s t z : Str} {xs ys : List A} {kvs : List (Key × A)} {b : Bool} {lo hi : Option Int}
theorem oAdd_eq : oAdd x y os κ = addK (dr os x) (dr os y) (fun a => κ (.p a) os) := by
  unfold oAdd addK
  split <;> simp_all
theorem oMul_eq : oMul x y os κ = mulK (dr os x) (dr os y) (fun a => κ (.p a) os) := by
  unfold oMul mulK
  split <;> simp_all
theorem oIx_eq : oIx x y os κ = (∃ i, dr os y = some (.int i) ∧ ixK (dr os x) i (fun a => κ (.p a) os)) := by
  unfold oIx ixK
  congr 1
  funext i
  congr 1
  split <;> simp_all
theorem cLen_1 : cLen [x] os κ = lenK (dr os x) (fun a => κ (.p a) os) := by
  apply propext
  unfold cLen lenK
  constructor
  · rintro ⟨x', e, h⟩
    cases e
    split at h <;> simp_all
  · intro h
    refine ⟨x, rfl, ?_⟩
    split at h <;> simp_all
theorem oSl_eq : oSl x lo hi os κ = slK (dr os x) lo hi (fun a => κ (.p a) os) := by
  unfold oSl slK
  split <;> simp_all
theorem cInt_1 : cInt [x] os κ = intK (dr os x) (fun a => κ (.p a) os) := by
  apply propext
  unfold cInt intK
  constructor
  · rintro ⟨x', e, h⟩
    cases e
    split at h <;> simp_all
  · intro h
    refine ⟨x, rfl, ?_⟩
    split at h <;> simp_all
theorem addK_ii : addK (some (.int i)) (some (.int j)) k = k (.int (i + j)) := rfl
theorem addK_ss : addK (some (.str s)) (some (.str t)) k = (s.length + t.length ≤ sizeLine ∧ k (.str (s ++ t))) := rfl
theorem addK_ll : addK (some (.lst xs)) (some (.lst ys)) k = (xs.length + ys.length ≤ sizeLine ∧ k (.lst (xs ++ ys))) := rfl
theorem addK_fl : addK (some (.frz xs)) (some (.lst ys)) k = (xs.length + ys.length ≤ sizeLine ∧ k (.lst (xs ++ ys))) := rfl
theorem addK_tt : addK (some (.tup xs)) (some (.tup ys)) k = (xs.length + ys.length ≤ sizeLine ∧ k (.tup (xs ++ ys))) := rfl
theorem mulK_ii : mulK (some (.int i)) (some (.int j)) k = (CMul i j ∧ k (.int (i * j))) := rfl
theorem mulK_li : mulK (some (.lst xs)) (some (.int n)) k = ((-(2 ^ 63) ≤ n ∧ n < 2 ^ 63 ∧ xs.length * n.toNat ≤ sizeLine) ∧ k (.lst (List.replicate n.toNat xs).flatten)) := rfl
theorem ixK_l : ixK (some (.lst xs)) i k = (∃ a, L2.atI xs i = some a ∧ k a) := rfl
theorem ixK_t : ixK (some (.tup xs)) i k = (∃ a, L2.atI xs i = some a ∧ k a) := rfl
theorem ixK_f : ixK (some (.frz xs)) i k = (∃ a, L2.atI xs i = some a ∧ k a) := rfl
theorem ixK_s : ixK (some (.str z)) i k = (z.length ≤ sizeLine ∧ ∃ c, L2.atI z.cps.toList i = some c ∧ k (.str ⟨#[c]⟩)) := rfl
theorem lenK_l : lenK (some (.lst xs)) k = k (.int xs.length) := rfl
theorem lenK_t : lenK (some (.tup xs)) k = k (.int xs.length) := rfl
theorem lenK_f : lenK (some (.frz xs)) k = k (.int xs.length) := rfl
theorem lenK_s : lenK (some (.str z)) k = (z.length ≤ sizeLine ∧ k (.int z.length)) := rfl
theorem lenK_d : lenK (some (.dic kvs)) k = k (.int kvs.length) := rfl
theorem slK_l : slK (some (.lst xs)) lo hi k = k (.lst (cutA xs lo hi)) := rfl
theorem slK_f : slK (some (.frz xs)) lo hi k = k (.lst (cutA xs lo hi)) := rfl
theorem slK_t : slK (some (.tup xs)) lo hi k = k (.tup (cutA xs lo hi)) := rfl
theorem slK_s : slK (some (.str z)) lo hi k = (z.length ≤ sizeLine ∧ k (.str (cutS z lo hi))) := rfl
theorem intK_i : intK (some (.int i)) k = k (.int i) := rfl
theorem intK_b : intK (some (.bl b)) k = k (.int (if b then 1 else 0)) := rfl
end
end AB

end

section
set_option Elab.async false
set_option linter.all false
set_option maxRecDepth 100000
set_option maxHeartbeats 4000000
namespace AB
open PySem PySem.Spec PyProof.Rows L2 Evl
/-! ### zip, whatever the target -/
abbrev IsZipA (h : Heap) (z TI TO : Addr) (f0 : Value) (fb : Bool) : Prop :=
  h.get? z = some { cls := .type "zip", dict := none, data := .fields #[f0, .bool fb, .bool false, .ref TI, .ref TO], slots := #[] }
def Held (f0 : Value) : Prop := f0 = .none ∨ ∃ T : Nat, f0 = rawInt T
section
variable {prog : Program} {w : World} {A : Around} {E : Value → Shared → Prop} {s : Shared} {z TI TO i1 i2 : Addr} {fp1 fp2 : List Addr} {n1 n2 i : Nat} {P1 P2 : Nat → Value → Prop} {St1 St2 : Nat → Heap → Prop} {a1 a2 f0 : Value} {fb : Bool}
theorem za_free {Q : Bool → Shared → Prop} (hz : IsZipA s.heap z TI TO f0 fb) (hf : Held f0) (h1 : Q true s) (h2 : ∀ h', IsZipA h' z TI TO f0 true → Heap.SameBut z s.heap h' → Q false { s with heap := h' }) : wpAny (model prog w) A (Builtin.SmallTypes.ownedTupleIsFree (.ref z)) Q E s := by
  unfold Builtin.SmallTypes.ownedTupleIsFree
  rcases hf with rfl | ⟨T, rfl⟩
  · exact wpAny_bind (wpAny_field hz rfl (x := .none) rfl (wpAny_pure h1))
  · refine wpAny_bind (wpAny_field hz rfl (x := rawInt T) rfl ?_)
    show wpAny _ _ (loadIfAlive ((T : Int).toNat) >>= _) _ _ _
    rw [Int.toNat_natCast]
    cases e : s.heap.get? T with
    | none =>
      have h' : wpAny (model prog w) A (loadIfAlive T) (fun o s1 => o = none ∧ s1 = s) E s := fun _ _ _ => ⟨e, rfl⟩
      refine wpAny_bind (wpAny_mono h' (fun o s1 ⟨e1, e2⟩ => ?_) fun _ _ x => x)
      subst e1 e2
      simp only [Option.isNone_none, if_true]
      exact wpAny_pure h1
    | some oT =>
      refine wpAny_bind (PySem.W.kdx_alive e ?_)
      simp only [Option.isNone_some, Bool.false_eq_true, if_false]
      refine wpAny_bind (wpAny_field hz rfl (x := .bool fb) rfl ?_)
      cases fb with
      | true =>
        rw [if_neg (show ¬ ((Value.bool true != Value.bool true) = true) from Bool.false_ne_true)]
        exact wpAny_pure (h2 s.heap hz (Heap.SameBut.refl _ _))
      | false =>
        rw [if_pos (show (Value.bool false != Value.bool true) = true from rfl)]
        exact wpAny_bind (wpAny_setField_rec hz (by simp) fun h₁ hz₁ hs₁ => wpAny_pure (h2 h₁ hz₁ hs₁))
theorem za_item {Q : Value → Shared → Prop} (S : ZipSep2 z TI TO i1 i2 fp1 fp2) (D1 : Draws prog w A i1 fp1 n1 P1 St1) (D2 : Draws prog w A i2 fp2 n2 P2 St2)
    (hz : IsZipA s.heap z TI TO f0 fb) (hf : Held f0) (hTI : IsTupOf2 s.heap TI (.ref i1) (.ref i2)) (hTO : IsTupOf2 s.heap TO a1 a2) (st1 : St1 i s.heap) (st2 : St2 i s.heap) (hlt1 : i < n1) (hlt2 : i < n2)
    (hQ : ∀ x1 x2 h' tk g0 gb b1 b2, P1 i x1 → P2 i x2 → IsZipA h' z TI TO g0 gb → Held g0 → IsTupOf2 h' TO b1 b2 → St1 (i + 1) h' → St2 (i + 1) h' → IsTupOf2 h' s.heap.objs.size x1 x2 → h'.objs.size = s.heap.objs.size + 1 →
      (∀ c o, c ≠ z → c ≠ TO → c ≠ i1 → c ≠ i2 → s.heap.get? c = some o → h'.get? c = some o) → Q (.ref s.heap.objs.size) { s with heap := h', toks := tk }) :
    wpAny (model prog w) A (Builtin.«zip.__next__» ⟨[.ref z], []⟩) (fun fin s' => ∃ v, fin = .done (.ret v) ∧ Q v s') E s := by
  obtain ⟨hp, g, d, tk0, os⟩ := s
  show wpAny _ _ (field (.ref z) 2 >>= _) _ _ _
  refine wpAny_bind (wpAny_field hz rfl (x := .bool false) rfl ?_)
  show wpAny _ _ (field (.ref z) 3 >>= _) _ _ _
  refine wpAny_bind (wpAny_field hz rfl (x := .ref TI) rfl ?_)
  refine wpAny_bind (wpAny_seqItems hTI rfl ?_)
  show wpAny _ _ (Builtin.SmallTypes.ownedTupleIsFree (.ref z) >>= _) _ _ _
  refine wpAny_bind (za_free hz hf ?_ fun h₁ hz₁ hs₁ => ?_)
  · -- the owned tuple again
    simp only [if_true]
    refine wpAny_bind (wpAny_rule ?_)
    refine wpAny_bind (wpAny_field hz rfl (x := .ref TO) rfl ?_)
    refine wpAny_bind (wpAny_setField_rec hz (by simp) fun g0 hz0 hs0 => ?_)
    replace hz0 : IsZipA g0 z TI TO .ellipsis fb := hz0
    replace hs0 : Heap.SameBut z hp g0 := hs0
    refine wpAny_bind ?_
    simp only [List.zipIdx_cons, List.zipIdx_nil, List.forIn_cons, List.forIn_nil]
    refine wpAny_bind (wpAny_bind (wpAny_onRaise ?_))
    show wpAny _ _ (Builtin.SmallTypes.nextOf (.ref i1) >>= _) _ _ ⟨g0, g, d, tk0, os⟩
    refine wpAny_bind (D1.item i _ _ _ hlt1 (D1.over st1 hs0 S.zf1) fun x1 p1 tk1 hx1 sn1 hp1 => wpAny_pure ?_)
    replace hp1 : Heap.SameBut i1 g0 p1 := hp1
    have hU1 : IsTupOf2 p1 TO a1 a2 := hp1.extBut _ _ S.Ti1 (hs0.extBut _ _ S.TOz hTO)
    refine wpAny_bind (wpAny_seqItems (s := ⟨p1, g, d, tk1, os⟩) hU1 rfl ?_)
    refine wpAny_bind (updateSeq_IsTupOf2 (s := ⟨p1, g, d, tk1, os⟩) hU1 fun g1 hT1 hs1 => ?_)
    replace hT1 : IsTupOf2 g1 TO x1 a2 := hT1
    replace hs1 : Heap.SameBut TO p1 g1 := hs1
    refine wpAny_bind (wpAny_letGo (wpAny_pure ?_))
    refine wpAny_bind (wpAny_bind (wpAny_onRaise ?_))
    show wpAny _ _ (Builtin.SmallTypes.nextOf (.ref i2) >>= _) _ _ ⟨g1, g, d, tk1, os⟩
    refine wpAny_bind (D2.item i _ _ _ hlt2 (D2.over (D2.over (D2.over st2 hs0 S.zf2) hp1 S.sep1_2) hs1 S.Tf2) fun x2 p2 tk2 hx2 sn2 hp2 => wpAny_pure ?_)
    replace hp2 : Heap.SameBut i2 g1 p2 := hp2
    have hU2 : IsTupOf2 p2 TO x1 a2 := hp2.extBut _ _ S.Ti2 hT1
    refine wpAny_bind (wpAny_seqItems (s := ⟨p2, g, d, tk2, os⟩) hU2 rfl ?_)
    refine wpAny_bind (updateSeq_IsTupOf2 (s := ⟨p2, g, d, tk2, os⟩) hU2 fun g2 hT2 hs2 => ?_)
    replace hT2 : IsTupOf2 g2 TO x1 x2 := hT2
    replace hs2 : Heap.SameBut TO p2 g2 := hs2
    refine wpAny_bind (wpAny_letGo (wpAny_pure (wpAny_pure ?_)))
    refine wpAny_bind (wpAny_seqItems (s := ⟨g2, g, d, tk2, os⟩) hT2 rfl ?_)
    refine wpAny_bind (wpAny_newTuple ?_)
    have hsz : g2.objs.size = hp.objs.size := by rw [hs2.1, hp2.1, hs1.1, hp1.1, hs0.1]
    have hzz : IsZipA g2 z TI TO .ellipsis fb := (hs2.extBut _ _ S.TOz.symm (hp2.extBut _ _ S.zi2 (hs1.extBut _ _ S.TOz.symm (hp1.extBut _ _ S.zi1 hz0))))
    have hkk : ∀ c o, c ≠ z → c ≠ TO → c ≠ i1 → c ≠ i2 → hp.get? c = some o → g2.get? c = some o := fun c o cz cT c1 c2 e =>
      (hs2.extBut _ _ cT (hp2.extBut _ _ c2 (hs1.extBut _ _ cT (hp1.extBut _ _ c1 (hs0.extBut _ _ cz e)))))
    have hj1 : St1 (i + 1) g2 := (D1.over (D1.over (D1.over sn1 hs1 S.Tf1) hp2 S.sep2_1) hs2 S.Tf1)
    have hj2 : St2 (i + 1) g2 := (D2.over sn2 hs2 S.Tf2)
    have hzlt : z < g2.objs.size := Heap.lt_size hzz
    show wpAny _ _ (Builtin.SmallTypes.ownedTupleHandOut (.ref z) (.ref g2.objs.size) >>= _) _ _ ⟨g2.push { cls := .type "tuple", data := .seq #[x1, x2] }, g, d, tk2, os⟩
    refine wpAny_bind ?_
    unfold Builtin.SmallTypes.ownedTupleHandOut
    have hz₆ : IsZipA (g2.push { cls := .type "tuple", data := .seq #[x1, x2] }) z TI TO .ellipsis fb := Heap.get?_push_of_some _ hzz
    refine wpAny_bind (wpAny_setField_rec hz₆ (by simp) fun h₇ hz₇ hs₇ => ?_)
    replace hz₇ : IsZipA h₇ z TI TO (rawInt g2.objs.size) fb := hz₇
    refine wpAny_setField_rec hz₇ (by simp) fun h₈ hz₈ hs₈ => ?_
    replace hz₈ : IsZipA h₈ z TI TO (rawInt g2.objs.size) false := hz₈
    replace hs₇ : Heap.SameBut z (g2.push { cls := .type "tuple", data := .seq #[x1, x2] }) h₇ := hs₇
    replace hs₈ : Heap.SameBut z h₇ h₈ := hs₈
    have up : ∀ c o, c ≠ z → g2.get? c = some o → h₈.get? c = some o := fun c o c1 e => hs₈.extBut _ _ c1 (hs₇.extBut _ _ c1 (Heap.get?_push_of_some _ e))
    have hT₈ : IsTupOf2 h₈ g2.objs.size x1 x2 := hs₈.extBut _ _ (Nat.ne_of_gt hzlt) (hs₇.extBut _ _ (Nat.ne_of_gt hzlt) (Heap.get?_push_size _ rfl))
    have hz8 : h₈.objs.size = g2.objs.size + 1 := by rw [hs₈.1, hs₇.1, Heap.size_push]
    rw [hsz] at hz₈ hT₈ hz8
    refine wpAny_pure ⟨_, rfl, ?_⟩
    show Q (.ref g2.objs.size) ⟨h₈, g, d, tk2, os⟩
    rw [hsz]
    exact hQ x1 x2 h₈ tk2 _ _ _ _ hx1 hx2 hz₈ (.inr ⟨_, rfl⟩) (up _ _ S.TOz hT2) (D1.frame _ _ _ hj1 fun b hb o e => up b o (fun q => S.zf1 (q ▸ hb)) e) (D2.frame _ _ _ hj2 fun b hb o e => up b o (fun q => S.zf2 (q ▸ hb)) e) hT₈ hz8 fun c o cz cT c1 c2 e => up c o cz (hkk c o cz cT c1 c2 e)
  · -- a tuple of its own
    replace hs₁ : Heap.SameBut z hp h₁ := hs₁
    simp only [Bool.false_eq_true, if_false]
    refine wpAny_bind ?_
    rw [← Array.forIn_toList]
    simp only [List.forIn_cons, List.forIn_nil]
    refine wpAny_bind (wpAny_bind (wpAny_holding ?_))
    show wpAny _ _ (Builtin.SmallTypes.nextOf (.ref i1) >>= _) _ _ ⟨h₁, g, d, tk0, os⟩
    refine wpAny_bind (D1.item i _ _ _ hlt1 (D1.over st1 hs₁ S.zf1) fun x1 p1 tk1 hx1 sn1 hp1 => wpAny_pure ?_)
    replace hp1 : Heap.SameBut i1 h₁ p1 := hp1
    refine wpAny_pure ?_
    refine wpAny_bind (wpAny_bind (wpAny_holding ?_))
    show wpAny _ _ (Builtin.SmallTypes.nextOf (.ref i2) >>= _) _ _ ⟨p1, g, d, tk1, os⟩
    refine wpAny_bind (D2.item i _ _ _ hlt2 (D2.over (D2.over st2 hs₁ S.zf2) hp1 S.sep1_2) fun x2 p2 tk2 hx2 sn2 hp2 => wpAny_pure ?_)
    replace hp2 : Heap.SameBut i2 p1 p2 := hp2
    refine wpAny_pure (wpAny_pure ?_)
    show wpAny _ _ (newTuple [x1, x2] >>= _) _ _ _
    refine wpAny_bind (wpAny_newTuple ?_)
    have hsz : p2.objs.size = hp.objs.size := by rw [hp2.1, hp1.1, hs₁.1]
    have hzz : IsZipA p2 z TI TO f0 true := hp2.extBut _ _ S.zi2 (hp1.extBut _ _ S.zi1 hz₁)
    have hkk : ∀ c o, c ≠ z → c ≠ TO → c ≠ i1 → c ≠ i2 → hp.get? c = some o → p2.get? c = some o := fun c o cz cT c1 c2 e => hp2.extBut _ _ c2 (hp1.extBut _ _ c1 (hs₁.extBut _ _ cz e))
    have hj1 : St1 (i + 1) p2 := D1.over sn1 hp2 S.sep2_1
    have hTO2 : IsTupOf2 p2 TO a1 a2 := hp2.extBut _ _ S.Ti2 (hp1.extBut _ _ S.Ti1 (hs₁.extBut _ _ S.TOz hTO))
    refine wpAny_pure ⟨_, rfl, ?_⟩
    show Q (.ref p2.objs.size) ⟨p2.push { cls := .type "tuple", data := .seq #[x1, x2] }, g, d, tk2, os⟩
    have hT : IsTupOf2 (p2.push { cls := .type "tuple", data := .seq #[x1, x2] }) p2.objs.size x1 x2 := Heap.get?_push_size _ rfl
    have hz8 : (p2.push { cls := .type "tuple", data := .seq #[x1, x2] }).objs.size = p2.objs.size + 1 := Heap.size_push ..
    rw [hsz] at hT hz8 ⊢
    exact hQ x1 x2 _ tk2 _ _ _ _ hx1 hx2 (Heap.get?_push_of_some _ hzz) hf (Heap.get?_push_of_some _ hTO2) (D1.frame _ _ _ hj1 fun b hb o e => Heap.get?_push_of_some _ e) (D2.frame _ _ _ sn2 fun b hb o e => Heap.get?_push_of_some _ e) hT hz8 fun c o cz cT c1 c2 e => Heap.get?_push_of_some _ (hkk c o cz cT c1 c2 e)
end
end AB

end

section
set_option Elab.async false
set_option linter.all false
set_option maxRecDepth 100000
set_option maxHeartbeats 4000000
namespace AB
open PySem PySem.Spec PyProof.Rows L2 Evl
section
variable {prog : Program} {w : World} {A : Around} {E : Value → Shared → Prop} {s : Shared} {z TI TO i1 i2 : Addr} {fp1 fp2 : List Addr} {n1 n2 i : Nat} {P1 P2 : Nat → Value → Prop} {St1 St2 : Nat → Heap → Prop} {a1 a2 f0 : Value} {fb : Bool}
theorem za_end {Q : Fin → Shared → Prop} (S : ZipSep2 z TI TO i1 i2 fp1 fp2) (D1 : Draws prog w A i1 fp1 n1 P1 St1) (D2 : Draws prog w A i2 fp2 n2 P2 St2)
    (hz : IsZipA s.heap z TI TO f0 fb) (hf : Held f0) (hTI : IsTupOf2 s.heap TI (.ref i1) (.ref i2)) (hTO : IsTupOf2 s.heap TO a1 a2) (st1 : St1 i s.heap) (st2 : St2 i s.heap) (hle1 : i ≤ n1) (hle2 : i ≤ n2) (hend : i = n1 ∨ i = n2)
    (hE : ∀ h' tk e, (∀ c o, c ≠ z → c ≠ TO → c ≠ i1 → c ≠ i2 → s.heap.get? c = some o → h'.get? c = some o) → (∃ o, h'.get? e = some o ∧ o.cls = .type "StopIteration") → E (.ref e) { s with heap := h', toks := tk }) :
    wpAny (model prog w) A (Builtin.«zip.__next__» ⟨[.ref z], []⟩) Q E s := by
  obtain ⟨hp, g, d, tk0, os⟩ := s
  show wpAny _ _ (field (.ref z) 2 >>= _) _ _ _
  refine wpAny_bind (wpAny_field hz rfl (x := .bool false) rfl ?_)
  show wpAny _ _ (field (.ref z) 3 >>= _) _ _ _
  refine wpAny_bind (wpAny_field hz rfl (x := .ref TI) rfl ?_)
  refine wpAny_bind (wpAny_seqItems hTI rfl ?_)
  show wpAny _ _ (Builtin.SmallTypes.ownedTupleIsFree (.ref z) >>= _) _ _ _
  refine wpAny_bind (za_free hz hf ?_ fun h₁ hz₁ hs₁ => ?_)
  · simp only [if_true]
    refine wpAny_bind (wpAny_rule ?_)
    refine wpAny_bind (wpAny_field hz rfl (x := .ref TO) rfl ?_)
    refine wpAny_bind (wpAny_setField_rec hz (by simp) fun g0 hz0 hs0 => ?_)
    replace hz0 : IsZipA g0 z TI TO .ellipsis fb := hz0
    replace hs0 : Heap.SameBut z hp g0 := hs0
    refine wpAny_bind ?_
    simp only [List.zipIdx_cons, List.zipIdx_nil, List.forIn_cons, List.forIn_nil]
    refine wpAny_bind (wpAny_bind (wpAny_onRaise ?_))
    show wpAny _ _ (Builtin.SmallTypes.nextOf (.ref i1) >>= _) _ _ ⟨g0, g, d, tk0, os⟩
    by_cases hlt1 : i < n1
    · refine wpAny_bind (D1.item i _ _ _ hlt1 (D1.over st1 hs0 S.zf1) fun x1 p1 tk1 hx1 sn1 hp1 => wpAny_pure ?_)
      replace hp1 : Heap.SameBut i1 g0 p1 := hp1
      have hU1 : IsTupOf2 p1 TO a1 a2 := hp1.extBut _ _ S.Ti1 (hs0.extBut _ _ S.TOz hTO)
      refine wpAny_bind (wpAny_seqItems (s := ⟨p1, g, d, tk1, os⟩) hU1 rfl ?_)
      refine wpAny_bind (updateSeq_IsTupOf2 (s := ⟨p1, g, d, tk1, os⟩) hU1 fun g1 hT1 hs1 => ?_)
      replace hT1 : IsTupOf2 g1 TO x1 a2 := hT1
      replace hs1 : Heap.SameBut TO p1 g1 := hs1
      refine wpAny_bind (wpAny_letGo (wpAny_pure ?_))
      have hi2 : i = n2 := by omega
      refine wpAny_bind (wpAny_bind (wpAny_onRaise ?_))
      show wpAny _ _ (Builtin.SmallTypes.nextOf (.ref i2) >>= _) _ _ ⟨g1, g, d, tk1, os⟩
      refine wpAny_bind (D2.done ⟨g1, g, d, tk1, os⟩ _ _ (by rw [← hi2]; exact (D2.over (D2.over (D2.over st2 hs0 S.zf2) hp1 S.sep1_2) hs1 S.Tf2)) fun q e hq he => ?_)
      replace hq : Heap.ExtBut i2 g1 q := hq
      obtain ⟨oe, hoe, hce⟩ := he
      replace hoe : q.get? e = some oe := hoe
      have hzq : IsZipA q z TI TO .ellipsis fb := hq _ _ S.zi2 (hs1.extBut _ _ S.TOz.symm (hp1.extBut _ _ S.zi1 hz0))
      have hez : e ≠ z := fun x => by subst x; rw [hzq] at hoe; cases hoe; simp at hce
      refine wpAny_setField_rec (s := ⟨q, g, d, tk1, os⟩) hzq (by simp) fun q' _ hq' => ?_
      replace hq' : Heap.SameBut z q q' := hq'
      exact hE q' tk1 e (fun c o cz cT c1 c2 x => hq'.extBut _ _ cz (hq _ _ c2 (hs1.extBut _ _ cT (hp1.extBut _ _ c1 (hs0.extBut _ _ cz x))))) ⟨oe, hq'.extBut _ _ hez hoe, hce⟩
    · have hi1 : i = n1 := by omega
      refine wpAny_bind (D1.done ⟨g0, g, d, tk0, os⟩ _ _ (by rw [← hi1]; exact (D1.over st1 hs0 S.zf1)) fun q e hq he => ?_)
      replace hq : Heap.ExtBut i1 g0 q := hq
      obtain ⟨oe, hoe, hce⟩ := he
      replace hoe : q.get? e = some oe := hoe
      have hzq : IsZipA q z TI TO .ellipsis fb := hq _ _ S.zi1 hz0
      have hez : e ≠ z := fun x => by subst x; rw [hzq] at hoe; cases hoe; simp at hce
      refine wpAny_setField_rec (s := ⟨q, g, d, tk0, os⟩) hzq (by simp) fun q' _ hq' => ?_
      replace hq' : Heap.SameBut z q q' := hq'
      exact hE q' tk0 e (fun c o cz cT c1 c2 x => hq'.extBut _ _ cz (hq _ _ c1 (hs0.extBut _ _ cz x))) ⟨oe, hq'.extBut _ _ hez hoe, hce⟩
  · replace hs₁ : Heap.SameBut z hp h₁ := hs₁
    simp only [Bool.false_eq_true, if_false]
    refine wpAny_bind ?_
    rw [← Array.forIn_toList]
    simp only [List.forIn_cons, List.forIn_nil]
    refine wpAny_bind (wpAny_bind (wpAny_holding ?_))
    show wpAny _ _ (Builtin.SmallTypes.nextOf (.ref i1) >>= _) _ _ ⟨h₁, g, d, tk0, os⟩
    by_cases hlt1 : i < n1
    · refine wpAny_bind (D1.item i _ _ _ hlt1 (D1.over st1 hs₁ S.zf1) fun x1 p1 tk1 hx1 sn1 hp1 => wpAny_pure ?_)
      replace hp1 : Heap.SameBut i1 h₁ p1 := hp1
      refine wpAny_pure ?_
      have hi2 : i = n2 := by omega
      refine wpAny_bind (wpAny_bind (wpAny_holding ?_))
      show wpAny _ _ (Builtin.SmallTypes.nextOf (.ref i2) >>= _) _ _ ⟨p1, g, d, tk1, os⟩
      refine wpAny_bind (D2.done ⟨p1, g, d, tk1, os⟩ _ _ (by rw [← hi2]; exact (D2.over (D2.over st2 hs₁ S.zf2) hp1 S.sep1_2)) fun q e hq he => ?_)
      replace hq : Heap.ExtBut i2 p1 q := hq
      exact hE q tk1 e (fun c o cz cT c1 c2 x => hq _ _ c2 (hp1.extBut _ _ c1 (hs₁.extBut _ _ cz x))) he
    · have hi1 : i = n1 := by omega
      refine wpAny_bind (D1.done ⟨h₁, g, d, tk0, os⟩ _ _ (by rw [← hi1]; exact (D1.over st1 hs₁ S.zf1)) fun q e hq he => ?_)
      replace hq : Heap.ExtBut i1 h₁ q := hq
      exact hE q tk0 e (fun c o cz cT c1 c2 x => hq _ _ c1 (hs₁.extBut _ _ cz x)) he
theorem za_next_item {Q : Option Value → Shared → Prop} (S : ZipSep2 z TI TO i1 i2 fp1 fp2) (D1 : Draws prog w A.in1 i1 fp1 n1 P1 St1) (D2 : Draws prog w A.in1 i2 fp2 n2 P2 St2)
    (hz : IsZipA s.heap z TI TO f0 fb) (hf : Held f0) (hTI : IsTupOf2 s.heap TI (.ref i1) (.ref i2)) (hTO : IsTupOf2 s.heap TO a1 a2) (st1 : St1 i s.heap) (st2 : St2 i s.heap) (hlt1 : i < n1) (hlt2 : i < n2)
    (hQ : ∀ x1 x2 h' tk g0 gb b1 b2, P1 i x1 → P2 i x2 → IsZipA h' z TI TO g0 gb → Held g0 → IsTupOf2 h' TO b1 b2 → St1 (i + 1) h' → St2 (i + 1) h' → IsTupOf2 h' s.heap.objs.size x1 x2 → h'.objs.size = s.heap.objs.size + 1 →
      (∀ c o, c ≠ z → c ≠ TO → c ≠ i1 → c ≠ i2 → s.heap.get? c = some o → h'.get? c = some o) → Q (some (.ref s.heap.objs.size)) { s with heap := h', toks := tk }) :
    wpAny (model prog w) A (pyNext (.ref z)) Q E s := by
  have hT : s.TypeIs (.ref z) "zip" := ⟨_, hz, rfl⟩
  unfold pyNext
  exact wpAny_bind (wpAny_attempt (wpAny_callSpecial?_slot (name := Str.ofString "__next__") hT PySem.F.slot_zip_next
    (wpAny_call_entry PySem.F.slot_zip_next hT PySem.F.entry_zip_next
      (za_item S D1 D2 hz hf hTI hTO st1 st2 hlt1 hlt2 fun x1 x2 h' tk g0 gb b1 b2 y1 y2 y3 y4 y5 y6 y7 y8 y9 y10 => wpAny_pure (hQ x1 x2 h' tk g0 gb b1 b2 y1 y2 y3 y4 y5 y6 y7 y8 y9 y10)) (PySem.F.args_zip_next_1 _))))
theorem za_next_end {Q : Option Value → Shared → Prop} (S : ZipSep2 z TI TO i1 i2 fp1 fp2) (D1 : Draws prog w A.in1 i1 fp1 n1 P1 St1) (D2 : Draws prog w A.in1 i2 fp2 n2 P2 St2)
    (hz : IsZipA s.heap z TI TO f0 fb) (hf : Held f0) (hTI : IsTupOf2 s.heap TI (.ref i1) (.ref i2)) (hTO : IsTupOf2 s.heap TO a1 a2) (st1 : St1 i s.heap) (st2 : St2 i s.heap) (hle1 : i ≤ n1) (hle2 : i ≤ n2) (hend : i = n1 ∨ i = n2)
    (hQ : ∀ h' tk, (∀ c o, c ≠ z → c ≠ TO → c ≠ i1 → c ≠ i2 → s.heap.get? c = some o → h'.get? c = some o) → Q none { s with heap := h', toks := tk }) : wpAny (model prog w) A (pyNext (.ref z)) Q E s := by
  have hT : s.TypeIs (.ref z) "zip" := ⟨_, hz, rfl⟩
  unfold pyNext
  refine wpAny_bind (wpAny_attempt (wpAny_callSpecial?_slot (name := Str.ofString "__next__") hT PySem.F.slot_zip_next
    (wpAny_call_entry PySem.F.slot_zip_next hT PySem.F.entry_zip_next (za_end S D1 D2 hz hf hTI hTO st1 st2 hle1 hle2 hend fun h' tk e hk he => ?_) (PySem.F.args_zip_next_1 _))))
  obtain ⟨o, ho, hc⟩ := he
  refine wpAny_bind (wpAny_isInstance (T := "StopIteration") (b := true) ⟨o, ho, hc⟩ isSubtype_stop ?_)
  exact wpAny_pure (hQ _ _ hk)
end
end AB

end

section
set_option Elab.async false
set_option linter.all false
set_option maxRecDepth 100000
set_option maxHeartbeats 4000000
namespace AB
open PySem PySem.Spec PyProof.Rows L2 Evl
def ItzTL (K : PySem.W.Frag) (a b : Addr) : It :=
  ⟨fun i H => ∃ (xs ys : List V) (x y : V), SqT K H a xs ∧ SqL K H b ys ∧ xs[i]? = some x ∧ ys[i]? = some y,
    fun i H v H' => ∃ T x y, v = .ref T ∧ H T = none ∧ H' = upd H T (.tup [x, y]) ∧ (∀ xs, SqT K H a xs → xs[i]? = some x) ∧ ∀ ys, SqL K H b ys → ys[i]? = some y,
    fun i H => ∃ xs ys : List V, SqT K H a xs ∧ SqL K H b ys ∧ i = min xs.length ys.length⟩
structure ZApart (z TI TO i1 i2 a b : Addr) : Prop where
  sep : ZipSep2 z TI TO i1 i2 [i1, a] [i2, b]
  a1 : a ≠ i1
  b2 : b ≠ i2
theorem zapart (n a b : Nat) (ha : a < n) (hb : b < n) : ZApart (n + 4) (n + 2) (n + 3) n (n + 1) a b := by
  have h : ∀ x y : Nat, x ≠ y → @Ne Addr x y := fun _ _ h => h
  have m : ∀ x y v : Nat, x ≠ y → x ≠ v → @Not (x ∈ ([y, v] : List Addr)) := fun x y v h1 h2 hm => by
    rcases List.mem_cons.mp hm with e | hm
    · exact h1 e
    · exact h2 (List.mem_singleton.mp hm)
  exact ⟨⟨h _ _ (by omega), h _ _ (by omega), h _ _ (by omega), h _ _ (by omega), List.mem_cons_self .., m _ _ _ (by omega) (by omega), m _ _ _ (by omega) (by omega), h _ _ (by omega), List.mem_cons_self .., m _ _ _ (by omega) (by omega), m _ _ _ (by omega) (by omega), m _ _ _ (by omega) (by omega), m _ _ _ (by omega) (by omega)⟩, h _ _ (by omega), h _ _ (by omega)⟩
theorem za_iter {prog : Program} {w : World} {A : Around} {E : Value → Shared → Prop} {s : Shared} {z TI TO : Addr} {f0 : Value} {fb : Bool} {Q : Value → Shared → Prop} (hz : IsZipA s.heap z TI TO f0 fb) (h : Q (.ref z) s) : wpAny (model prog w) A (pyIter (.ref z)) Q E s := by
  have hT : s.TypeIs (.ref z) "zip" := ⟨_, hz, rfl⟩
  refine wpAny_pyIter_slot hT PySem.F.slot_zip_iter (wpAny_call_entry PySem.F.slot_zip_iter hT PySem.F.entry_zip_iter ?_ (PySem.F.args_zip_iter_1 _))
  show wpAny _ _ (ret (.ref z)) _ _ s
  exact wpAny_pure ⟨_, rfl, "zip", _, hT, PySem.F.slot_zip_next.lookup, h⟩
theorem turn_zipTL {P : Program} {w : World} {K : PySem.W.Frag} {x : Str} {tpos : Pos} {a b z TI TO i1 i2 : Addr} (D : ZApart z TI TO i1 i2 a b) :
    Turn P w K (.Name x tpos) (ItzTL K a b) [z, TI, TO, i1, i2] z (fun i h => (∃ f0 fb, IsZipA h z TI TO f0 fb ∧ Held f0) ∧ IsTupOf2 h TI (.ref i1) (.ref i2) ∧ (∃ x y, IsTupOf2 h TO x y) ∧ h.IsTupleIter i1 a i ∧ h.IsListIter i2 b i) where
  mem := by simp
  obj := fun i h st c hc => by
    obtain ⟨⟨f0, fb, hz, _⟩, hTI, ⟨x, y, hTO⟩, ⟨o1, e1, _, d1⟩, ⟨o2, e2, _, d2⟩⟩ := st
    have e' : c = z ∨ c = TI ∨ c = TO ∨ c = i1 ∨ c = i2 := by simpa using hc
    rcases e' with q | q | q | q | q
    · rw [q]; exact ⟨_, hz, fun v q => nomatch q⟩
    · rw [q]; exact ⟨_, hTI, fun v q => nomatch q⟩
    · rw [q]; exact ⟨_, hTO, fun v q => nomatch q⟩
    · rw [q]; exact ⟨o1, e1, fun v q => by rw [d1] at q; cases q⟩
    · rw [q]; exact ⟨o2, e2, fun v q => by rw [d2] at q; cases q⟩
  keep := fun i h h' st k => by
    obtain ⟨⟨f0, fb, hz, hf⟩, hTI, ⟨x, y, hTO⟩, h1, h2⟩ := st
    exact ⟨⟨f0, fb, k z (by simp) _ hz, hf⟩, k TI (by simp) _ hTI, ⟨x, y, k TO (by simp) _ hTO⟩, h1.at fun o q => k i1 (by simp) o q, h2.at fun o q => k i2 (by simp) o q⟩
  item := by
    intro X hP hw hK hc i pins s σ H E I hf st hg
    subst hP hw hK
    obtain ⟨⟨f0, fb, hz, hh⟩, hTI, ⟨x0, y0, hTO⟩, h1, h2⟩ := st
    obtain ⟨xs, ys, x, y, hqx, hqy, hx, hy⟩ := hg
    obtain ⟨its, rv, p, _⟩ := I.tuple hqx
    obtain ⟨its2, rv2, p2, _⟩ := I.list hqy
    obtain ⟨u, hu, ru⟩ := rv.get hx
    obtain ⟨u2, hu2, ru2⟩ := rv2.get hy
    have hl1 : i < its.toArray.size := by have := (List.getElem?_eq_some_iff.mp hu).1; simpa using this
    have hl2 : i < its2.toArray.size := by have := (List.getElem?_eq_some_iff.mp hu2).1; simpa using this
    refine za_next_item D.sep (Draws.tuple (A := X.A.in1) (I.ok.hd hc) i1 a D.a1 its.toArray) (Draws.list (A := X.A.in1) (I.ok.hd hc) i2 b D.b2 its2.toArray) hz hh hTI hTO ⟨h1, p⟩ ⟨h2, p2.isList⟩ hl1 hl2
      fun x1 x2 h' tk g0 gb b1 b2 e1 e2 z' hg0 TO' s1' s2' hT hsz hk => ?_
    have eu : x1 = u := by
      have e3 : its.toArray[i]? = some u := by simpa using hu
      rw [e3] at e1; exact (Option.some.inj e1).symm
    have eu2 : x2 = u2 := by
      have e3 : its2.toArray[i]? = some u2 := by simpa using hu2
      rw [e3] at e2; exact (Option.some.inj e2).symm
    subst eu eu2
    refine ⟨_, rfl, ?_⟩
    show wpAny _ _ (pure ()) _ _ _
    refine wpAny_pure ?_
    have new : ObjOk X.prog X.w (upd H s.heap.objs.size (.tup [x, y])) h' s.heap.objs.size (.tup [x, y]) :=
      ⟨by show 2 ≤ sizeLine; decide, [x1, x2], .cons ru (.cons ru2 .nil), ⟨_, hT, rfl, _, rfl⟩⟩
    have I1 : Inv X pins σ (upd H s.heap.objs.size (.tup [x, y])) { s with heap := h', toks := tk } :=
      I.turnedNew (t' := tk) (ch := [z, TI, TO, i1, i2]) (fun c o hb q => hk c o (fun q' => hb (by simp [q'])) (fun q' => hb (by simp [q'])) (fun q' => hb (by simp [q'])) (fun q' => hb (by simp [q'])) q) hf (Nat.le_refl _) new
    have hTI' : IsTupOf2 h' TI (.ref i1) (.ref i2) := hk TI _ D.sep.TIz D.sep.TITO D.sep.TIi1 D.sep.TIi2 hTI
    refine ⟨.ref s.heap.objs.size, _, I1, rfl, ⟨_, x, y, rfl, I.hok.fresh (Nat.le_refl _), rfl, fun l hl => by rw [I.tuple_inj hl hqx]; exact hx, fun l hl => by rw [I.list_inj hl hqy]; exact hy⟩, ⟨⟨g0, gb, z', hg0⟩, hTI', ⟨_, _, TO'⟩, s1'.1, s2'.1⟩, fun c hcm => ?_⟩
    have hlt : c < s.heap.objs.size := by
      have e' : c = z ∨ c = TI ∨ c = TO ∨ c = i1 ∨ c = i2 := by simpa using hcm
      rcases e' with q | q | q | q | q
      · rw [q]; exact Heap.lt_size hz
      · rw [q]; exact Heap.lt_size hTI
      · rw [q]; exact Heap.lt_size hTO
      · rw [q]; obtain ⟨_, e1, _⟩ := h1; exact Heap.lt_size e1
      · rw [q]; obtain ⟨_, e2, _⟩ := h2; exact Heap.lt_size e2
    rw [upd_ne (Nat.ne_of_lt hlt)]
    exact (hf c hcm).1
  done := by
    intro X hP hw hK hc i pins s σ H E I hf st hg
    subst hP hw hK
    obtain ⟨⟨f0, fb, hz, hh⟩, hTI, ⟨x0, y0, hTO⟩, h1, h2⟩ := st
    obtain ⟨xs, ys, hqx, hqy, hend⟩ := hg
    obtain ⟨its, rv, p, _⟩ := I.tuple hqx
    obtain ⟨its2, rv2, p2, _⟩ := I.list hqy
    have l1 := rv.length
    have l2 := rv2.length
    refine za_next_end D.sep (Draws.tuple (A := X.A.in1) (I.ok.hd hc) i1 a D.a1 its.toArray) (Draws.list (A := X.A.in1) (I.ok.hd hc) i2 b D.b2 its2.toArray) hz hh hTI hTO ⟨h1, p⟩ ⟨h2, p2.isList⟩ (by simp only [List.size_toArray]; omega) (by simp only [List.size_toArray]; omega)
      (by simp only [List.size_toArray]; omega) fun h' tk hk => ⟨rfl, I.turnedL (t' := tk) (ch := [z, TI, TO, i1, i2]) (fun c o hb q => hk c o (fun q' => hb (by simp [q'])) (fun q' => hb (by simp [q'])) (fun q' => hb (by simp [q'])) (fun q' => hb (by simp [q'])) q) hf⟩
  self := fun A i s Q E st h => by
    obtain ⟨⟨f0, fb, hz, _⟩, _⟩ := st
    exact za_iter hz h
/-- zip of a tuple and a list, its target one name -/
def iZipTL (ta : ATA) : AI := fun as os κ => ta as os fun bs os1 => ∃ xs ys, bs = [.p (.tup xs), .p (.lst ys)] ∧ κ (List.zipWith (fun x y => A.tup [x, y]) xs ys) (fun _ => True) os1
theorem awk_zipTL {K : PySem.W.Frag} {W1 : Wd} {a b : Addr} {vs1 vs2 : List V} {xs ys : List A} (ha : SqT K W1.G a vs1) (r : ARs K W1.G vs1 xs) (hb : W1.G b = some (.lst vs2)) (r2 : ARs K W1.G vs2 ys) :
    AWk K W1 (ItzTL K a b) (List.zipWith (fun x y => A.tup [x, y]) xs ys) (fun _ => True) := by
  have hn : (List.zipWith (fun x y => A.tup [x, y]) xs ys).length = min xs.length ys.length := by simp
  have hq : ∀ W os, Sn W1 W → Wok K W os → SqT K W.H a vs1 ∧ SqL K W.H b vs2 := fun W os s ok => ⟨ex_t (s.g.trans ok.sub) ha, sqL_of (ok.sub _ _ (s.g _ _ hb))⟩
  refine ⟨fun W os s ok _ i hi => ?_, fun W os s ok _ => ?_, fun W os i v H' s ok _ hi y => ?_⟩
  · rw [hn] at hi
    obtain ⟨q1, q2⟩ := hq W os s ok
    have h1 : i < vs1.length := by rw [r.length]; omega
    have h2 : i < vs2.length := by rw [r2.length]; omega
    exact ⟨vs1, vs2, vs1[i], vs2[i], q1, q2, List.getElem?_eq_getElem h1, List.getElem?_eq_getElem h2⟩
  · obtain ⟨q1, q2⟩ := hq W os s ok
    exact ⟨vs1, vs2, q1, q2, by rw [hn, r.length, r2.length]⟩
  · obtain ⟨q1, q2⟩ := hq W os s ok
    obtain ⟨T, x, z, rfl, hT, rfl, f1, f2⟩ := y
    obtain ⟨c, hc, rc⟩ := r.get' (f1 _ q1)
    obtain ⟨d, hd, rd⟩ := r2.get' (f2 _ q2)
    obtain ⟨W', e, s', ok', r'⟩ := new2 ok hT (rc.mono s.g) (rd.mono s.g)
    refine ⟨W', _, e, s', ok', ?_, r'⟩
    rw [List.getElem?_zipWith, hc, hd]
theorem ai_zipN {X : Cx} {x : Str} {e e2 : Expr} {p pos tpos : Pos} {ta : ATA} (hg : Gl X "zip") (hm : X.mg "zip" = none) (ha : AA X [e, e2] ta)
    (hs : starEach [e, e2] X.env = (false, eval e X.env) :: starEach [e2] X.env := by rfl) (hpl : (backTo pos (starEach [e2] X.env)).any (·.1) = false := by rfl) : AIt X (.Name x tpos) (.Call (.Name "zip" p) [e, e2] [] pos) (iZipTL ta) := by
  refine ⟨fun pins s σ H R I h => ?_⟩
  obtain ⟨W, as, os, κ, rfl, ok, sl, k, q⟩ := h
  refine Call_ (ld_blt I hg hm boot_zip (PyProof.Rows.callWith_type1 (thn (ha.run pos pins s σ W.H (fun vs H1 => ∃ a b xs ys, vs = [.ref a, .ref b] ∧ SqT X.K H1 a xs ∧ SqL X.K H1 b ys ∧ R (ItzTL X.K a b) H1) I ⟨W, as, os, _, rfl, ok, sl, k, fun vs W1 os1 bs s1 ok1 rs ⟨xs, ys, hb, h1⟩ => ?_⟩) fun us s1 ⟨vs, H1, I1, r1, a, b, xs, ys, ev, hqx, hqy, q1⟩ => ?_) hs hpl))
  · subst hb
    obtain ⟨v, w, rfl, rv, rw'⟩ := rs.two
    cases rv with
    | tup ha r =>
      cases rw' with
      | lst hb r2 => exact ⟨_, _, _, _, rfl, ex_t ok1.sub ha, sqL_of (ok1.sub _ _ hb), q _ W1 os1 _ _ s1 ok1 (awk_zipTL ha r hb r2) h1⟩
  · subst ev
    cases r1 with
    | cons r rr =>
      cases rr with
      | cons r' rr =>
        cases rr
        cases r
        cases r'
        obtain ⟨its, rv, p1, _⟩ := I1.tuple hqx
        obtain ⟨its2, rv2, p2, _⟩ := I1.list hqy
        obtain ⟨o1, ho1, _⟩ := id p1
        refine zip_begins2 (begins_tuple a its.toArray) (begins_list b its2.toArray) p1 p2.isList fun h' hz hTI hTO h1 h2 hsz hk => za_iter (f0 := .none) (fb := false) hz ?_
        have I2 : Inv X pins σ H1 { s1 with heap := h' } := I1.kept (t' := s1.toks) hk
        have fresh5 : ∀ c, c ∈ [s1.heap.objs.size + 4, s1.heap.objs.size + 2, s1.heap.objs.size + 3, s1.heap.objs.size, s1.heap.objs.size + 1] → FpOk X pins H1 c := fun c hcm => by
          have e' : c = s1.heap.objs.size + 4 ∨ c = s1.heap.objs.size + 2 ∨ c = s1.heap.objs.size + 3 ∨ c = s1.heap.objs.size ∨ c = s1.heap.objs.size + 1 := by simpa using hcm
          have hle : s1.heap.objs.size ≤ c := by
            rcases e' with z | z | z | z | z
            · rw [z]; exact Nat.le_add_right _ _
            · rw [z]; exact Nat.le_add_right _ _
            · rw [z]; exact Nat.le_add_right _ _
            · rw [z]; exact Nat.le_refl _
            · rw [z]; exact Nat.le_add_right _ _
          exact I1.fpOk hle (I1.hok.fresh hle)
        exact ⟨s1.heap.objs.size + 4, [s1.heap.objs.size + 4, s1.heap.objs.size + 2, s1.heap.objs.size + 3, s1.heap.objs.size, s1.heap.objs.size + 1], _, _, H1, rfl, I2, turn_zipTL (zapart s1.heap.objs.size a b (Heap.lt_size ho1) p2.lt), ⟨⟨.none, false, hz, .inl rfl⟩, hTI, ⟨_, _, hTO⟩, ⟨_, h1, rfl, rfl⟩, ⟨_, h2, rfl, rfl⟩⟩, fresh5, q1⟩
end AB

end

section
set_option Elab.async false
set_option linter.all false
set_option maxRecDepth 100000
set_option maxHeartbeats 4000000
namespace AB
open PySem PySem.Spec PyProof.Rows L2 Evl
/-! ### a written dict with whole numbers as keys, checked -/
def entB (K : PySem.W.Frag) (e : DictEntry) (q : Int × He.Dv) : Bool := (match e.key with | .int j _ => decide (j = q.1) | _ => false) && (decide (e.hash = hashInt q.1) && He.relB (q.2.v K) e.val)
def entsB (K : PySem.W.Frag) : List DictEntry → List (Int × He.Dv) → Bool
  | [], [] => true
  | e :: es, q :: qs => entB K e q && entsB K es qs
  | _, _ => false
def kintB (K : PySem.W.Frag) (d : Addr) (qs : List (Int × He.Dv)) : Bool := (match K.lookup d with
  | some ⟨c, none, .dict es _, sl⟩ => decide (c = .type "dict") && (decide (sl = #[]) && entsB K es.toList qs)
  | _ => false) && !(d == sysModules) && qs.all fun q => dvFlat q.2
theorem dv_rel {K : PySem.W.Frag} {d : He.Dv} (h : dvFlat d = true) (G : Hp) : AR K G (d.v K) (dvA d) := by
  cases d <;> first | exact .non | exact .bl _ | exact .int _ | exact .str _ | cases h
theorem entsB_ok {K : PySem.W.Frag} : ∀ {es : List DictEntry} {qs : List (Int × He.Dv)}, entsB K es qs = true → (qs.all fun q => dvFlat q.2) = true →
    Paired (fun (e : DictEntry) (q : Int × A) => (∃ t, e.key = .int q.1 t) ∧ e.hash = hashInt q.1 ∧ ∃ v, RelV v e.val ∧ ∀ G, AR K G v q.2) es (qs.map fun q => (q.1, dvA q.2))
  | [], [], _, _ => .nil
  | e :: es, q :: qs, h, f => by
    obtain ⟨h1, h2⟩ := He.ba (show (entB K e q && entsB K es qs) = true from h)
    rw [List.all_cons, Bool.and_eq_true] at f
    obtain ⟨k1, k2⟩ := He.ba h1
    obtain ⟨k3, k4⟩ := He.ba k2
    refine .cons ⟨?_, of_decide_eq_true k3, _, He.relB_ok k4, fun G => dv_rel f.1 G⟩ (entsB_ok h2 f.2)
    split at k1
    · rename_i j t e1
      exact ⟨t, by rw [e1, of_decide_eq_true k1]⟩
    · cases k1
  | [], _ :: _, h, _ => by cases h
  | _ :: _, [], h, _ => by cases h
theorem kintB_ok {K : PySem.W.Frag} {d : Addr} {qs : List (Int × He.Dv)} (h : kintB K d qs = true) : KInt K d (qs.map fun q => (q.1, dvA q.2)) := by
  obtain ⟨h, h3⟩ := He.ba h
  obtain ⟨h1, h2⟩ := He.ba h
  split at h1
  · rename_i c es n sl e
    obtain ⟨a, b⟩ := He.ba h1
    obtain ⟨b, g⟩ := He.ba b
    have ea := of_decide_eq_true a
    have eb := of_decide_eq_true b
    subst ea eb
    exact ⟨⟨es, n, e, entsB_ok g h3⟩, by simpa using h2⟩
  · cases h1
/-- no list stands in the known part: the script is another -/
def noListB (K : PySem.W.Frag) : Bool := K.all fun q => !decide (q.2.cls = .type "list")
theorem noList_ok {K : PySem.W.Frag} (h : noListB K = true) {a : Addr} {o : Obj} (l : K.lookup a = some o) : o.cls ≠ .type "list" := by
  have hm : (a, o) ∈ (K : List (Addr × Obj)) := by
    have : ∀ L : List (Addr × Obj), L.lookup a = some o → (a, o) ∈ L := fun L => by
      induction L with
      | nil => intro e; cases e
      | cons q L ih =>
        intro e
        obtain ⟨b, u⟩ := q
        rw [List.lookup_cons] at e
        split at e
        · rename_i hb
          cases e
          rw [show a = b from by simpa using hb]
          exact List.mem_cons_self ..
        · exact List.mem_cons_of_mem _ (ih e)
    exact this K l
  have := List.all_eq_true.mp h (a, o) hm
  simpa using this
/-- the law's promise, from the promise over plain data -/
theorem law_sp {K : PySem.W.Frag} {sp : ASp} (hk : noListB K = true) (hsp : ∀ (ns : List Int) (κ : B → OS → Prop), ns.length ≤ 63 → (∀ os', κ (.p (.bl true)) os') → sp [.p (.frz (ns.map A.int))] [] κ)
    (H : Hp) (a : Addr) (ns : List Int) (hl : ns.length ≤ 63) (hO : Only H) (hS : SqL K H a (ns.map V.int)) : cSp K sp [.ref a] H (fun v _ => v = .bl true) fun _ _ _ => False := by
  have hf : ∃ o, H a = some (.frz o (.lst (ns.map V.int))) := by
    rcases hS with (h | h) | ⟨o, its, n, h1, h2, _⟩
    · rcases hO a with q | ⟨o, xs, q⟩ <;> rw [q] at h <;> cases h
    · exact h
    · exact absurd h2 (noList_ok hk h1)
  obtain ⟨o, hf⟩ := hf
  refine ⟨⟨H, H, []⟩, [.p (.frz (ns.map A.int))], [], fun b _ => b = .p (.bl true), rfl, ⟨Ex.refl _, rfl, by simp, by simp, by simp⟩, .cons (show AR K H (.ref a) (.frz (ns.map A.int)) from .frz hf ARs.intL) .nil, hsp ns _ hl fun _ => rfl, ?_⟩
  rintro v W' os' b s ok r rfl
  exact BR.bl r
end AB

end

section
set_option Elab.async false
set_option linter.all false
set_option maxRecDepth 100000
set_option maxHeartbeats 4000000
namespace AB
open PySem PySem.Spec PyProof.Rows L2 Evl
/-! ### exceptions as values -/
/-- what the text says of the exception class C -/
structure ExT (K : PySem.W.Frag) (C : String) : Prop where
  oex : OexC K (cAt K C)
  x : L2.ExcC K (cAt K C)
def oexB (K : PySem.W.Frag) (C : Addr) : Bool := match K.lookup C with
  | some ⟨.type "type", _, .cls cd, sl⟩ => (match cd.mro, sl.toList with
    | .ref C' :: bm, [_, _, _, _, some (.builtin n), _] => C' == C && (n == "ValueError.__new__" && (!cd.hasDel && (cd.hasDict && PySem.HandSPX.refsVE bm)))
    | _, _ => false)
  | _ => false
theorem oexB_ok {K : PySem.W.Frag} {C : Addr} (h : oexB K C = true) : ∃ nm q N bs bm sn sub ab col dd k0 k1 k2 k3 k5, K.lookup C = some (excClassObj nm q C N bs bm true sn sub ab col dd k0 k1 k2 k3 k5 "ValueError.__new__") ∧ PySem.HandSPX.refsVE bm = true := by
  unfold oexB at h
  split at h
  · rename_i dd cd sl ho
    split at h
    · rename_i C' bm k0 k1 k2 k3 n k5 hm hs
      obtain ⟨h1, h⟩ := He.ba h
      obtain ⟨h2, h⟩ := He.ba h
      obtain ⟨h3, h⟩ := He.ba h
      obtain ⟨h4, h5⟩ := He.ba h
      have e1 := beq_iff_eq.mp h1
      have e2 := beq_iff_eq.mp h2
      obtain ⟨nm, bs, mro, ns, qn, hd, sn, sub, ab, col, del⟩ := cd
      dsimp only at hm h3 h4
      subst hm e1 e2 h4
      have hdel : del = false := by simpa using h3
      subst hdel
      have hsl : sl = #[k0, k1, k2, k3, some (.builtin "ValueError.__new__"), k5] := by
        obtain ⟨l⟩ := sl
        simp only at hs
        rw [hs]
      subst hsl
      exact ⟨nm, qn, ns, bs, bm, sn, sub, ab, col, dd, k0, k1, k2, k3, k5, ho, h5⟩
    · cases h
  · cases h
def exB (K : PySem.W.Frag) (C : String) : Bool := oexB K (cAt K C) && (He.eqO (PySem.W.findIn K (.ref (cAt K C)) "__setattr__") (some (some (.builtin "object.__setattr__"))) && (decide (PySem.W.subIn K (.ref (cAt K C)) (.type "BaseException") = some true) &&
  (decide (PySem.W.typeIn K (.ref (cAt K C)) = some (.type "type")) && (PySem.W.keepIn K (.ref (cAt K C)) && (He.eqO (PySem.W.findIn K (.ref (cAt K C)) "__getattribute__") (some (some (.builtin "BaseException.__getattribute__"))) &&
  (He.eqO (PySem.W.findIn K (.ref (cAt K C)) "__getattr__") (some none) && (PySem.W.hasDictIn K (cAt K C) && (He.eqO (PySem.W.findIn K (.ref (cAt K C)) "__class__") (some (some (.builtin "object.__class__"))) &&
  (He.eqO (PySem.W.specialIn K (.builtin "object.__class__") "__get__") (some (some (.builtin "getset_descriptor.__get__"))) && (decide (PySem.W.takesIn K (.builtin "object.__class__") = some true) && decide (PySem.W.mroIn K (cAt K C) (.type "object") = some true)))))))))))
theorem exB_ok {K : PySem.W.Frag} {C : String} (h : exB K C = true) : ExT K C := by
  obtain ⟨h1, h⟩ := He.ba h
  obtain ⟨h2, h⟩ := He.ba h
  obtain ⟨h3, h⟩ := He.ba h
  obtain ⟨h4, h⟩ := He.ba h
  obtain ⟨h5, h⟩ := He.ba h
  obtain ⟨h6, h⟩ := He.ba h
  obtain ⟨h7, h⟩ := He.ba h
  obtain ⟨h8, h⟩ := He.ba h
  obtain ⟨h9, h⟩ := He.ba h
  obtain ⟨h10, h⟩ := He.ba h
  obtain ⟨h11, h12⟩ := He.ba h
  exact ⟨⟨oexB_ok h1, He.eqO_ok h2, of_decide_eq_true h3, of_decide_eq_true h4, h5⟩, ⟨He.eqO_ok h6, He.eqO_ok h7, of_decide_eq_true h3, h8, He.eqO_ok h9, He.eqO_ok h10, of_decide_eq_true h11, of_decide_eq_true h12⟩⟩
section
variable {X : Cx} {pins : List (Addr × Obj)} {σ : L2.St} {H : Hp} {s : Shared} {G : Hp} {v : V} {C : String} {gs : List (Str × AB.A)}
/-- an exception that is known, in the heap -/
theorem exc_inst (I : Inv X pins σ H s) (e : Ex G H) (r : AR X.K G v (.exc C gs)) : ∃ (a : Addr) (oe : Obj) (od : Option Obj) (fs : List (Str × V)), v = .ref a ∧ PySem.W.InstAt s.heap a oe (cAt X.K C) od ∧ ARf X.K G fs gs ∧
    (∀ n y, fs.lookup n = some y → ∃ o u, od = some o ∧ PySem.W.lookIn n o = some (some u) ∧ RelV y u) ∧ (∀ n, fs.lookup n = none → PySem.W.shadowIn od n = some false) := by
  cases r with
  | exc0 h =>
    obtain ⟨t1, he⟩ := exo_at I.hok (e _ _ h)
    exact ⟨_, _, none, [], rfl, ⟨he, rfl, rfl, trivial⟩, .nil, fun n y q => by simp [List.lookup] at q, fun n _ => rfl⟩
  | exc h h2 rf =>
    obtain ⟨t1, he⟩ := exo_at I.hok (e _ _ h)
    obtain ⟨mA, hns, rel⟩ := exd_at I.hok (e _ _ h2)
    obtain ⟨od, ho, hl⟩ := lookIn_ns hns
    refine ⟨_, _, some od, _, rfl, ⟨he, rfl, rfl, ho⟩, rf, fun n y q => ?_, fun n q => ?_⟩
    · obtain ⟨u, hu, ru⟩ := RelO.some_of (v := y) (o := mA n) (by rw [← q]; exact rel n)
      exact ⟨od, u, rfl, by rw [hl, hu], ru⟩
    · have q2 := rel n
      rw [q] at q2
      have : mA n = none := by
        cases hm : mA n with
        | none => rfl
        | some u => rw [hm] at q2; exact q2.elim
      show (PySem.W.lookIn n od).map _ = _
      rw [hl, this]; rfl
end
/-- e.n, e an exception -/
def fldE (CS : List String) (K : PySem.W.Frag) (n : Str) (κ : B → OS → Prop) (x : B) (os1 : OS) : Prop := ∃ C gs a, x = .p (.exc C gs) ∧ C ∈ CS ∧ NoAttr K (cAt K C) n ∧ gs.lookup n = some a ∧ κ (.p a) os1
def aFldE (CS : List String) (K : PySem.W.Frag) (n : Str) (te : ATE) : ATE := fun as os κ => te as os (fldE CS K n κ)
section
variable {X : Cx} {CS : List String} {e o : Expr} {es : List Expr} {te to : ATE} {t : ATA} {n m x : Str} {p pos apos : Pos} {C : String} {sp : ASp} {j k : Nat}
theorem ae_fldE (T : ∀ C ∈ CS, ExT X.K C) (he : AE X e te) (hb : attributeBase e n X.env (eval e X.env) = eval e X.env := by rfl) : AE X (.Attribute e n pos) (aFldE CS X.K n te) := by
  refine ⟨fun pins s σ H Q I h => ?_⟩
  obtain ⟨W, as, os, κ, rfl, ok, sl, k, q⟩ := h
  refine attr_of hb (thn (he.run pins s σ W.H (fun v H1 => ∃ W1 os1 C gs a, W1.H = H1 ∧ Sn W W1 ∧ Wok X.K W1 os1 ∧ AR X.K W1.G v (.exc C gs) ∧ C ∈ CS ∧ NoAttr X.K (cAt X.K C) n ∧ gs.lookup n = some a ∧ κ (.p a) os1) I ⟨W, as, os, _, rfl, ok, sl, k, fun v W1 os1 b s1 ok1 rb ⟨C, gs, a, eb, hc, hn, hl, hk⟩ => ?_⟩) fun u s1 hh => ?_)
  · subst eb
    exact ⟨W1, os1, C, gs, a, rfl, s1, ok1, rb, hc, hn, hl, hk⟩
  · obtain ⟨v, H1, I1, rx, W1, os1, C, gs, a, rfl, s1, ok1, rb, hc, hn, hl, hk⟩ := hh
    obtain ⟨ad, oe, od, fs, rfl, J, rf, h1, h2⟩ := exc_inst I1 ok1.sub rb
    obtain rfl : u = Value.ref ad := rx
    obtain ⟨y, hy, ry⟩ := rf.get hl
    obtain ⟨od', u, rfl, hu, ru⟩ := h1 n y hy
    have T1 := T C hc
    exact PySem.HandSPX.exc_get I1.kIn J T1.x.hg T1.x.hk T1.x.hs (PySem.W.findObj_own T1.x.hd hn rfl hu) (handed_of ru) ⟨y, W1.H, I1.tok _, ru, q _ W1 os1 (.p a) s1 ok1 ry hk⟩
/-- e.m(), e an exception of the class C -/
def methE (C : String) (m : Str) (sp : ASp) (κ : B → OS → Prop) (x : B) (os1 : OS) : Prop := ∃ gs, x = .p (.exc C gs) ∧ gs.lookup m = none ∧ sp [x] [] (resP κ os1)
def aMethE (C : String) (m : Str) (sp : ASp) (to : ATE) : ATE := fun as os κ => to as os (methE C m sp κ)
def MtE (P : Program) (w : World) (K : PySem.W.Frag) (mg : Str → Option Value) (base : Heap) (k : Nat) (C : String) (m : Str) (sp : ASp) : Prop :=
  ExT K C ∧ ∃ (f : Addr) (fd : FuncData) (ps : List Str), Meth K (cAt K C) m f ∧ FnOk P w K mg base CX0 k f fd ps (cSp K sp) ∧ Binds K fd ps []
theorem ae_mE {pl : Sem Bool} (c : MtE X.prog X.w X.K X.mg X.base k C m sp) (hr : Room j X.A) (hk : k ≤ j) (ho : AE X o to)
    (ht : eval (.Call (.Attribute o m apos) [] [] pos) X.env = (do
      let ov ← eval o X.env
      standAt apos.atName
      let (f, first) ← holding [ov] (getMethod ov m pl)
      callWith pos f first (backTo pos (starEach [] X.env)) (backToKw pos (keywordEach [] X.env))) := by rfl) :
    AE X (.Call (.Attribute o m apos) [] [] pos) (aMethE C m sp to) := by
  obtain ⟨T1, f, fd, ps, M, F, hbn⟩ := c
  refine ⟨fun pins s σ H Q I h => ?_⟩
  obtain ⟨W, as, os, κ, rfl, ok, sl, k, q⟩ := h
  refine PySem.W.methodCall_KW (pl := pl) (thn (ho.run pins s σ W.H (fun v H1 => ∃ W1 os1 gs, W1.H = H1 ∧ Sn W W1 ∧ Wok X.K W1 os1 ∧ AR X.K W1.G v (.exc C gs) ∧ gs.lookup m = none ∧ sp [.p (.exc C gs)] [] (resP κ os1)) I ⟨W, as, os, _, rfl, ok, sl, k, fun v W1 os1 b s1 ok1 rb ⟨gs, eb, hl, hk⟩ => ?_⟩) fun u s1 hh => ?_) ht
  · subst eb
    exact ⟨W1, os1, gs, rfl, s1, ok1, rb, hl, hk⟩
  · obtain ⟨v, H1, I1, rx, W1, os1, gs, rfl, s1, ok1, rb, hl, hk2⟩ := hh
    obtain ⟨ad, oe, od, fs, rfl, J, rf, h1, h2⟩ := exc_inst I1 ok1.sub rb
    obtain rfl : u = Value.ref ad := rx
    obtain ⟨mm, fr⟩ := I1.fr
    refine PySem.W.method_exc fr I1.ok.mod.kin J T1.x.hg T1.x.hk M.at_ M.fn (h2 m (rf.none hl)) ?_
    refine PySem.W.callWith_K0 (first := [.ref ad]) I1.kIn M.kp ?_
    refine run_fn (us := [.ref ad]) (vs := [.ref ad]) (dvs := []) (ds := []) F (hr.mono hk) hbn .nil pass0 I1 (.cons rfl .nil) ?_
    have := call0 (E := E0) (W0 := W) (ds := []) (dvs := []) (xs := [.exc C gs]) (κ := κ) (fun _ => .nil) ok1 (.cons rb .nil) hk2 fun v W' os' b s' ok' r' k' => q _ _ _ _ (s1.trans s') ok' r' k'
    exact this
end
end AB

end

section
set_option Elab.async false
set_option linter.all false
set_option maxRecDepth 100000
set_option maxHeartbeats 4000000
namespace AB
open PySem PySem.Spec PyProof.Rows L2 Evl
/-! ### isinstance of an exception -/
def isE (K : PySem.W.Frag) (CS : List String) (cv : Value) (ys : List String) : Bool := CS.all fun C => decide (PySem.W.kitOne K (.ref (cAt K C)) cv = some (ys.contains C))
def cIsE (CS ys : List String) (V : V) : List B → OS → (B → OS → Prop) → Prop := fun bs os κ => ∃ C gs, bs = [.p (.exc C gs), .p (.val V)] ∧ C ∈ CS ∧ κ (.p (.bl (ys.contains C))) os
theorem ca_isE {X : Cx} {CS ys : List String} {V : V} {cv : Value} (T : ∀ C ∈ CS, ExT X.K C) (hV : ∀ u, RelV V u → u = cv) (hb : isE X.K CS cv ys = true) : CA X (.builtin "isinstance") (cIsE CS ys V) := by
  intro pins s σ H vs us Q I rs h
  obtain ⟨W, os, bs, κ, rfl, ok, rb, ⟨C, gs, rfl, hC, h⟩, q⟩ := h
  obtain ⟨v, v2, rfl, rx, ry⟩ := rb.two
  have ev := ry.val
  subst ev
  cases rs with
  | cons r0 rr =>
    cases rr with
    | cons r1 rr =>
      cases rr
      have ec := hV _ r1
      subst ec
      obtain ⟨ad, oe, od, fs, rfl, J, rf, h1, h2⟩ := exc_inst I ok.sub rx
      cases r0
      have T1 := (T C hC).x
      have e := of_decide_eq_true (List.all_eq_true.mp hb C hC)
      exact PySem.W.kia_one (PySem.W.kitx_exc (by obtain ⟨cd, hc, _⟩ := PySem.W.any_some T1.hd; rw [hc]; rfl) T1.hg T1.hk T1.hs T1.ha T1.hn T1.ht T1.hm) I.kIn J e (fun z => nomatch z) fun tk => ⟨.bl _, W.H, I.kept (t' := tk) fun _ _ z => z, rfl, q _ W os _ (Sn.refl W) ok bB h⟩
/-! ### exceptions made -/
/-- C(e), C's own __init__ keeping self.n = e -/
def aMkE (C : String) (n : Str) (t : ATA) : ATE := fun as os κ => t as os fun bs os1 => ∃ a, bs = [.p a] ∧ κ (.p (.exc C [(n, a)])) os1
/-- C() -/
def aMkE0 (C : String) : ATE := fun _ os κ => κ (.p (.exc C [])) os
/-- what such an __init__ does -/
def spI (K : PySem.W.Frag) (C : String) (n : Str) : Sp := fun vs H Q _ => ∃ (a : Addr) (y : V), vs = [.ref a, y] ∧ H a = some (exo a (cAt K C) none) ∧ ∀ dx, H dx = none → dx ≠ a → Q .non (upd (upd H dx (exd dx [(n, y)])) a (exo a (cAt K C) (some dx)))
theorem init_ok {P : Program} {w : World} {K : PySem.W.Frag} {mg : Str → Option Value} {base : Heap} {C : String} {n y qual : Str} {params : Arguments} {scope : Scope} {f : Addr} {fd : FuncData} {p1 p2 p3 p4 : Pos} (F : FunD K "__init__" qual params [.Assign [.Attribute (.Name "self" p1) n p2] (.Name y p3) p4] scope [] [] f fd)
    (S : FnScope ["self", y] ["self", y] scope) (hv1 : Vis scope "self") (hv2 : Vis scope y) (T : ExT K C) (hn : NoAttr K (cAt K C) n) (hy1 : (y == ("__debug__" : Str)) = false) (hy2 : (y == ("__classdict__" : Str)) = false) (hne : swapsWith (.Name y p3) (some (.Attribute (.Name "self" p1) n p2)) p4.line = fun _ => pure false) :
    FnOk P w K mg base CX0 1 f fd ["self", y] (spI K C n) := by
  refine F.ok S (fun vs H Q E h => ?_) (fun cdv A outer s H vs Q E hr h => ?_)
  · obtain ⟨a, y, rfl, _⟩ := h; rfl
  · obtain ⟨a, y0, rfl, ha, hq⟩ := h
    refine ⟨_, pss_one (ps_ost (pe_var (i := 0) rfl hv1) (pe_var (i := 1) rfl hv2 hy1 hy2) (by rw [hne])), ?_⟩
    exact ⟨y0, rfl, .ref a, rfl, a, cAt K C, rfl, T.oex, hn, .inl ⟨ha, fun dx h1 h2 => hq dx h1 h2⟩⟩
section
variable {X : Cx} {e : Expr} {es : List Expr} {t : ATA} {n x : Str} {p pos : Pos} {C : String} {j k : Nat}
def MxE (P : Program) (w : World) (K : PySem.W.Frag) (mg : Str → Option Value) (base : Heap) (k : Nat) (x : Str) (C : String) (n : Str) : Prop :=
  mg x = some (.ref (cAt K C)) ∧ ExT K C ∧ ∃ (f : Addr) (fd : FuncData) (ps : List Str), PySem.W.findIn K (.ref (cAt K C)) "__init__" = some (some (.ref f)) ∧ PySem.W.typeIn K (.ref f) = some (.type "function") ∧ FnOk P w K mg base CX0 k f fd ps (spI K C n) ∧ Binds K fd ps []
theorem ae_mkE (c : MxE X.prog X.w X.K X.mg X.base k x C n) (hr : Room j X.A) (hk : k + 1 ≤ j) (hg : Gl X x) (ha : AA X (e :: es) t) (hdb : (x == ("__debug__" : Str)) = false := by decide)
    (he : starEach (e :: es) X.env = (false, eval e X.env) :: starEach es X.env := by rfl) (hpl : (backTo pos (starEach es X.env)).any (·.1) = false := by rfl) : AE X (.Call (.Name x p) (e :: es) [] pos) (aMkE C n t) := by
  obtain ⟨hm, T1, fI, fd, ps, iC, tI, F1, hb⟩ := c
  have T := T1.oex
  refine ⟨fun pins s σ H Q I h => ?_⟩
  obtain ⟨W, as, os, κ, rfl, ok, sl, k0, q⟩ := h
  obtain ⟨nm, qn, N, bs, bm, sn, sub, ab, col, dd, k0', k1, k2, k3, k5, hC, hbm⟩ := T.cls
  refine wpAny_Call_Name_kw (ld_glob I hg hm ?_ hdb)
  refine PySem.W.callWith_K (h₀ := X.base) I.ok.mod.kin T.kC (thn (ha.run pos pins s σ W.H (fun vs H1 => ∃ W1 os1 y a, vs = [y] ∧ W1.H = H1 ∧ Sn W W1 ∧ Wok X.K W1 os1 ∧ AR X.K W1.G y a ∧ κ (.p (.exc C [(n, a)])) os1) I ⟨W, as, os, _, rfl, ok, sl, k0, fun vs W1 os1 bs s1 ok1 rs ⟨a, hb, hk1⟩ => ?_⟩) fun us s1 ⟨vs, H1, I1, r1, W1, os1, y, a, ev, eH, sn1, ok1, ra, hk1⟩ => ⟨I1.kIn, ?_⟩) he hpl
  · subst hb
    obtain ⟨v, rfl, rv⟩ := rs.one
    exact ⟨W1, os1, v, a, rfl, rfl, s1, ok1, rv, hk1⟩
  subst ev eH
  show wpAny _ _ (call (.ref (cAt X.K C)) us) _ _ _
  obtain ⟨hp, g, dr, tk, os'⟩ := s1
  have hsz : hp.objs.size ≤ hp.objs.size + 1 := Nat.le_succ _
  have hn : W1.H (hp.objs.size + 1) = none := I1.hok.fresh hsz
  have kk : ∀ b o, hp.get? b = some o → ((hp.push (PySem.W.kdv_tup us)).push (PySem.HandSPX.excO (cAt X.K C) hp.objs.size)).get? b = some o := fun b o e => Heap.get?_push_of_some _ (Heap.get?_push_of_some _ e)
  have hget : ((hp.push (PySem.W.kdv_tup us)).push (PySem.HandSPX.excO (cAt X.K C) hp.objs.size)).get? (hp.objs.size + 1) = some (PySem.HandSPX.excO (cAt X.K C) hp.objs.size) := by heap_get
  have I2 : Inv X pins σ (upd W1.H (hp.objs.size + 1) (exo (hp.objs.size + 1) (cAt X.K C) none)) ⟨(hp.push (PySem.W.kdv_tup us)).push (PySem.HandSPX.excO (cAt X.K C) hp.objs.size), g, dr, tk, os'⟩ :=
    I1.laid (t' := tk) (a := hp.objs.size + 1) (o := exo (hp.objs.size + 1) (cAt X.K C) none) (h' := (hp.push (PySem.W.kdv_tup us)).push (PySem.HandSPX.excO (cAt X.K C) hp.objs.size)) kk hsz (exo_ok hget)
  have r2 : Vals (V.ref (hp.objs.size + 1) :: [y]) (Value.ref (hp.objs.size + 1) :: us) := .cons rfl r1
  generalize hA : hp.objs.size + 1 = A at hn hget I2 r2 ⊢
  have hq : spI X.K C n [V.ref A, y] (upd W1.H A (exo A (cAt X.K C) none)) (fun v H2 => v = .non ∧ Q (.ref A) H2) E0 := by
    refine ⟨A, y, rfl, upd_same, fun dx h1 h2 => ⟨rfl, ?_⟩⟩
    have hd : W1.H dx = none := by rw [upd_ne h2] at h1; exact h1
    have eH : upd (upd (upd W1.H A (exo A (cAt X.K C) none)) dx (exd dx [(n, y)])) A (exo A (cAt X.K C) (some dx)) = upd (upd W1.H dx (exd dx [(n, y)])) A (exo A (cAt X.K C) (some dx)) := by
      funext b
      by_cases hb : b = A
      · rw [hb, upd_same, upd_same]
      · rw [upd_ne hb, upd_ne hb]
        by_cases hb2 : b = dx
        · rw [hb2, upd_same, upd_same]
        · rw [upd_ne hb2, upd_ne hb2, upd_ne hb]
    rw [eH]
    obtain ⟨ok2, s2⟩ := ok1.new hd (exd dx [(n, y)])
    have hA2 : (upd W1.H dx (exd dx [(n, y)])) A = none := by rw [upd_ne (Ne.symm h2)]; exact hn
    obtain ⟨ok3, s3⟩ := ok2.new (p := A) hA2 (exo A (cAt X.K C) (some dx))
    refine q (.ref A) _ os1 (.p (.exc C [(n, a)])) ((sn1.trans s2).trans s3) ok3 ?_ hk1
    refine AR.exc (d := dx) (fs := [(n, y)]) upd_same ?_ (.cons (ra.mono (s2.g.trans s3.g)) .nil)
    show upd (upd W1.G dx (exd dx [(n, y)])) A (exo A (cAt X.K C) (some dx)) dx = _
    rw [upd_ne h2, upd_same]
  have hl : (Value.ref A :: us).length = ps.length := by
    have e := r2.length
    rw [F1.len _ _ _ _ hq] at e
    exact e.symm
  have hus : us.length ≤ sizeLine := by
    rw [← Paired.length r1, sizeLine_eq]
    show 1 ≤ _
    omega
  have hb2 := hb _ (Value.ref A :: us) I2.kIn (by rw [List.append_nil]; exact hl)
  rw [List.append_nil] at hb2
  subst hA
  refine wpAny_call (PySem.HandSPX.call_own F.excBase_ValueError (fun Y => PySem.HandSPX.refsVE_contains Y bm hbm) (I1.kIn _ _ hC) (PySem.W.looks_findIn I1.kIn iC) (fun self => PySem.W.bind_fn I1.kIn self tI) hus
    (codeAny_mono (F1.run _ X.stack _ _ ⟨Value.ref (hp.objs.size + 1) :: us, []⟩ (Value.ref (hp.objs.size + 1) :: us) _ _ E0 ((hr.mono hk).make (cAt X.K C) us []) (I2.env0.make (cAt X.K C) us []) hb2 r2 hq) fun r s' hq' => ?_))
  cases r with
  | error er => exact pass0 pins σ _ _ er s' I2 hq'
  | ok fl =>
    cases fl with
    | ret u =>
      obtain ⟨v, H2, J, rv, ev, q2⟩ := I2.after hq'
      subst ev
      cases rv
      exact ⟨rfl, .ref (hp.objs.size + 1), H2, J, rfl, q2⟩
    | next => exact False.elim hq'
    | brk => exact False.elim hq'
    | cont => exact False.elim hq'
theorem ae_mkE0 (T : ExT X.K C) (hq : PySem.W.excIn X.K (cAt X.K C) He.veBase "ValueError.__new__" = true) (hm : X.mg x = some (.ref (cAt X.K C))) (hg : Gl X x) (hdb : (x == ("__debug__" : Str)) = false := by decide) : AE X (.Call (.Name x p) [] [] pos) (aMkE0 C) := by
  refine ⟨fun pins s σ H Q I h => ?_⟩
  obtain ⟨W, as, os, κ, rfl, ok, sl, k0, q⟩ := h
  refine wpAny_Call_Name_kw (ld_glob I hg hm ?_ hdb)
  refine PySem.W.callWith_K0 (first := []) I.kIn T.oex.kC ?_
  show wpAny _ _ (call (.ref (cAt X.K C)) []) _ _ _
  obtain ⟨bm, N, nm, qn, bs, hdct, sn, sub, ab, col, dd, k0', k1, k2, k3, k5, mN, hC, hN, hni, T2⟩ := exc_obj I.kIn hq
  refine wpAny_call_exc_subT F.excBase_ValueError T2 hC hN hni (fun h' a hm => ?_) (by show 0 ≤ sizeLine; exact Nat.zero_le _)
  have hn : W.H a = none := I.hok.gone hm.new
  obtain ⟨t, ht, _, _⟩ := hm.there
  obtain ⟨ok2, s2⟩ := ok.new hn (exo a (cAt X.K C) none)
  exact ⟨.ref a, upd W.H a (exo a (cAt X.K C) none), I.laidN hm.keeps hm.new hn (exo_ok ht), rfl, q (.ref a) _ os (.p (.exc C [])) s2 ok2 (AR.exc0 upd_same) k0⟩
end
end AB

end

section
set_option Elab.async false
set_option linter.all false
set_option maxRecDepth 100000
set_option maxHeartbeats 4000000
namespace K1
open PySem PySem.Spec PyProof.Rows L2 Evl AB
abbrev S (z : String) : Str := Str.ofString z

def stOk (xs : List A) : Prop := ∃ x y z : Int, xs = [.int x, .int y, .int z] ∧ 0 ≤ x ∧ 0 ≤ y ∧ y < 4294967296 ∧ 0 ≤ z ∧ z < 4294967296
def sp__law_state : ASp := fun bs os κ => ∃ n : Int, bs = [.p (.int n)] ∧ os = [] ∧ ∀ xs, stOk xs → κ (.own 0) [.lst xs]
def sp__law_digit : ASp := fun bs os κ => ∃ (b : Int) (xs : List A) (rest : OS), bs = [.own 0, .p (.int b)] ∧ os = .lst xs :: rest ∧ stOk xs ∧ 0 < b ∧ b ≤ 1000 ∧ ∀ (d : Nat) xs', (d : Int) < b → stOk xs' → κ (.p (.int (d : Int))) (.lst xs' :: rest)

def sp_BadText_told : ASp := fun bs os κ => ∃ gs, bs = [.p (.exc "BadText" gs)] ∧ κ (.p (.str (S "refused badtext"))) os
def sp_BadNode_told : ASp := fun bs os κ => ∃ gs, bs = [.p (.exc "BadNode" gs)] ∧ κ (.p (.str (S "refused badnode"))) os
def sp_Unsettled_told : ASp := fun bs os κ => ∃ gs, bs = [.p (.exc "Unsettled" gs)] ∧ κ (.p (.str (S "refused unsettled"))) os
def sp_NotPlain_told : ASp := fun bs os κ => ∃ gs, bs = [.p (.exc "NotPlain" gs)] ∧ κ (.p (.str (S "refused notplain"))) os
def sp_Paused_told : ASp := fun bs os κ => ∃ gs, bs = [.p (.exc "Paused" gs)] ∧ κ (.p (.str (S "refused paused"))) os
def sp_NotPaused_told : ASp := fun bs os κ => ∃ gs, bs = [.p (.exc "NotPaused" gs)] ∧ κ (.p (.str (S "refused notpaused"))) os
def sp_Finished_told : ASp := fun bs os κ => ∃ gs, bs = [.p (.exc "Finished" gs)] ∧ κ (.p (.str (S "refused finished"))) os
def sp_BadSpan_told : ASp := fun bs os κ => ∃ gs, bs = [.p (.exc "BadSpan" gs)] ∧ κ (.p (.str (S "refused badspan"))) os
/-- the errors: class, fields, what is told of the fields, the place -/
inductive ErrK : String → List (Str × A) → List A → Nat → Prop
  | badtext (a : A) : ErrK "BadText" [(S "place", a)] [a] 0
  | badnode (a : A) : ErrK "BadNode" [(S "what", a)] [a] 1
  | unsettled (a : A) : ErrK "Unsettled" [(S "path", a)] [a] 2
  | notplain (a : A) : ErrK "NotPlain" [(S "number", a)] [a] 3
  | paused : ErrK "Paused" [] [] 4
  | notpaused : ErrK "NotPaused" [] [] 5
  | finished : ErrK "Finished" [] [] 6
  | badspan : ErrK "BadSpan" [] [] 7
def flags (i : Nat) : List A := (List.range 8).map fun k => .bl (decide (k = i))
/-- how _law_classes tells them -/
def clsL : Nat → List A := fun i => flags i
def sp__law_field : ASp := fun bs os κ => ∃ C gs r i, bs = [.p (.exc C gs)] ∧ ErrK C gs r i ∧ κ (.p (.lst r)) os
def sp__law_classes : ASp := fun bs os κ => ∃ C gs r i, bs = [.p (.exc C gs)] ∧ ErrK C gs r i ∧ κ (.p (.lst (flags i))) os
def sp_law : ASp := fun bs os κ => ∃ ns : List Int, bs = [.p (.frz (ns.map A.int))] ∧ os = [] ∧ ns.length ≤ 63 ∧ ∀ os', κ (.p (.bl true)) os'
end K1

end

section
set_option Elab.async false
set_option linter.all false
set_option maxRecDepth 100000
set_option maxHeartbeats 4000000
namespace K1
open PySem PySem.Spec PyProof.Rows L2 Evl AB
def top (i : Nat) : Stmt := PySem.Challenge.pw_tagpicker_k01_errors.main.body.getD i (.Pass ⟨0, 0, 0, 0⟩)
def CS : List String := []
def XS : List String := ["BadText", "BadNode", "Unsettled", "NotPlain", "Paused", "NotPaused", "Finished", "BadSpan"]
def ise_BadText : List String := ["BadText"]
def ise_BadNode : List String := ["BadNode"]
def ise_Unsettled : List String := ["Unsettled"]
def ise_NotPlain : List String := ["NotPlain"]
def ise_NotPaused : List String := ["NotPaused"]
def ise_Paused : List String := ["Paused"]
def ise_BadSpan : List String := ["BadSpan"]
def ise_Finished : List String := ["Finished"]
def ise_TagError : List String := ["BadText", "BadNode", "Unsettled", "NotPlain", "Paused", "NotPaused", "Finished", "BadSpan"]
def ise_ValueError : List String := ["BadText", "BadNode", "Unsettled", "NotPlain", "Paused", "NotPaused", "Finished", "BadSpan"]
structure Txt (K : PySem.W.Frag) (mg : Str → Option Value) : Prop where
  f_abs : mg "abs" = none
  f_int : mg "int" = none
  f_isinstance : mg "isinstance" = none
  f_enumerate : mg "enumerate" = none
  f_ValueError : mg "ValueError" = none
  f_range : mg "range" = none
  f_len : mg "len" = none
  g_BadText : mg "BadText" = some (.ref (cAt K "BadText"))
  g_BadNode : mg "BadNode" = some (.ref (cAt K "BadNode"))
  g_Unsettled : mg "Unsettled" = some (.ref (cAt K "Unsettled"))
  g_NotPlain : mg "NotPlain" = some (.ref (cAt K "NotPlain"))
  g_NotPaused : mg "NotPaused" = some (.ref (cAt K "NotPaused"))
  g_Paused : mg "Paused" = some (.ref (cAt K "Paused"))
  g_BadSpan : mg "BadSpan" = some (.ref (cAt K "BadSpan"))
  g_Finished : mg "Finished" = some (.ref (cAt K "Finished"))
  g_TagError : mg "TagError" = some (.ref (cAt K "TagError"))
  xs : ∀ C ∈ XS, ExT K C
  ie_BadText : isE K XS (.ref (cAt K "BadText")) ise_BadText = true
  ie_BadNode : isE K XS (.ref (cAt K "BadNode")) ise_BadNode = true
  ie_Unsettled : isE K XS (.ref (cAt K "Unsettled")) ise_Unsettled = true
  ie_NotPlain : isE K XS (.ref (cAt K "NotPlain")) ise_NotPlain = true
  ie_NotPaused : isE K XS (.ref (cAt K "NotPaused")) ise_NotPaused = true
  ie_Paused : isE K XS (.ref (cAt K "Paused")) ise_Paused = true
  ie_BadSpan : isE K XS (.ref (cAt K "BadSpan")) ise_BadSpan = true
  ie_Finished : isE K XS (.ref (cAt K "Finished")) ise_Finished = true
  ie_TagError : isE K XS (.ref (cAt K "TagError")) ise_TagError = true
  ie_ValueError : isE K XS (.type "ValueError") ise_ValueError = true
  q_BadSpan : PySem.W.excIn K (cAt K "BadSpan") He.veBase "ValueError.__new__" = true
  q_Finished : PySem.W.excIn K (cAt K "Finished") He.veBase "ValueError.__new__" = true
  q_NotPaused : PySem.W.excIn K (cAt K "NotPaused") He.veBase "ValueError.__new__" = true
  q_Paused : PySem.W.excIn K (cAt K "Paused") He.veBase "ValueError.__new__" = true
  n_BadText_place : NoAttr K (cAt K "BadText") (Str.ofString "place")
  n_BadNode_what : NoAttr K (cAt K "BadNode") (Str.ofString "what")
  n_Unsettled_path : NoAttr K (cAt K "Unsettled") (Str.ofString "path")
  n_NotPlain_number : NoAttr K (cAt K "NotPlain") (Str.ofString "number")
section
variable {P : Program} {w : World} {K : PySem.W.Frag} {mg : Str → Option Value} {base : Heap}
abbrev s_BadText_told : Stmt := inClass (top 2) 1
abbrev N_BadText_told : List Str := ["self"]
theorem S_BadText_told : FnScope N_BadText_told ["self"] (defScope s_BadText_told) := ⟨rfl, rfl, rfl, by decide +kernel, rfl, by decide +kernel, by decide +kernel⟩
def t_BadText_told (K : PySem.W.Frag) : ATS := (aRet (aC (.str (Str.ofString "refused badtext"))))
theorem r_BadText_told (T : Txt K mg) {f : Addr} {cdv : Value} {A : Around} {outer : List Env} {s : Shared} {H : Hp} {E : XK} (hr : Room (1 - 1) (XD P w K mg base N_BadText_told "BadText.told" s_BadText_told f cdv A outer s H E).A) : ABk (XD P w K mg base N_BadText_told "BadText.told" s_BadText_told f cdv A outer s H E) (defBody s_BadText_told) (t_BadText_told K) := by
  have hu : (XD P w K mg base N_BadText_told "BadText.told" s_BadText_told f cdv A outer s H E).A.units + 64 + 1 < cLine := by have := hr.un; omega
  have hu1 : (XD P w K mg base N_BadText_told "BadText.told" s_BadText_told f cdv A outer s H E).A.units + 1 < cLine := by omega
  exact (abk_one (ast_ret ae_str))
abbrev s_BadNode_told : Stmt := inClass (top 3) 1
abbrev N_BadNode_told : List Str := ["self"]
theorem S_BadNode_told : FnScope N_BadNode_told ["self"] (defScope s_BadNode_told) := ⟨rfl, rfl, rfl, by decide +kernel, rfl, by decide +kernel, by decide +kernel⟩
def t_BadNode_told (K : PySem.W.Frag) : ATS := (aRet (aC (.str (Str.ofString "refused badnode"))))
theorem r_BadNode_told (T : Txt K mg) {f : Addr} {cdv : Value} {A : Around} {outer : List Env} {s : Shared} {H : Hp} {E : XK} (hr : Room (1 - 1) (XD P w K mg base N_BadNode_told "BadNode.told" s_BadNode_told f cdv A outer s H E).A) : ABk (XD P w K mg base N_BadNode_told "BadNode.told" s_BadNode_told f cdv A outer s H E) (defBody s_BadNode_told) (t_BadNode_told K) := by
  have hu : (XD P w K mg base N_BadNode_told "BadNode.told" s_BadNode_told f cdv A outer s H E).A.units + 64 + 1 < cLine := by have := hr.un; omega
  have hu1 : (XD P w K mg base N_BadNode_told "BadNode.told" s_BadNode_told f cdv A outer s H E).A.units + 1 < cLine := by omega
  exact (abk_one (ast_ret ae_str))
abbrev s_Unsettled_told : Stmt := inClass (top 7) 1
abbrev N_Unsettled_told : List Str := ["self"]
theorem S_Unsettled_told : FnScope N_Unsettled_told ["self"] (defScope s_Unsettled_told) := ⟨rfl, rfl, rfl, by decide +kernel, rfl, by decide +kernel, by decide +kernel⟩
def t_Unsettled_told (K : PySem.W.Frag) : ATS := (aRet (aC (.str (Str.ofString "refused unsettled"))))
theorem r_Unsettled_told (T : Txt K mg) {f : Addr} {cdv : Value} {A : Around} {outer : List Env} {s : Shared} {H : Hp} {E : XK} (hr : Room (1 - 1) (XD P w K mg base N_Unsettled_told "Unsettled.told" s_Unsettled_told f cdv A outer s H E).A) : ABk (XD P w K mg base N_Unsettled_told "Unsettled.told" s_Unsettled_told f cdv A outer s H E) (defBody s_Unsettled_told) (t_Unsettled_told K) := by
  have hu : (XD P w K mg base N_Unsettled_told "Unsettled.told" s_Unsettled_told f cdv A outer s H E).A.units + 64 + 1 < cLine := by have := hr.un; omega
  have hu1 : (XD P w K mg base N_Unsettled_told "Unsettled.told" s_Unsettled_told f cdv A outer s H E).A.units + 1 < cLine := by omega
  exact (abk_one (ast_ret ae_str))
abbrev s_NotPlain_told : Stmt := inClass (top 8) 1
abbrev N_NotPlain_told : List Str := ["self"]
theorem S_NotPlain_told : FnScope N_NotPlain_told ["self"] (defScope s_NotPlain_told) := ⟨rfl, rfl, rfl, by decide +kernel, rfl, by decide +kernel, by decide +kernel⟩
def t_NotPlain_told (K : PySem.W.Frag) : ATS := (aRet (aC (.str (Str.ofString "refused notplain"))))
theorem r_NotPlain_told (T : Txt K mg) {f : Addr} {cdv : Value} {A : Around} {outer : List Env} {s : Shared} {H : Hp} {E : XK} (hr : Room (1 - 1) (XD P w K mg base N_NotPlain_told "NotPlain.told" s_NotPlain_told f cdv A outer s H E).A) : ABk (XD P w K mg base N_NotPlain_told "NotPlain.told" s_NotPlain_told f cdv A outer s H E) (defBody s_NotPlain_told) (t_NotPlain_told K) := by
  have hu : (XD P w K mg base N_NotPlain_told "NotPlain.told" s_NotPlain_told f cdv A outer s H E).A.units + 64 + 1 < cLine := by have := hr.un; omega
  have hu1 : (XD P w K mg base N_NotPlain_told "NotPlain.told" s_NotPlain_told f cdv A outer s H E).A.units + 1 < cLine := by omega
  exact (abk_one (ast_ret ae_str))
abbrev s_Paused_told : Stmt := inClass (top 4) 0
abbrev N_Paused_told : List Str := ["self"]
theorem S_Paused_told : FnScope N_Paused_told ["self"] (defScope s_Paused_told) := ⟨rfl, rfl, rfl, by decide +kernel, rfl, by decide +kernel, by decide +kernel⟩
def t_Paused_told (K : PySem.W.Frag) : ATS := (aRet (aC (.str (Str.ofString "refused paused"))))
theorem r_Paused_told (T : Txt K mg) {f : Addr} {cdv : Value} {A : Around} {outer : List Env} {s : Shared} {H : Hp} {E : XK} (hr : Room (1 - 1) (XD P w K mg base N_Paused_told "Paused.told" s_Paused_told f cdv A outer s H E).A) : ABk (XD P w K mg base N_Paused_told "Paused.told" s_Paused_told f cdv A outer s H E) (defBody s_Paused_told) (t_Paused_told K) := by
  have hu : (XD P w K mg base N_Paused_told "Paused.told" s_Paused_told f cdv A outer s H E).A.units + 64 + 1 < cLine := by have := hr.un; omega
  have hu1 : (XD P w K mg base N_Paused_told "Paused.told" s_Paused_told f cdv A outer s H E).A.units + 1 < cLine := by omega
  exact (abk_one (ast_ret ae_str))
abbrev s_NotPaused_told : Stmt := inClass (top 5) 0
abbrev N_NotPaused_told : List Str := ["self"]
theorem S_NotPaused_told : FnScope N_NotPaused_told ["self"] (defScope s_NotPaused_told) := ⟨rfl, rfl, rfl, by decide +kernel, rfl, by decide +kernel, by decide +kernel⟩
def t_NotPaused_told (K : PySem.W.Frag) : ATS := (aRet (aC (.str (Str.ofString "refused notpaused"))))
theorem r_NotPaused_told (T : Txt K mg) {f : Addr} {cdv : Value} {A : Around} {outer : List Env} {s : Shared} {H : Hp} {E : XK} (hr : Room (1 - 1) (XD P w K mg base N_NotPaused_told "NotPaused.told" s_NotPaused_told f cdv A outer s H E).A) : ABk (XD P w K mg base N_NotPaused_told "NotPaused.told" s_NotPaused_told f cdv A outer s H E) (defBody s_NotPaused_told) (t_NotPaused_told K) := by
  have hu : (XD P w K mg base N_NotPaused_told "NotPaused.told" s_NotPaused_told f cdv A outer s H E).A.units + 64 + 1 < cLine := by have := hr.un; omega
  have hu1 : (XD P w K mg base N_NotPaused_told "NotPaused.told" s_NotPaused_told f cdv A outer s H E).A.units + 1 < cLine := by omega
  exact (abk_one (ast_ret ae_str))
abbrev s_Finished_told : Stmt := inClass (top 6) 0
abbrev N_Finished_told : List Str := ["self"]
theorem S_Finished_told : FnScope N_Finished_told ["self"] (defScope s_Finished_told) := ⟨rfl, rfl, rfl, by decide +kernel, rfl, by decide +kernel, by decide +kernel⟩
def t_Finished_told (K : PySem.W.Frag) : ATS := (aRet (aC (.str (Str.ofString "refused finished"))))
theorem r_Finished_told (T : Txt K mg) {f : Addr} {cdv : Value} {A : Around} {outer : List Env} {s : Shared} {H : Hp} {E : XK} (hr : Room (1 - 1) (XD P w K mg base N_Finished_told "Finished.told" s_Finished_told f cdv A outer s H E).A) : ABk (XD P w K mg base N_Finished_told "Finished.told" s_Finished_told f cdv A outer s H E) (defBody s_Finished_told) (t_Finished_told K) := by
  have hu : (XD P w K mg base N_Finished_told "Finished.told" s_Finished_told f cdv A outer s H E).A.units + 64 + 1 < cLine := by have := hr.un; omega
  have hu1 : (XD P w K mg base N_Finished_told "Finished.told" s_Finished_told f cdv A outer s H E).A.units + 1 < cLine := by omega
  exact (abk_one (ast_ret ae_str))
abbrev s_BadSpan_told : Stmt := inClass (top 9) 0
abbrev N_BadSpan_told : List Str := ["self"]
theorem S_BadSpan_told : FnScope N_BadSpan_told ["self"] (defScope s_BadSpan_told) := ⟨rfl, rfl, rfl, by decide +kernel, rfl, by decide +kernel, by decide +kernel⟩
def t_BadSpan_told (K : PySem.W.Frag) : ATS := (aRet (aC (.str (Str.ofString "refused badspan"))))
theorem r_BadSpan_told (T : Txt K mg) {f : Addr} {cdv : Value} {A : Around} {outer : List Env} {s : Shared} {H : Hp} {E : XK} (hr : Room (1 - 1) (XD P w K mg base N_BadSpan_told "BadSpan.told" s_BadSpan_told f cdv A outer s H E).A) : ABk (XD P w K mg base N_BadSpan_told "BadSpan.told" s_BadSpan_told f cdv A outer s H E) (defBody s_BadSpan_told) (t_BadSpan_told K) := by
  have hu : (XD P w K mg base N_BadSpan_told "BadSpan.told" s_BadSpan_told f cdv A outer s H E).A.units + 64 + 1 < cLine := by have := hr.un; omega
  have hu1 : (XD P w K mg base N_BadSpan_told "BadSpan.told" s_BadSpan_told f cdv A outer s H E).A.units + 1 < cLine := by omega
  exact (abk_one (ast_ret ae_str))
abbrev s__law_state : Stmt := top 12
abbrev N__law_state : List Str := ["source"]
theorem S__law_state : FnScope N__law_state ["source"] (defScope s__law_state) := ⟨rfl, rfl, rfl, by decide +kernel, rfl, by decide +kernel, by decide +kernel⟩
def t__law_state (K : PySem.W.Frag) : ATS := (aSeq (aAsg (aCB cAbs (aCons (aVar 0) aNil)) (agName 0)) (aRet (aLstO (aCons (aOp oMul (aVar 0) (aCB cInt (aCons (aOp (oI fun i j => decide (j ≤ i)) (aVar 0) (aOp oPow (aC (.int 10)) (aC (.int 18)))) aNil))) (aCons (aOp oAdd (aOp oMod (aCB cInt (aCons (aVar 0) aNil)) (aC (.int 2147483629))) (aC (.int 7))) (aCons (aOp oMod (aCB cInt (aCons (aVar 0) aNil)) (aC (.int 2147483587))) aNil))))))
theorem r__law_state (T : Txt K mg) {f : Addr} {cdv : Value} {A : Around} {outer : List Env} {s : Shared} {H : Hp} {E : XK} (hr : Room (1 - 1) (XD P w K mg base N__law_state "_law_state" s__law_state f cdv A outer s H E).A) : ABk (XD P w K mg base N__law_state "_law_state" s__law_state f cdv A outer s H E) (defBody s__law_state) (t__law_state K) := by
  have hu : (XD P w K mg base N__law_state "_law_state" s__law_state f cdv A outer s H E).A.units + 64 + 1 < cLine := by have := hr.un; omega
  have hu1 : (XD P w K mg base N__law_state "_law_state" s__law_state f cdv A outer s H E).A.units + 1 < cLine := by omega
  exact (abk_cons (ast_asg (ae_callB (ca_abs) rfl T.f_abs rfl (aa_cons (av 0) aa_nil) (fun hc ha => pe_callB hc rfl T.f_abs rfl ha)) (ag_name (i := 0) S__law_state.nd rfl (by first | exact Or.inl rfl | exact Or.inr rfl))) (abk_one (ast_ret (ae_lstO (aa_cons (ae_op oa_mul (av 0) (ae_callT ca_int rfl T.f_int rfl (aa_cons (ae_cmp oa_ge (av 0) (ae_op oa_pow ae_int ae_int)) aa_nil) (fun hc ha => pe_callTy hc rfl T.f_int rfl ha))) (aa_cons (ae_op oa_add (ae_op oa_mod (ae_callT ca_int rfl T.f_int rfl (aa_cons (av 0) aa_nil) (fun hc ha => pe_callTy hc rfl T.f_int rfl ha)) ae_int) ae_int) (aa_cons (ae_op oa_mod (ae_callT ca_int rfl T.f_int rfl (aa_cons (av 0) aa_nil) (fun hc ha => pe_callTy hc rfl T.f_int rfl ha)) ae_int) aa_nil)))))))
abbrev s__law_digit : Stmt := top 13
abbrev N__law_digit : List Str := ["state", "base", "mixed", "found"]
theorem S__law_digit : FnScope N__law_digit ["state", "base"] (defScope s__law_digit) := ⟨rfl, rfl, rfl, by decide +kernel, rfl, by decide +kernel, by decide +kernel⟩
def t__law_digit (K : PySem.W.Frag) : ATS := (aSeq (aIfS (aB (aOp (oI fun i j => decide (j < i)) (aOp oIx (aVar 0) (aC (.int 0))) (aC (.int 0)))) (aSeq (aAsg (aOp oMod (aCB cInt (aCons (aOp oIx (aVar 0) (aC (.int 0))) aNil)) (aVar 1)) (agName 3)) (aSeq (aAsg (aOp oDiv (aOp oIx (aVar 0) (aC (.int 0))) (aVar 1)) (agSub (aVar 0) (aC (.int 0)))) (aRet (aVar 3)))) aNext) (aSeq (aAsg (aOp oMul (aOp oIx (aVar 0) (aC (.int 1))) (aOp oAdd (aOp oDiv (aOp oIx (aVar 0) (aC (.int 1))) (aC (.int 1009))) (aC (.int 69621)))) (agName 2)) (aSeq (aAsg (aOp oAdd (aOp oMod (aCB cInt (aCons (aOp oAdd (aVar 2) (aOp oIx (aVar 0) (aC (.int 2)))) aNil)) (aC (.int 2147483629))) (aC (.int 7))) (agSub (aVar 0) (aC (.int 1)))) (aRet (aOp oMod (aCB cInt (aCons (aOp oDiv (aOp oIx (aVar 0) (aC (.int 1))) (aC (.int 97))) aNil)) (aVar 1))))))
theorem r__law_digit (T : Txt K mg) {f : Addr} {cdv : Value} {A : Around} {outer : List Env} {s : Shared} {H : Hp} {E : XK} (hr : Room (1 - 1) (XD P w K mg base N__law_digit "_law_digit" s__law_digit f cdv A outer s H E).A) : ABk (XD P w K mg base N__law_digit "_law_digit" s__law_digit f cdv A outer s H E) (defBody s__law_digit) (t__law_digit K) := by
  have hu : (XD P w K mg base N__law_digit "_law_digit" s__law_digit f cdv A outer s H E).A.units + 64 + 1 < cLine := by have := hr.un; omega
  have hu1 : (XD P w K mg base N__law_digit "_law_digit" s__law_digit f cdv A outer s H E).A.units + 1 < cLine := by omega
  exact (abk_cons (ast_if (at_cmp oa_gt (ae_ix (av 0) ae_int) ae_int) (abk_cons (ast_asg (ae_op oa_mod (ae_callT ca_int rfl T.f_int rfl (aa_cons (ae_ix (av 0) ae_int) aa_nil) (fun hc ha => pe_callTy hc rfl T.f_int rfl ha)) (av 1)) (ag_name (i := 3) S__law_digit.nd rfl (by first | exact Or.inl rfl | exact Or.inr rfl))) (abk_cons (ast_asg (ae_op oa_div (ae_ix (av 0) ae_int) (av 1)) (ag_sub (pg_sub (av 0) ae_int set_list))) (abk_one (ast_ret (av 3))))) abk_nil) (abk_cons (ast_asg (ae_op oa_mul (ae_ix (av 0) ae_int) (ae_op oa_add (ae_op oa_div (ae_ix (av 0) ae_int) ae_int) ae_int)) (ag_name (i := 2) S__law_digit.nd rfl (by first | exact Or.inl rfl | exact Or.inr rfl))) (abk_cons (ast_asg (ae_op oa_add (ae_op oa_mod (ae_callT ca_int rfl T.f_int rfl (aa_cons (ae_op oa_add (av 2) (ae_ix (av 0) ae_int)) aa_nil) (fun hc ha => pe_callTy hc rfl T.f_int rfl ha)) ae_int) ae_int) (ag_sub (pg_sub (av 0) ae_int set_list))) (abk_one (ast_ret (ae_op oa_mod (ae_callT ca_int rfl T.f_int rfl (aa_cons (ae_op oa_div (ae_ix (av 0) ae_int) ae_int) aa_nil) (fun hc ha => pe_callTy hc rfl T.f_int rfl ha)) (av 1)))))))
abbrev s__law_field : Stmt := top 14
abbrev N__law_field : List Str := ["error"]
theorem S__law_field : FnScope N__law_field ["error"] (defScope s__law_field) := ⟨rfl, rfl, rfl, by decide +kernel, rfl, by decide +kernel, by decide +kernel⟩
def t__law_field (K : PySem.W.Frag) : ATS := (aSeq (aIfS (aB (aCB (cIsE XS ise_BadText (.ref (cAt K "BadText"))) (aCons (aVar 0) (aCons (aC (.val (.ref (cAt K "BadText")))) aNil)))) (aRet (aLst (aCons (aFldE XS K (Str.ofString "place") (aVar 0)) aNil))) aNext) (aSeq (aIfS (aB (aCB (cIsE XS ise_BadNode (.ref (cAt K "BadNode"))) (aCons (aVar 0) (aCons (aC (.val (.ref (cAt K "BadNode")))) aNil)))) (aRet (aLst (aCons (aFldE XS K (Str.ofString "what") (aVar 0)) aNil))) aNext) (aSeq (aIfS (aB (aCB (cIsE XS ise_Unsettled (.ref (cAt K "Unsettled"))) (aCons (aVar 0) (aCons (aC (.val (.ref (cAt K "Unsettled")))) aNil)))) (aRet (aLst (aCons (aFldE XS K (Str.ofString "path") (aVar 0)) aNil))) aNext) (aRet (aIf (aB (aCB (cIsE XS ise_NotPlain (.ref (cAt K "NotPlain"))) (aCons (aVar 0) (aCons (aC (.val (.ref (cAt K "NotPlain")))) aNil)))) (aLst (aCons (aFldE XS K (Str.ofString "number") (aVar 0)) aNil)) (aLst aNil))))))
theorem r__law_field (T : Txt K mg) {f : Addr} {cdv : Value} {A : Around} {outer : List Env} {s : Shared} {H : Hp} {E : XK} (hr : Room (1 - 1) (XD P w K mg base N__law_field "_law_field" s__law_field f cdv A outer s H E).A) : ABk (XD P w K mg base N__law_field "_law_field" s__law_field f cdv A outer s H E) (defBody s__law_field) (t__law_field K) := by
  have hu : (XD P w K mg base N__law_field "_law_field" s__law_field f cdv A outer s H E).A.units + 64 + 1 < cLine := by have := hr.un; omega
  have hu1 : (XD P w K mg base N__law_field "_law_field" s__law_field f cdv A outer s H E).A.units + 1 < cLine := by omega
  exact (abk_cons (ast_if (at_val (ae_callB (ca_isE T.xs (fun _ h => h) T.ie_BadText) rfl T.f_isinstance rfl (aa_cons (av 0) (aa_cons (ae_glob (v := .ref (cAt K "BadText")) rfl T.g_BadText rfl (fun _ => .val _)) aa_nil)) (fun hc ha => pe_callB hc rfl T.f_isinstance rfl ha))) (abk_one (ast_ret (ae_lst (aa_cons (ae_fldE T.xs (av 0)) aa_nil)))) abk_nil) (abk_cons (ast_if (at_val (ae_callB (ca_isE T.xs (fun _ h => h) T.ie_BadNode) rfl T.f_isinstance rfl (aa_cons (av 0) (aa_cons (ae_glob (v := .ref (cAt K "BadNode")) rfl T.g_BadNode rfl (fun _ => .val _)) aa_nil)) (fun hc ha => pe_callB hc rfl T.f_isinstance rfl ha))) (abk_one (ast_ret (ae_lst (aa_cons (ae_fldE T.xs (av 0)) aa_nil)))) abk_nil) (abk_cons (ast_if (at_val (ae_callB (ca_isE T.xs (fun _ h => h) T.ie_Unsettled) rfl T.f_isinstance rfl (aa_cons (av 0) (aa_cons (ae_glob (v := .ref (cAt K "Unsettled")) rfl T.g_Unsettled rfl (fun _ => .val _)) aa_nil)) (fun hc ha => pe_callB hc rfl T.f_isinstance rfl ha))) (abk_one (ast_ret (ae_lst (aa_cons (ae_fldE T.xs (av 0)) aa_nil)))) abk_nil) (abk_one (ast_ret (ae_if (at_val (ae_callB (ca_isE T.xs (fun _ h => h) T.ie_NotPlain) rfl T.f_isinstance rfl (aa_cons (av 0) (aa_cons (ae_glob (v := .ref (cAt K "NotPlain")) rfl T.g_NotPlain rfl (fun _ => .val _)) aa_nil)) (fun hc ha => pe_callB hc rfl T.f_isinstance rfl ha))) (ae_lst (aa_cons (ae_fldE T.xs (av 0)) aa_nil)) (ae_lst aa_nil)))))))
abbrev s__law_classes : Stmt := top 15
abbrev N__law_classes : List Str := ["error", "found"]
theorem S__law_classes : FnScope N__law_classes ["error"] (defScope s__law_classes) := ⟨rfl, rfl, rfl, by decide +kernel, rfl, by decide +kernel, by decide +kernel⟩
def t__law_classes (K : PySem.W.Frag) : ATS := (aSeq (aAsg (aLst (aCons (aCB (cIsE XS ise_BadText (.ref (cAt K "BadText"))) (aCons (aVar 0) (aCons (aC (.val (.ref (cAt K "BadText")))) aNil))) (aCons (aCB (cIsE XS ise_BadNode (.ref (cAt K "BadNode"))) (aCons (aVar 0) (aCons (aC (.val (.ref (cAt K "BadNode")))) aNil))) (aCons (aCB (cIsE XS ise_Unsettled (.ref (cAt K "Unsettled"))) (aCons (aVar 0) (aCons (aC (.val (.ref (cAt K "Unsettled")))) aNil))) aNil)))) (agName 1)) (aSeq (aAsg (aOp oAdd (aVar 1) (aLst (aCons (aCB (cIsE XS ise_NotPlain (.ref (cAt K "NotPlain"))) (aCons (aVar 0) (aCons (aC (.val (.ref (cAt K "NotPlain")))) aNil))) (aCons (aCB (cIsE XS ise_Paused (.ref (cAt K "Paused"))) (aCons (aVar 0) (aCons (aC (.val (.ref (cAt K "Paused")))) aNil))) (aCons (aCB (cIsE XS ise_NotPaused (.ref (cAt K "NotPaused"))) (aCons (aVar 0) (aCons (aC (.val (.ref (cAt K "NotPaused")))) aNil))) aNil))))) (agName 1)) (aRet (aOp oAdd (aVar 1) (aLst (aCons (aCB (cIsE XS ise_Finished (.ref (cAt K "Finished"))) (aCons (aVar 0) (aCons (aC (.val (.ref (cAt K "Finished")))) aNil))) (aCons (aCB (cIsE XS ise_BadSpan (.ref (cAt K "BadSpan"))) (aCons (aVar 0) (aCons (aC (.val (.ref (cAt K "BadSpan")))) aNil))) aNil)))))))
theorem r__law_classes (T : Txt K mg) {f : Addr} {cdv : Value} {A : Around} {outer : List Env} {s : Shared} {H : Hp} {E : XK} (hr : Room (1 - 1) (XD P w K mg base N__law_classes "_law_classes" s__law_classes f cdv A outer s H E).A) : ABk (XD P w K mg base N__law_classes "_law_classes" s__law_classes f cdv A outer s H E) (defBody s__law_classes) (t__law_classes K) := by
  have hu : (XD P w K mg base N__law_classes "_law_classes" s__law_classes f cdv A outer s H E).A.units + 64 + 1 < cLine := by have := hr.un; omega
  have hu1 : (XD P w K mg base N__law_classes "_law_classes" s__law_classes f cdv A outer s H E).A.units + 1 < cLine := by omega
  exact (abk_cons (ast_asg (ae_lst (aa_cons (ae_callB (ca_isE T.xs (fun _ h => h) T.ie_BadText) rfl T.f_isinstance rfl (aa_cons (av 0) (aa_cons (ae_glob (v := .ref (cAt K "BadText")) rfl T.g_BadText rfl (fun _ => .val _)) aa_nil)) (fun hc ha => pe_callB hc rfl T.f_isinstance rfl ha)) (aa_cons (ae_callB (ca_isE T.xs (fun _ h => h) T.ie_BadNode) rfl T.f_isinstance rfl (aa_cons (av 0) (aa_cons (ae_glob (v := .ref (cAt K "BadNode")) rfl T.g_BadNode rfl (fun _ => .val _)) aa_nil)) (fun hc ha => pe_callB hc rfl T.f_isinstance rfl ha)) (aa_cons (ae_callB (ca_isE T.xs (fun _ h => h) T.ie_Unsettled) rfl T.f_isinstance rfl (aa_cons (av 0) (aa_cons (ae_glob (v := .ref (cAt K "Unsettled")) rfl T.g_Unsettled rfl (fun _ => .val _)) aa_nil)) (fun hc ha => pe_callB hc rfl T.f_isinstance rfl ha)) aa_nil)))) (ag_name (i := 1) S__law_classes.nd rfl (by first | exact Or.inl rfl | exact Or.inr rfl))) (abk_cons (ast_asg (ae_op oa_add (av 1) (ae_lst (aa_cons (ae_callB (ca_isE T.xs (fun _ h => h) T.ie_NotPlain) rfl T.f_isinstance rfl (aa_cons (av 0) (aa_cons (ae_glob (v := .ref (cAt K "NotPlain")) rfl T.g_NotPlain rfl (fun _ => .val _)) aa_nil)) (fun hc ha => pe_callB hc rfl T.f_isinstance rfl ha)) (aa_cons (ae_callB (ca_isE T.xs (fun _ h => h) T.ie_Paused) rfl T.f_isinstance rfl (aa_cons (av 0) (aa_cons (ae_glob (v := .ref (cAt K "Paused")) rfl T.g_Paused rfl (fun _ => .val _)) aa_nil)) (fun hc ha => pe_callB hc rfl T.f_isinstance rfl ha)) (aa_cons (ae_callB (ca_isE T.xs (fun _ h => h) T.ie_NotPaused) rfl T.f_isinstance rfl (aa_cons (av 0) (aa_cons (ae_glob (v := .ref (cAt K "NotPaused")) rfl T.g_NotPaused rfl (fun _ => .val _)) aa_nil)) (fun hc ha => pe_callB hc rfl T.f_isinstance rfl ha)) aa_nil))))) (ag_name (i := 1) S__law_classes.nd rfl (by first | exact Or.inl rfl | exact Or.inr rfl))) (abk_one (ast_ret (ae_op oa_add (av 1) (ae_lst (aa_cons (ae_callB (ca_isE T.xs (fun _ h => h) T.ie_Finished) rfl T.f_isinstance rfl (aa_cons (av 0) (aa_cons (ae_glob (v := .ref (cAt K "Finished")) rfl T.g_Finished rfl (fun _ => .val _)) aa_nil)) (fun hc ha => pe_callB hc rfl T.f_isinstance rfl ha)) (aa_cons (ae_callB (ca_isE T.xs (fun _ h => h) T.ie_BadSpan) rfl T.f_isinstance rfl (aa_cons (av 0) (aa_cons (ae_glob (v := .ref (cAt K "BadSpan")) rfl T.g_BadSpan rfl (fun _ => .val _)) aa_nil)) (fun hc ha => pe_callB hc rfl T.f_isinstance rfl ha)) aa_nil))))))))
abbrev s_law : Stmt := top 16
abbrev N_law : List Str := ["script", "cell", "s", "x", "errors", "words", "at", "error", "k"]
theorem S_law : FnScope N_law ["script"] (defScope s_law) := ⟨rfl, rfl, rfl, by decide +kernel, rfl, by decide +kernel, by decide +kernel⟩
def t_law (K : PySem.W.Frag) : ATS := (aSeq (aFor (iSeq (aSl (aOp oAdd (aVar 0) (aLst (aCons (aC (.int 0)) aNil))) aNoPart (aPart (aC (.int 3))))) (agName 1) (aSeq (aAsg (aCall sp__law_state [] (aCons (aVar 1) aNil)) (agName 2)) (aSeq (aAsg (aOp oIx (aLst (aCons (aCall1 sp__law_digit [] (aCons (aVar 2) (aCons (aC (.int 100)) aNil))) (aCons (aC .non) (aCons (aC (.str (Str.ofString "name"))) (aCons (aTup (aCons (aC (.int 0)) (aCons (aC (.int 1)) aNil))) (aCons (aLst (aCons (aC (.int 2)) (aCons (aLst (aCons (aC (.int 3)) aNil)) aNil))) (aCons (aNeg (aC (.int 5))) aNil))))))) (aCall1 sp__law_digit [] (aCons (aVar 2) (aCons (aC (.int 6)) aNil)))) (agName 3)) (aSeq (aAsg (aLst (aCons (aMkE "BadText" (Str.ofString "place") (aCons (aVar 3) aNil)) (aCons (aMkE "BadNode" (Str.ofString "what") (aCons (aVar 3) aNil)) (aCons (aMkE "Unsettled" (Str.ofString "path") (aCons (aVar 3) aNil)) (aCons (aMkE "NotPlain" (Str.ofString "number") (aCons (aVar 3) aNil)) (aCons (aMkE0 "Paused") (aCons (aMkE0 "NotPaused") (aCons (aMkE0 "Finished") (aCons (aMkE0 "BadSpan") aNil))))))))) (agName 4)) (aSeq (aAsg (aLst (aCons (aC (.str (Str.ofString "badtext"))) (aCons (aC (.str (Str.ofString "badnode"))) (aCons (aC (.str (Str.ofString "unsettled"))) (aCons (aC (.str (Str.ofString "notplain"))) (aCons (aC (.str (Str.ofString "paused"))) (aCons (aC (.str (Str.ofString "notpaused"))) (aCons (aC (.str (Str.ofString "finished"))) (aCons (aC (.str (Str.ofString "badspan"))) aNil))))))))) (agName 5)) (aFor (fun as os κ => iEnumL (aCons (aVar 4) aNil) as os κ ∨ iEnumT (aCons (aVar 4) aNil) as os κ) (agTup [6, 7]) (aSeq (aIfS (aOr (aB (aOp (oE true) (fun as os κ => (aMethE "BadText" (Str.ofString "told") sp_BadText_told (aVar 7)) as os κ ∨ (fun as os κ => (aMethE "BadNode" (Str.ofString "told") sp_BadNode_told (aVar 7)) as os κ ∨ (fun as os κ => (aMethE "Unsettled" (Str.ofString "told") sp_Unsettled_told (aVar 7)) as os κ ∨ (fun as os κ => (aMethE "NotPlain" (Str.ofString "told") sp_NotPlain_told (aVar 7)) as os κ ∨ (fun as os κ => (aMethE "Paused" (Str.ofString "told") sp_Paused_told (aVar 7)) as os κ ∨ (fun as os κ => (aMethE "NotPaused" (Str.ofString "told") sp_NotPaused_told (aVar 7)) as os κ ∨ (fun as os κ => (aMethE "Finished" (Str.ofString "told") sp_Finished_told (aVar 7)) as os κ ∨ (aMethE "BadSpan" (Str.ofString "told") sp_BadSpan_told (aVar 7)) as os κ) as os κ) as os κ) as os κ) as os κ) as os κ) as os κ) (aOp oAdd (aC (.str (Str.ofString "refused "))) (aOp oIx (aVar 5) (aVar 6))))) (aB (aOp (oE true) (aCall sp__law_field [] (aCons (aVar 7) aNil)) (aOp oMul (aLst (aCons (aVar 3) aNil)) (aCB cInt (aCons (aOp (oI fun i j => decide (i < j)) (aVar 6) (aC (.int 4))) aNil)))))) (aRet (aC (.bl false))) aNext) (aSeq (aIfS (aOr (aNot (aB (aCB (cIsE XS ise_TagError (.ref (cAt K "TagError"))) (aCons (aVar 7) (aCons (aC (.val (.ref (cAt K "TagError")))) aNil))))) (aNot (aB (aCB (cIsE XS ise_ValueError (.ty "ValueError")) (aCons (aVar 7) (aCons (aC (.val (.ty "ValueError"))) aNil)))))) (aRet (aC (.bl false))) aNext) (aIfS (aB (aOp (oE true) (aCall sp__law_classes [] (aCons (aVar 7) aNil)) (aLc (iRange1 (aCons (aCB cLen (aCons (aVar 4) aNil)) aNil)) (.nm 8) aYes (aOp (oE false) (aVar 8) (aVar 6)) [8]))) (aRet (aC (.bl false))) aNext))))))))) (aRet (aC (.bl true))))
theorem r_law (T : Txt K mg)
    (c__law_state : Cl P w K mg base 1 "_law_state" sp__law_state [])
    (c__law_digit : Cl P w K mg base 1 "_law_digit" sp__law_digit [])
    (xe_NotPlain : MxE P w K mg base 1 "NotPlain" "NotPlain" (Str.ofString "number"))
    (xe_Unsettled : MxE P w K mg base 1 "Unsettled" "Unsettled" (Str.ofString "path"))
    (xe_BadNode : MxE P w K mg base 1 "BadNode" "BadNode" (Str.ofString "what"))
    (xe_BadText : MxE P w K mg base 1 "BadText" "BadText" (Str.ofString "place"))
    (me_BadText_told : MtE P w K mg base 1 "BadText" "told" sp_BadText_told)
    (me_BadNode_told : MtE P w K mg base 1 "BadNode" "told" sp_BadNode_told)
    (me_Unsettled_told : MtE P w K mg base 1 "Unsettled" "told" sp_Unsettled_told)
    (me_NotPlain_told : MtE P w K mg base 1 "NotPlain" "told" sp_NotPlain_told)
    (me_Paused_told : MtE P w K mg base 1 "Paused" "told" sp_Paused_told)
    (me_NotPaused_told : MtE P w K mg base 1 "NotPaused" "told" sp_NotPaused_told)
    (me_Finished_told : MtE P w K mg base 1 "Finished" "told" sp_Finished_told)
    (me_BadSpan_told : MtE P w K mg base 1 "BadSpan" "told" sp_BadSpan_told)
    (c__law_field : Cl P w K mg base 1 "_law_field" sp__law_field [])
    (c__law_classes : Cl P w K mg base 1 "_law_classes" sp__law_classes []) {f : Addr} {cdv : Value} {A : Around} {outer : List Env} {s : Shared} {H : Hp} {E : XK} (hr : Room (4 - 1) (XD P w K mg base N_law "law" s_law f cdv A outer s H E).A) : ABk (XD P w K mg base N_law "law" s_law f cdv A outer s H E) (defBody s_law) (t_law K) := by
  have hu : (XD P w K mg base N_law "law" s_law f cdv A outer s H E).A.units + 64 + 1 < cLine := by have := hr.un; omega
  have hu1 : (XD P w K mg base N_law "law" s_law f cdv A outer s H E).A.units + 1 < cLine := by omega
  exact (abk_cons (ast_for PassesOwn.never rfl (ai_seq (ae_slice (ae_op oa_add (av 0) (ae_lst (aa_cons ae_int aa_nil))) ao_none (ao_some ae_int))) (ag_name (i := 1) S_law.nd rfl (by first | exact Or.inl rfl | exact Or.inr rfl)) (abk_cons (ast_asg (ae_c c__law_state hr (by omega) rfl (aa_cons (av 1) aa_nil)) (ag_name (i := 2) S_law.nd rfl (by first | exact Or.inl rfl | exact Or.inr rfl))) (abk_cons (ast_asg (ae_ix (ae_lst (aa_cons (ae_c1 c__law_digit hr (by omega) rfl (aa_cons (av 2) (aa_cons ae_int aa_nil))) (aa_cons ae_non (aa_cons ae_str (aa_cons (ae_tup (aa_cons ae_int (aa_cons ae_int aa_nil))) (aa_cons (ae_lst (aa_cons ae_int (aa_cons (ae_lst (aa_cons ae_int aa_nil)) aa_nil))) (aa_cons (ae_neg ae_int) aa_nil))))))) (ae_c1 c__law_digit hr (by omega) rfl (aa_cons (av 2) (aa_cons ae_int aa_nil)))) (ag_name (i := 3) S_law.nd rfl (by first | exact Or.inl rfl | exact Or.inr rfl))) (abk_cons (ast_asg (ae_lst (aa_cons (ae_mkE xe_BadText hr (by omega) rfl (aa_cons (av 3) aa_nil)) (aa_cons (ae_mkE xe_BadNode hr (by omega) rfl (aa_cons (av 3) aa_nil)) (aa_cons (ae_mkE xe_Unsettled hr (by omega) rfl (aa_cons (av 3) aa_nil)) (aa_cons (ae_mkE xe_NotPlain hr (by omega) rfl (aa_cons (av 3) aa_nil)) (aa_cons (ae_mkE0 (T.xs _ (by decide)) T.q_Paused T.g_Paused rfl) (aa_cons (ae_mkE0 (T.xs _ (by decide)) T.q_NotPaused T.g_NotPaused rfl) (aa_cons (ae_mkE0 (T.xs _ (by decide)) T.q_Finished T.g_Finished rfl) (aa_cons (ae_mkE0 (T.xs _ (by decide)) T.q_BadSpan T.g_BadSpan rfl) aa_nil))))))))) (ag_name (i := 4) S_law.nd rfl (by first | exact Or.inl rfl | exact Or.inr rfl))) (abk_cons (ast_asg (ae_lst (aa_cons ae_str (aa_cons ae_str (aa_cons ae_str (aa_cons ae_str (aa_cons ae_str (aa_cons ae_str (aa_cons ae_str (aa_cons ae_str aa_nil))))))))) (ag_name (i := 5) S_law.nd rfl (by first | exact Or.inl rfl | exact Or.inr rfl))) (abk_one (ast_for PassesOwn.never rfl (AIt.or (ai_enum rfl T.f_enumerate (aa_cons (av 4) aa_nil)) (ai_enumT rfl T.f_enumerate (aa_cons (av 4) aa_nil))) (ag_tup (is := [6, 7]) (pg_tup rfl (pgs_cons (pg_name (i := 6) S_law.nd rfl (by first | exact Or.inl rfl | exact Or.inr rfl)) (pgs_cons (pg_name (i := 7) S_law.nd rfl (by first | exact Or.inl rfl | exact Or.inr rfl)) pgs_nil)))) (abk_cons (ast_if (AW.at (aw_or (at_cmp (oa_n hu) (ae_or (ae_mE me_BadText_told hr (by omega) (av 7)) (ae_or (ae_mE me_BadNode_told hr (by omega) (av 7)) (ae_or (ae_mE me_Unsettled_told hr (by omega) (av 7)) (ae_or (ae_mE me_NotPlain_told hr (by omega) (av 7)) (ae_or (ae_mE me_Paused_told hr (by omega) (av 7)) (ae_or (ae_mE me_NotPaused_told hr (by omega) (av 7)) (ae_or (ae_mE me_Finished_told hr (by omega) (av 7)) (ae_mE me_BadSpan_told hr (by omega) (av 7))))))))) (ae_op oa_add ae_str (ae_ix (av 5) (av 6)))) (aw_or1 (at_cmp (oa_n hu) (ae_c c__law_field hr (by omega) rfl (aa_cons (av 7) aa_nil)) (ae_op oa_mul (ae_lst (aa_cons (av 3) aa_nil)) (ae_callT ca_int rfl T.f_int rfl (aa_cons (ae_cmp oa_lt (av 6) ae_int) aa_nil) (fun hc ha => pe_callTy hc rfl T.f_int rfl ha))))))) (abk_one (ast_ret ae_bl)) abk_nil) (abk_cons (ast_if (AW.at (aw_or (at_not (at_val (ae_callB (ca_isE T.xs (fun _ h => h) T.ie_TagError) rfl T.f_isinstance rfl (aa_cons (av 7) (aa_cons (ae_glob (v := .ref (cAt K "TagError")) rfl T.g_TagError rfl (fun _ => .val _)) aa_nil)) (fun hc ha => pe_callB hc rfl T.f_isinstance rfl ha)))) (aw_or1 (at_not (at_val (ae_callB (ca_isE T.xs (fun _ h => h) T.ie_ValueError) rfl T.f_isinstance rfl (aa_cons (av 7) (aa_cons (ae_bltn (v := .ty "ValueError") rfl T.f_ValueError rfl rfl) aa_nil)) (fun hc ha => pe_callB hc rfl T.f_isinstance rfl ha))))))) (abk_one (ast_ret ae_bl)) abk_nil) (abk_one (ast_if (at_cmp (oa_n hu) (ae_c c__law_classes hr (by omega) rfl (aa_cons (av 7) aa_nil)) (ae_lc (own := [(Str.ofString "k", 8)]) (tgt := (.nm 8)) (tt := aYes) (te := (aOp (oE false) (aVar 8) (aVar 6))) rfl S_law.nd (ai_range1 rfl T.f_range (aa_cons (ae_callB (ca_len) rfl T.f_len rfl (aa_cons (av 4) aa_nil) (fun hc ha => pe_callB hc rfl T.f_len rfl ha)) aa_nil)) (blk_ok (N := N_law) (sc := defScope s_law) rfl (by kernel_rfl)) (by decide) (fun _ _ _ _ _ => (pg_name (i := 8) S_law.nd rfl (by first | exact Or.inl rfl | exact Or.inr rfl))) (fun _ _ _ _ _ => ats_nil) (fun _ _ _ _ _ => (ae_cmp (oa_e hu) (av 8) (av 6))))) (abk_one (ast_ret ae_bl)) abk_nil))))))))))) (abk_one (ast_ret ae_bl)))
end
end K1

end

section
set_option Elab.async false
set_option linter.all false
set_option maxRecDepth 100000
set_option maxHeartbeats 4000000
namespace K1
open PySem PySem.Spec PyProof.Rows L2 Evl AB
variable {P : Program} {w : World} {K : PySem.W.Frag} {mg : Str → Option Value} {base : Heap}

theorem p_BadText_told (T : Txt K mg) : BodyOk P w K mg base N_BadText_told "BadText.told" s_BadText_told 0 sp_BadText_told := by
  intro f cdv A outer s H E hr
  refine ⟨_, r_BadText_told T hr, ?_⟩
  rintro _ os κ ⟨gs, rfl, h⟩
  simp [aSeq, aIfS, aB_eq, blR_p, aOp, aVar, aStart, aC, aRet, aRetN, aDrop, aNext, aNever, aAsg, agName, agTup, agSub, setAll, aPar_cons, aCall, aCall1_eq, call1R_1, call1R_2, aMake, aMeth_eq, methR_p, resP, res1, resM, toOne, aCons, aNil, aTup, aLst, aLstO, oAdd_eq, addK_ii, addK_ss, addK_ll, addK_fl, addK_tt, oSub, oMul_eq, mulK_ii, mulK_li, oMod, oDiv, oI, oE, oIs, oInI, oIxI, oIx_eq, ixK_l, ixK_t, ixK_f, ixK_s, aNeg, aChain_eq, aAndV_eq, aOrV_eq, aNotV_eq, aAnd, aOr, aNot, aIf, aBM, mAppend, mExtend, mPop, aJoin, aCB, cLen_1, lenK_l, lenK_t, lenK_f, lenK_s, lenK_d, cOrd, cInt_1, intK_i, intK_b, cAbs, cTuple, cList, cAll, cIsi, aIsT, aFld_eq, fldR_p, fldR_of, aSetF_eq, setFR_o, setFO_i, ofS_inj, lk_hit, lk_miss, putA, aSl, aPart, aNoPart, oSl_eq, slK_l, slK_f, slK_t, slK_s, aRev, aFrz, unown, aGet2, aPut, aDisp, iSeq, iText, iRange1, iRange2, iEnumL, iEnumT, pm_nil, pm_cons, flatA, tV, isQ_non, isQ_bl, isQ_int, isQ_str, isQ_lst, isQ_frz, isQ_tup, isQ_dic, isQ_ins, okQ_non, okQ_bl, okQ_int, okQ_str, okQ_lst, okQ_frz, okQ_tup, okQ_dic, okQ_ins, isN_non, isN_bl, isN_int, isN_str, isN_lst, isN_tup, isN_ins, dr_p, dr_own', drO_l, drO_d, drO_i, eqK_ii, eqK_ss, eqK_bb, eqK_is, eqK_si, eqK_nn, eqK_ns, eqK_sn, eqK_ni, eqK_in, eqK_l0, eqK_t0, aFor_eq, aLc_eq, gA_nm, gA_tp, wipeA, oIn, atI_0, atI_1, atI_2, atI_3, atI_4, atI_m1, sizeLine_eq, and_assoc, os_same, os_ne, os_app, t_BadText_told]
  exact h
theorem p_BadNode_told (T : Txt K mg) : BodyOk P w K mg base N_BadNode_told "BadNode.told" s_BadNode_told 0 sp_BadNode_told := by
  intro f cdv A outer s H E hr
  refine ⟨_, r_BadNode_told T hr, ?_⟩
  rintro _ os κ ⟨gs, rfl, h⟩
  simp [aSeq, aIfS, aB_eq, blR_p, aOp, aVar, aStart, aC, aRet, aRetN, aDrop, aNext, aNever, aAsg, agName, agTup, agSub, setAll, aPar_cons, aCall, aCall1_eq, call1R_1, call1R_2, aMake, aMeth_eq, methR_p, resP, res1, resM, toOne, aCons, aNil, aTup, aLst, aLstO, oAdd_eq, addK_ii, addK_ss, addK_ll, addK_fl, addK_tt, oSub, oMul_eq, mulK_ii, mulK_li, oMod, oDiv, oI, oE, oIs, oInI, oIxI, oIx_eq, ixK_l, ixK_t, ixK_f, ixK_s, aNeg, aChain_eq, aAndV_eq, aOrV_eq, aNotV_eq, aAnd, aOr, aNot, aIf, aBM, mAppend, mExtend, mPop, aJoin, aCB, cLen_1, lenK_l, lenK_t, lenK_f, lenK_s, lenK_d, cOrd, cInt_1, intK_i, intK_b, cAbs, cTuple, cList, cAll, cIsi, aIsT, aFld_eq, fldR_p, fldR_of, aSetF_eq, setFR_o, setFO_i, ofS_inj, lk_hit, lk_miss, putA, aSl, aPart, aNoPart, oSl_eq, slK_l, slK_f, slK_t, slK_s, aRev, aFrz, unown, aGet2, aPut, aDisp, iSeq, iText, iRange1, iRange2, iEnumL, iEnumT, pm_nil, pm_cons, flatA, tV, isQ_non, isQ_bl, isQ_int, isQ_str, isQ_lst, isQ_frz, isQ_tup, isQ_dic, isQ_ins, okQ_non, okQ_bl, okQ_int, okQ_str, okQ_lst, okQ_frz, okQ_tup, okQ_dic, okQ_ins, isN_non, isN_bl, isN_int, isN_str, isN_lst, isN_tup, isN_ins, dr_p, dr_own', drO_l, drO_d, drO_i, eqK_ii, eqK_ss, eqK_bb, eqK_is, eqK_si, eqK_nn, eqK_ns, eqK_sn, eqK_ni, eqK_in, eqK_l0, eqK_t0, aFor_eq, aLc_eq, gA_nm, gA_tp, wipeA, oIn, atI_0, atI_1, atI_2, atI_3, atI_4, atI_m1, sizeLine_eq, and_assoc, os_same, os_ne, os_app, t_BadNode_told]
  exact h
theorem p_Unsettled_told (T : Txt K mg) : BodyOk P w K mg base N_Unsettled_told "Unsettled.told" s_Unsettled_told 0 sp_Unsettled_told := by
  intro f cdv A outer s H E hr
  refine ⟨_, r_Unsettled_told T hr, ?_⟩
  rintro _ os κ ⟨gs, rfl, h⟩
  simp [aSeq, aIfS, aB_eq, blR_p, aOp, aVar, aStart, aC, aRet, aRetN, aDrop, aNext, aNever, aAsg, agName, agTup, agSub, setAll, aPar_cons, aCall, aCall1_eq, call1R_1, call1R_2, aMake, aMeth_eq, methR_p, resP, res1, resM, toOne, aCons, aNil, aTup, aLst, aLstO, oAdd_eq, addK_ii, addK_ss, addK_ll, addK_fl, addK_tt, oSub, oMul_eq, mulK_ii, mulK_li, oMod, oDiv, oI, oE, oIs, oInI, oIxI, oIx_eq, ixK_l, ixK_t, ixK_f, ixK_s, aNeg, aChain_eq, aAndV_eq, aOrV_eq, aNotV_eq, aAnd, aOr, aNot, aIf, aBM, mAppend, mExtend, mPop, aJoin, aCB, cLen_1, lenK_l, lenK_t, lenK_f, lenK_s, lenK_d, cOrd, cInt_1, intK_i, intK_b, cAbs, cTuple, cList, cAll, cIsi, aIsT, aFld_eq, fldR_p, fldR_of, aSetF_eq, setFR_o, setFO_i, ofS_inj, lk_hit, lk_miss, putA, aSl, aPart, aNoPart, oSl_eq, slK_l, slK_f, slK_t, slK_s, aRev, aFrz, unown, aGet2, aPut, aDisp, iSeq, iText, iRange1, iRange2, iEnumL, iEnumT, pm_nil, pm_cons, flatA, tV, isQ_non, isQ_bl, isQ_int, isQ_str, isQ_lst, isQ_frz, isQ_tup, isQ_dic, isQ_ins, okQ_non, okQ_bl, okQ_int, okQ_str, okQ_lst, okQ_frz, okQ_tup, okQ_dic, okQ_ins, isN_non, isN_bl, isN_int, isN_str, isN_lst, isN_tup, isN_ins, dr_p, dr_own', drO_l, drO_d, drO_i, eqK_ii, eqK_ss, eqK_bb, eqK_is, eqK_si, eqK_nn, eqK_ns, eqK_sn, eqK_ni, eqK_in, eqK_l0, eqK_t0, aFor_eq, aLc_eq, gA_nm, gA_tp, wipeA, oIn, atI_0, atI_1, atI_2, atI_3, atI_4, atI_m1, sizeLine_eq, and_assoc, os_same, os_ne, os_app, t_Unsettled_told]
  exact h
theorem p_NotPlain_told (T : Txt K mg) : BodyOk P w K mg base N_NotPlain_told "NotPlain.told" s_NotPlain_told 0 sp_NotPlain_told := by
  intro f cdv A outer s H E hr
  refine ⟨_, r_NotPlain_told T hr, ?_⟩
  rintro _ os κ ⟨gs, rfl, h⟩
  simp [aSeq, aIfS, aB_eq, blR_p, aOp, aVar, aStart, aC, aRet, aRetN, aDrop, aNext, aNever, aAsg, agName, agTup, agSub, setAll, aPar_cons, aCall, aCall1_eq, call1R_1, call1R_2, aMake, aMeth_eq, methR_p, resP, res1, resM, toOne, aCons, aNil, aTup, aLst, aLstO, oAdd_eq, addK_ii, addK_ss, addK_ll, addK_fl, addK_tt, oSub, oMul_eq, mulK_ii, mulK_li, oMod, oDiv, oI, oE, oIs, oInI, oIxI, oIx_eq, ixK_l, ixK_t, ixK_f, ixK_s, aNeg, aChain_eq, aAndV_eq, aOrV_eq, aNotV_eq, aAnd, aOr, aNot, aIf, aBM, mAppend, mExtend, mPop, aJoin, aCB, cLen_1, lenK_l, lenK_t, lenK_f, lenK_s, lenK_d, cOrd, cInt_1, intK_i, intK_b, cAbs, cTuple, cList, cAll, cIsi, aIsT, aFld_eq, fldR_p, fldR_of, aSetF_eq, setFR_o, setFO_i, ofS_inj, lk_hit, lk_miss, putA, aSl, aPart, aNoPart, oSl_eq, slK_l, slK_f, slK_t, slK_s, aRev, aFrz, unown, aGet2, aPut, aDisp, iSeq, iText, iRange1, iRange2, iEnumL, iEnumT, pm_nil, pm_cons, flatA, tV, isQ_non, isQ_bl, isQ_int, isQ_str, isQ_lst, isQ_frz, isQ_tup, isQ_dic, isQ_ins, okQ_non, okQ_bl, okQ_int, okQ_str, okQ_lst, okQ_frz, okQ_tup, okQ_dic, okQ_ins, isN_non, isN_bl, isN_int, isN_str, isN_lst, isN_tup, isN_ins, dr_p, dr_own', drO_l, drO_d, drO_i, eqK_ii, eqK_ss, eqK_bb, eqK_is, eqK_si, eqK_nn, eqK_ns, eqK_sn, eqK_ni, eqK_in, eqK_l0, eqK_t0, aFor_eq, aLc_eq, gA_nm, gA_tp, wipeA, oIn, atI_0, atI_1, atI_2, atI_3, atI_4, atI_m1, sizeLine_eq, and_assoc, os_same, os_ne, os_app, t_NotPlain_told]
  exact h
theorem p_Paused_told (T : Txt K mg) : BodyOk P w K mg base N_Paused_told "Paused.told" s_Paused_told 0 sp_Paused_told := by
  intro f cdv A outer s H E hr
  refine ⟨_, r_Paused_told T hr, ?_⟩
  rintro _ os κ ⟨gs, rfl, h⟩
  simp [aSeq, aIfS, aB_eq, blR_p, aOp, aVar, aStart, aC, aRet, aRetN, aDrop, aNext, aNever, aAsg, agName, agTup, agSub, setAll, aPar_cons, aCall, aCall1_eq, call1R_1, call1R_2, aMake, aMeth_eq, methR_p, resP, res1, resM, toOne, aCons, aNil, aTup, aLst, aLstO, oAdd_eq, addK_ii, addK_ss, addK_ll, addK_fl, addK_tt, oSub, oMul_eq, mulK_ii, mulK_li, oMod, oDiv, oI, oE, oIs, oInI, oIxI, oIx_eq, ixK_l, ixK_t, ixK_f, ixK_s, aNeg, aChain_eq, aAndV_eq, aOrV_eq, aNotV_eq, aAnd, aOr, aNot, aIf, aBM, mAppend, mExtend, mPop, aJoin, aCB, cLen_1, lenK_l, lenK_t, lenK_f, lenK_s, lenK_d, cOrd, cInt_1, intK_i, intK_b, cAbs, cTuple, cList, cAll, cIsi, aIsT, aFld_eq, fldR_p, fldR_of, aSetF_eq, setFR_o, setFO_i, ofS_inj, lk_hit, lk_miss, putA, aSl, aPart, aNoPart, oSl_eq, slK_l, slK_f, slK_t, slK_s, aRev, aFrz, unown, aGet2, aPut, aDisp, iSeq, iText, iRange1, iRange2, iEnumL, iEnumT, pm_nil, pm_cons, flatA, tV, isQ_non, isQ_bl, isQ_int, isQ_str, isQ_lst, isQ_frz, isQ_tup, isQ_dic, isQ_ins, okQ_non, okQ_bl, okQ_int, okQ_str, okQ_lst, okQ_frz, okQ_tup, okQ_dic, okQ_ins, isN_non, isN_bl, isN_int, isN_str, isN_lst, isN_tup, isN_ins, dr_p, dr_own', drO_l, drO_d, drO_i, eqK_ii, eqK_ss, eqK_bb, eqK_is, eqK_si, eqK_nn, eqK_ns, eqK_sn, eqK_ni, eqK_in, eqK_l0, eqK_t0, aFor_eq, aLc_eq, gA_nm, gA_tp, wipeA, oIn, atI_0, atI_1, atI_2, atI_3, atI_4, atI_m1, sizeLine_eq, and_assoc, os_same, os_ne, os_app, t_Paused_told]
  exact h
theorem p_NotPaused_told (T : Txt K mg) : BodyOk P w K mg base N_NotPaused_told "NotPaused.told" s_NotPaused_told 0 sp_NotPaused_told := by
  intro f cdv A outer s H E hr
  refine ⟨_, r_NotPaused_told T hr, ?_⟩
  rintro _ os κ ⟨gs, rfl, h⟩
  simp [aSeq, aIfS, aB_eq, blR_p, aOp, aVar, aStart, aC, aRet, aRetN, aDrop, aNext, aNever, aAsg, agName, agTup, agSub, setAll, aPar_cons, aCall, aCall1_eq, call1R_1, call1R_2, aMake, aMeth_eq, methR_p, resP, res1, resM, toOne, aCons, aNil, aTup, aLst, aLstO, oAdd_eq, addK_ii, addK_ss, addK_ll, addK_fl, addK_tt, oSub, oMul_eq, mulK_ii, mulK_li, oMod, oDiv, oI, oE, oIs, oInI, oIxI, oIx_eq, ixK_l, ixK_t, ixK_f, ixK_s, aNeg, aChain_eq, aAndV_eq, aOrV_eq, aNotV_eq, aAnd, aOr, aNot, aIf, aBM, mAppend, mExtend, mPop, aJoin, aCB, cLen_1, lenK_l, lenK_t, lenK_f, lenK_s, lenK_d, cOrd, cInt_1, intK_i, intK_b, cAbs, cTuple, cList, cAll, cIsi, aIsT, aFld_eq, fldR_p, fldR_of, aSetF_eq, setFR_o, setFO_i, ofS_inj, lk_hit, lk_miss, putA, aSl, aPart, aNoPart, oSl_eq, slK_l, slK_f, slK_t, slK_s, aRev, aFrz, unown, aGet2, aPut, aDisp, iSeq, iText, iRange1, iRange2, iEnumL, iEnumT, pm_nil, pm_cons, flatA, tV, isQ_non, isQ_bl, isQ_int, isQ_str, isQ_lst, isQ_frz, isQ_tup, isQ_dic, isQ_ins, okQ_non, okQ_bl, okQ_int, okQ_str, okQ_lst, okQ_frz, okQ_tup, okQ_dic, okQ_ins, isN_non, isN_bl, isN_int, isN_str, isN_lst, isN_tup, isN_ins, dr_p, dr_own', drO_l, drO_d, drO_i, eqK_ii, eqK_ss, eqK_bb, eqK_is, eqK_si, eqK_nn, eqK_ns, eqK_sn, eqK_ni, eqK_in, eqK_l0, eqK_t0, aFor_eq, aLc_eq, gA_nm, gA_tp, wipeA, oIn, atI_0, atI_1, atI_2, atI_3, atI_4, atI_m1, sizeLine_eq, and_assoc, os_same, os_ne, os_app, t_NotPaused_told]
  exact h
theorem p_Finished_told (T : Txt K mg) : BodyOk P w K mg base N_Finished_told "Finished.told" s_Finished_told 0 sp_Finished_told := by
  intro f cdv A outer s H E hr
  refine ⟨_, r_Finished_told T hr, ?_⟩
  rintro _ os κ ⟨gs, rfl, h⟩
  simp [aSeq, aIfS, aB_eq, blR_p, aOp, aVar, aStart, aC, aRet, aRetN, aDrop, aNext, aNever, aAsg, agName, agTup, agSub, setAll, aPar_cons, aCall, aCall1_eq, call1R_1, call1R_2, aMake, aMeth_eq, methR_p, resP, res1, resM, toOne, aCons, aNil, aTup, aLst, aLstO, oAdd_eq, addK_ii, addK_ss, addK_ll, addK_fl, addK_tt, oSub, oMul_eq, mulK_ii, mulK_li, oMod, oDiv, oI, oE, oIs, oInI, oIxI, oIx_eq, ixK_l, ixK_t, ixK_f, ixK_s, aNeg, aChain_eq, aAndV_eq, aOrV_eq, aNotV_eq, aAnd, aOr, aNot, aIf, aBM, mAppend, mExtend, mPop, aJoin, aCB, cLen_1, lenK_l, lenK_t, lenK_f, lenK_s, lenK_d, cOrd, cInt_1, intK_i, intK_b, cAbs, cTuple, cList, cAll, cIsi, aIsT, aFld_eq, fldR_p, fldR_of, aSetF_eq, setFR_o, setFO_i, ofS_inj, lk_hit, lk_miss, putA, aSl, aPart, aNoPart, oSl_eq, slK_l, slK_f, slK_t, slK_s, aRev, aFrz, unown, aGet2, aPut, aDisp, iSeq, iText, iRange1, iRange2, iEnumL, iEnumT, pm_nil, pm_cons, flatA, tV, isQ_non, isQ_bl, isQ_int, isQ_str, isQ_lst, isQ_frz, isQ_tup, isQ_dic, isQ_ins, okQ_non, okQ_bl, okQ_int, okQ_str, okQ_lst, okQ_frz, okQ_tup, okQ_dic, okQ_ins, isN_non, isN_bl, isN_int, isN_str, isN_lst, isN_tup, isN_ins, dr_p, dr_own', drO_l, drO_d, drO_i, eqK_ii, eqK_ss, eqK_bb, eqK_is, eqK_si, eqK_nn, eqK_ns, eqK_sn, eqK_ni, eqK_in, eqK_l0, eqK_t0, aFor_eq, aLc_eq, gA_nm, gA_tp, wipeA, oIn, atI_0, atI_1, atI_2, atI_3, atI_4, atI_m1, sizeLine_eq, and_assoc, os_same, os_ne, os_app, t_Finished_told]
  exact h
theorem p_BadSpan_told (T : Txt K mg) : BodyOk P w K mg base N_BadSpan_told "BadSpan.told" s_BadSpan_told 0 sp_BadSpan_told := by
  intro f cdv A outer s H E hr
  refine ⟨_, r_BadSpan_told T hr, ?_⟩
  rintro _ os κ ⟨gs, rfl, h⟩
  simp [aSeq, aIfS, aB_eq, blR_p, aOp, aVar, aStart, aC, aRet, aRetN, aDrop, aNext, aNever, aAsg, agName, agTup, agSub, setAll, aPar_cons, aCall, aCall1_eq, call1R_1, call1R_2, aMake, aMeth_eq, methR_p, resP, res1, resM, toOne, aCons, aNil, aTup, aLst, aLstO, oAdd_eq, addK_ii, addK_ss, addK_ll, addK_fl, addK_tt, oSub, oMul_eq, mulK_ii, mulK_li, oMod, oDiv, oI, oE, oIs, oInI, oIxI, oIx_eq, ixK_l, ixK_t, ixK_f, ixK_s, aNeg, aChain_eq, aAndV_eq, aOrV_eq, aNotV_eq, aAnd, aOr, aNot, aIf, aBM, mAppend, mExtend, mPop, aJoin, aCB, cLen_1, lenK_l, lenK_t, lenK_f, lenK_s, lenK_d, cOrd, cInt_1, intK_i, intK_b, cAbs, cTuple, cList, cAll, cIsi, aIsT, aFld_eq, fldR_p, fldR_of, aSetF_eq, setFR_o, setFO_i, ofS_inj, lk_hit, lk_miss, putA, aSl, aPart, aNoPart, oSl_eq, slK_l, slK_f, slK_t, slK_s, aRev, aFrz, unown, aGet2, aPut, aDisp, iSeq, iText, iRange1, iRange2, iEnumL, iEnumT, pm_nil, pm_cons, flatA, tV, isQ_non, isQ_bl, isQ_int, isQ_str, isQ_lst, isQ_frz, isQ_tup, isQ_dic, isQ_ins, okQ_non, okQ_bl, okQ_int, okQ_str, okQ_lst, okQ_frz, okQ_tup, okQ_dic, okQ_ins, isN_non, isN_bl, isN_int, isN_str, isN_lst, isN_tup, isN_ins, dr_p, dr_own', drO_l, drO_d, drO_i, eqK_ii, eqK_ss, eqK_bb, eqK_is, eqK_si, eqK_nn, eqK_ns, eqK_sn, eqK_ni, eqK_in, eqK_l0, eqK_t0, aFor_eq, aLc_eq, gA_nm, gA_tp, wipeA, oIn, atI_0, atI_1, atI_2, atI_3, atI_4, atI_m1, sizeLine_eq, and_assoc, os_same, os_ne, os_app, t_BadSpan_told]
  exact h
theorem p_law_state (T : Txt K mg) : BodyOk P w K mg base N__law_state "_law_state" s__law_state 0 sp__law_state := by
  intro f cdv A outer s H E hr
  refine ⟨_, r__law_state T hr, ?_⟩
  rintro _ os κ ⟨n, rfl, rfl, h⟩
  simp [aSeq, aIfS, aB_eq, blR_p, aOp, aVar, aStart, aC, aRet, aRetN, aDrop, aNext, aNever, aAsg, agName, agTup, agSub, setAll, aPar_cons, aCall, aCall1_eq, call1R_1, call1R_2, aMake, aMeth_eq, methR_p, resP, res1, resM, toOne, aCons, aNil, aTup, aLst, aLstO, oAdd, oSub, oMul, oMod, oDiv, oI, oE, oIs, oInI, oIxI, oIx, aNeg, aChain_eq, aAndV_eq, aOrV_eq, aNotV_eq, aAnd, aOr, aNot, aIf, aBM, mAppend, mExtend, mPop, aJoin, aCB, cLen, cOrd, cInt, cAbs, cTuple, cList, cAll, cIsi, aIsT, aFld_eq, fldR_p, fldR_of, aSetF_eq, setFR_o, setFO_i, ofS_inj, lk_hit, lk_miss, putA, aSl, aPart, aNoPart, oSl, aRev, aFrz, unown, aGet2, aPut, aDisp, iSeq, iText, iRange1, iRange2, iEnumL, iEnumT, pm_nil, pm_cons, flatA, tV, isQ_non, isQ_bl, isQ_int, isQ_str, isQ_lst, isQ_frz, isQ_tup, isQ_dic, isQ_ins, okQ_non, okQ_bl, okQ_int, okQ_str, okQ_lst, okQ_frz, okQ_tup, okQ_dic, okQ_ins, isN_non, isN_bl, isN_int, isN_str, isN_lst, isN_tup, isN_ins, dr_p, dr_own', drO_l, drO_d, drO_i, eqK_ii, eqK_ss, eqK_bb, eqK_is, eqK_si, eqK_nn, eqK_ns, eqK_sn, eqK_ni, eqK_in, eqK_l0, eqK_t0, aFor_eq, aLc_eq, gA_nm, gA_tp, wipeA, oIn, atI_0, atI_1, atI_2, atI_3, atI_4, atI_m1, sizeLine_eq, and_assoc, os_same, os_ne, os_app, t__law_state, oPow]
  generalize hm : (if n < 0 then -n else n) = m
  have h0 : 0 ≤ m := by rw [← hm]; split <;> omega
  refine ⟨⟨by decide, by decide, by decide⟩, .inr ?_, h _ ⟨_, _, _, rfl, ?_, by omega, by omega, by omega, by omega⟩⟩
  · split <;> decide
  · split <;> omega
theorem ixN30 : ixN 3 0 = some 0 := by decide
theorem ixN31 : ixN 3 1 = some 1 := by decide
theorem p_law_digit (T : Txt K mg) : BodyOk P w K mg base N__law_digit "_law_digit" s__law_digit 0 sp__law_digit := by
  intro f cdv A outer s H E hr
  refine ⟨_, r__law_digit T hr, ?_⟩
  rintro _ os κ ⟨b, xs, rest, rfl, rfl, ⟨x, y, z, rfl, hx, hy1, hy2, hz1, hz2⟩, hb1, hb2, h⟩
  have cast : ∀ i : Int, 0 ≤ i → i < b → ∀ xs', stOk xs' → κ (.p (.int i)) (.lst xs' :: rest) := fun i h0 h1 xs' hs => by
    have := h i.toNat xs' (by omega) hs
    rw [Int.toNat_of_nonneg h0] at this
    exact this
  by_cases h0 : 0 < x
  · simp [aSeq, aIfS, aB_eq, blR_p, aOp, aVar, aStart, aC, aRet, aRetN, aDrop, aNext, aNever, aAsg, agName, agTup, agSub, setAll, aPar_cons, aCall, aCall1_eq, call1R_1, call1R_2, aMake, aMeth_eq, methR_p, resP, res1, resM, toOne, aCons, aNil, aTup, aLst, aLstO, oAdd, oSub, oMul, oMod, oDiv, oI, oE, oIs, oInI, oIxI, oIx, aNeg, aChain_eq, aAndV_eq, aOrV_eq, aNotV_eq, aAnd, aOr, aNot, aIf, aBM, mAppend, mExtend, mPop, aJoin, aCB, cLen, cOrd, cInt, cAbs, cTuple, cList, cAll, cIsi, aIsT, aFld_eq, fldR_p, fldR_of, aSetF_eq, setFR_o, setFO_i, ofS_inj, lk_hit, lk_miss, putA, aSl, aPart, aNoPart, oSl, aRev, aFrz, unown, aGet2, aPut, aDisp, iSeq, iText, iRange1, iRange2, iEnumL, iEnumT, pm_nil, pm_cons, flatA, tV, isQ_non, isQ_bl, isQ_int, isQ_str, isQ_lst, isQ_frz, isQ_tup, isQ_dic, isQ_ins, okQ_non, okQ_bl, okQ_int, okQ_str, okQ_lst, okQ_frz, okQ_tup, okQ_dic, okQ_ins, isN_non, isN_bl, isN_int, isN_str, isN_lst, isN_tup, isN_ins, dr_p, dr_own', drO_l, drO_d, drO_i, eqK_ii, eqK_ss, eqK_bb, eqK_is, eqK_si, eqK_nn, eqK_ns, eqK_sn, eqK_ni, eqK_in, eqK_l0, eqK_t0, aFor_eq, aLc_eq, gA_nm, gA_tp, wipeA, oIn, atI_0, atI_1, atI_2, atI_3, atI_4, atI_m1, sizeLine_eq, and_assoc, os_same, os_ne, os_app, t__law_digit, h0, CDiv, ixN30]
    refine ⟨hb1, by omega, cast _ (Int.emod_nonneg _ (by omega)) (Int.emod_lt_of_pos _ hb1) _ ⟨_, _, _, rfl, ?_, hy1, hy2, hz1, hz2⟩⟩
    exact Int.ediv_nonneg hx (by omega)
  · simp [aSeq, aIfS, aB_eq, blR_p, aOp, aVar, aStart, aC, aRet, aRetN, aDrop, aNext, aNever, aAsg, agName, agTup, agSub, setAll, aPar_cons, aCall, aCall1_eq, call1R_1, call1R_2, aMake, aMeth_eq, methR_p, resP, res1, resM, toOne, aCons, aNil, aTup, aLst, aLstO, oAdd, oSub, oMul, oMod, oDiv, oI, oE, oIs, oInI, oIxI, oIx, aNeg, aChain_eq, aAndV_eq, aOrV_eq, aNotV_eq, aAnd, aOr, aNot, aIf, aBM, mAppend, mExtend, mPop, aJoin, aCB, cLen, cOrd, cInt, cAbs, cTuple, cList, cAll, cIsi, aIsT, aFld_eq, fldR_p, fldR_of, aSetF_eq, setFR_o, setFO_i, ofS_inj, lk_hit, lk_miss, putA, aSl, aPart, aNoPart, oSl, aRev, aFrz, unown, aGet2, aPut, aDisp, iSeq, iText, iRange1, iRange2, iEnumL, iEnumT, pm_nil, pm_cons, flatA, tV, isQ_non, isQ_bl, isQ_int, isQ_str, isQ_lst, isQ_frz, isQ_tup, isQ_dic, isQ_ins, okQ_non, okQ_bl, okQ_int, okQ_str, okQ_lst, okQ_frz, okQ_tup, okQ_dic, okQ_ins, isN_non, isN_bl, isN_int, isN_str, isN_lst, isN_tup, isN_ins, dr_p, dr_own', drO_l, drO_d, drO_i, eqK_ii, eqK_ss, eqK_bb, eqK_is, eqK_si, eqK_nn, eqK_ns, eqK_sn, eqK_ni, eqK_in, eqK_l0, eqK_t0, aFor_eq, aLc_eq, gA_nm, gA_tp, wipeA, oIn, atI_0, atI_1, atI_2, atI_3, atI_4, atI_m1, sizeLine_eq, and_assoc, os_same, os_ne, os_app, t__law_digit, h0, CDiv, ixN31]
    refine ⟨.inl ⟨by omega, by omega⟩, hb1, cast _ (Int.emod_nonneg _ (by omega)) (Int.emod_lt_of_pos _ hb1) _ ⟨_, _, _, rfl, hx, ?_, ?_, hz1, hz2⟩⟩
    · have := Int.emod_nonneg (y * (y / 1009 + 69621) + z) (b := 2147483629) (by decide); omega
    · have := Int.emod_lt_of_pos (y * (y / 1009 + 69621) + z) (b := 2147483629) (by decide); omega
theorem mem_at {l : List AB.A} {d : Nat} (h : d < l.length) : ∃ x, atI l (d : Int) = some x ∧ x ∈ l := by
  refine ⟨l[d], ?_, List.getElem_mem h⟩
  unfold L2.atI L2.ixN
  rw [if_pos (by omega), if_pos (by omega)]
  simp [h]

theorem cIsE_1 {CS ys : List String} {V : V} {C : String} {gs : List (Str × AB.A)} {os : OS} {κ : B → OS → Prop} : cIsE CS ys V [.p (.exc C gs), .p (.val V)] os κ = (C ∈ CS ∧ κ (.p (.bl (ys.contains C))) os) := by
  apply propext
  constructor
  · rintro ⟨C', gs', e, h1, h2⟩; cases e; exact ⟨h1, h2⟩
  · rintro ⟨h1, h2⟩; exact ⟨C, gs, rfl, h1, h2⟩
theorem fldE_1 {CS : List String} {n : Str} {κ : B → OS → Prop} {C : String} {gs : List (Str × AB.A)} {os : OS} : fldE CS K n κ (.p (.exc C gs)) os = (C ∈ CS ∧ NoAttr K (cAt K C) n ∧ ∃ a, gs.lookup n = some a ∧ κ (.p a) os) := by
  apply propext
  constructor
  · rintro ⟨C', gs', a, e, h1, h2, h3, h4⟩; cases e; exact ⟨h1, h2, a, h3, h4⟩
  · rintro ⟨h1, h2, a, h3, h4⟩; exact ⟨C, gs, a, rfl, h1, h2, h3, h4⟩
theorem aFldE_eq {CS : List String} {n : Str} {te : ATE} {as : AS} {os : OS} {κ : B → OS → Prop} : aFldE CS K n te as os κ = te as os (fldE CS K n κ) := rfl
theorem methE_1 {C D : String} {m : Str} {sp : ASp} {κ : B → OS → Prop} {gs : List (Str × AB.A)} {os : OS} : methE C m sp κ (.p (.exc D gs)) os = (D = C ∧ gs.lookup m = none ∧ sp [.p (.exc D gs)] [] (resP κ os)) := by
  apply propext
  constructor
  · rintro ⟨gs', e, h1, h2⟩; cases e; exact ⟨rfl, h1, h2⟩
  · rintro ⟨rfl, h1, h2⟩; exact ⟨gs, rfl, h1, h2⟩
theorem aMethE_eq {C : String} {m : Str} {sp : ASp} {to : ATE} {as : AS} {os : OS} {κ : B → OS → Prop} : aMethE C m sp to as os κ = to as os (methE C m sp κ) := rfl
theorem p_law_field (T : Txt K mg) : BodyOk P w K mg base N__law_field "_law_field" s__law_field 0 sp__law_field := by
  intro f cdv A outer s H E hr
  refine ⟨_, r__law_field T hr, ?_⟩
  rintro _ os κ ⟨C, gs, r, i, rfl, he, h⟩
  cases he
  all_goals simp [aSeq, aIfS, aB_eq, blR_p, aOp, aVar, aStart, aC, aRet, aRetN, aDrop, aNext, aNever, aAsg, agName, agTup, agSub, setAll, aPar_cons, aCall, aCall1_eq, call1R_1, call1R_2, aMake, aMeth_eq, methR_p, resP, res1, resM, toOne, aCons, aNil, aTup, aLst, aLstO, oAdd_eq, addK_ii, addK_ss, addK_ll, addK_fl, addK_tt, oSub, oMul_eq, mulK_ii, mulK_li, oMod, oDiv, oI, oE, oIs, oInI, oIxI, oIx_eq, ixK_l, ixK_t, ixK_f, ixK_s, aNeg, aChain_eq, aAndV_eq, aOrV_eq, aNotV_eq, aAnd, aOr, aNot, aIf, aBM, mAppend, mExtend, mPop, aJoin, aCB, cLen_1, lenK_l, lenK_t, lenK_f, lenK_s, lenK_d, cOrd, cInt_1, intK_i, intK_b, cAbs, cTuple, cList, cAll, cIsi, aIsT, aFld_eq, fldR_p, fldR_of, aSetF_eq, setFR_o, setFO_i, ofS_inj, lk_hit, lk_miss, putA, aSl, aPart, aNoPart, oSl_eq, slK_l, slK_f, slK_t, slK_s, aRev, aFrz, unown, aGet2, aPut, aDisp, iSeq, iText, iRange1, iRange2, iEnumL, iEnumT, pm_nil, pm_cons, flatA, tV, isQ_non, isQ_bl, isQ_int, isQ_str, isQ_lst, isQ_frz, isQ_tup, isQ_dic, isQ_ins, okQ_non, okQ_bl, okQ_int, okQ_str, okQ_lst, okQ_frz, okQ_tup, okQ_dic, okQ_ins, isN_non, isN_bl, isN_int, isN_str, isN_lst, isN_tup, isN_ins, dr_p, dr_own', drO_l, drO_d, drO_i, eqK_ii, eqK_ss, eqK_bb, eqK_is, eqK_si, eqK_nn, eqK_ns, eqK_sn, eqK_ni, eqK_in, eqK_l0, eqK_t0, aFor_eq, aLc_eq, gA_nm, gA_tp, wipeA, oIn, atI_0, atI_1, atI_2, atI_3, atI_4, atI_m1, sizeLine_eq, and_assoc, os_same, os_ne, os_app, t__law_field, cIsE_1, fldE_1, aFldE_eq, XS, ise_BadText, ise_BadNode, ise_Unsettled, ise_NotPlain, T.n_BadText_place, T.n_BadNode_what, T.n_Unsettled_path, T.n_NotPlain_number]
  all_goals exact h
theorem p_law_classes (T : Txt K mg) : BodyOk P w K mg base N__law_classes "_law_classes" s__law_classes 0 sp__law_classes := by
  intro f cdv A outer s H E hr
  refine ⟨_, r__law_classes T hr, ?_⟩
  rintro _ os κ ⟨C, gs, r, i, rfl, he, h⟩
  cases he
  all_goals simp [aSeq, aIfS, aB_eq, blR_p, aOp, aVar, aStart, aC, aRet, aRetN, aDrop, aNext, aNever, aAsg, agName, agTup, agSub, setAll, aPar_cons, aCall, aCall1_eq, call1R_1, call1R_2, aMake, aMeth_eq, methR_p, resP, res1, resM, toOne, aCons, aNil, aTup, aLst, aLstO, oAdd_eq, addK_ii, addK_ss, addK_ll, addK_fl, addK_tt, oSub, oMul_eq, mulK_ii, mulK_li, oMod, oDiv, oI, oE, oIs, oInI, oIxI, oIx_eq, ixK_l, ixK_t, ixK_f, ixK_s, aNeg, aChain_eq, aAndV_eq, aOrV_eq, aNotV_eq, aAnd, aOr, aNot, aIf, aBM, mAppend, mExtend, mPop, aJoin, aCB, cLen_1, lenK_l, lenK_t, lenK_f, lenK_s, lenK_d, cOrd, cInt_1, intK_i, intK_b, cAbs, cTuple, cList, cAll, cIsi, aIsT, aFld_eq, fldR_p, fldR_of, aSetF_eq, setFR_o, setFO_i, ofS_inj, lk_hit, lk_miss, putA, aSl, aPart, aNoPart, oSl_eq, slK_l, slK_f, slK_t, slK_s, aRev, aFrz, unown, aGet2, aPut, aDisp, iSeq, iText, iRange1, iRange2, iEnumL, iEnumT, pm_nil, pm_cons, flatA, tV, isQ_non, isQ_bl, isQ_int, isQ_str, isQ_lst, isQ_frz, isQ_tup, isQ_dic, isQ_ins, okQ_non, okQ_bl, okQ_int, okQ_str, okQ_lst, okQ_frz, okQ_tup, okQ_dic, okQ_ins, isN_non, isN_bl, isN_int, isN_str, isN_lst, isN_tup, isN_ins, dr_p, dr_own', drO_l, drO_d, drO_i, eqK_ii, eqK_ss, eqK_bb, eqK_is, eqK_si, eqK_nn, eqK_ns, eqK_sn, eqK_ni, eqK_in, eqK_l0, eqK_t0, aFor_eq, aLc_eq, gA_nm, gA_tp, wipeA, oIn, atI_0, atI_1, atI_2, atI_3, atI_4, atI_m1, sizeLine_eq, and_assoc, os_same, os_ne, os_app, t__law_classes, cIsE_1, XS, ise_BadText, ise_BadNode, ise_Unsettled, ise_NotPlain, ise_Paused, ise_NotPaused, ise_Finished, ise_BadSpan]
  all_goals exact h
end K1

end

section
set_option Elab.async false
set_option linter.all false
set_option maxRecDepth 100000
set_option maxHeartbeats 4000000
namespace K1
open PySem PySem.Spec PyProof.Rows L2 Evl AB
variable {P : Program} {w : World} {K : PySem.W.Frag} {mg : Str → Option Value} {base : Heap}
def datB (x : A) : Bool := isD x && (SeqAt.shaped (py x) && PyData.eqv (py x) (py x))

def dtB (d : Nat) (x : AB.A) : Bool := isD x && (PyData.canLay0 (py x) && decide (PyData.depth (py x) ≤ d))
theorem dtB.dat {d : Nat} {x : AB.A} (h : dtB d x = true) (hd : d ≤ 64) : datB x = true := by
  obtain ⟨h1, h2⟩ := He.ba h
  obtain ⟨h2, h3⟩ := He.ba h2
  have h4 := of_decide_eq_true h3
  unfold datB SeqAt.shaped
  rw [h1, h2, decide_eq_true (show PyData.depth (py x) ≤ 64 by omega), SeqAt.eqv_refl _ h2]
  rfl
theorem dtB.mono {d e : Nat} {x : AB.A} (h : dtB d x = true) (hd : d ≤ e) : dtB e x = true := by
  obtain ⟨h1, h2⟩ := He.ba h
  obtain ⟨h2, h3⟩ := He.ba h2
  have h4 := of_decide_eq_true h3
  unfold dtB
  rw [h1, h2, decide_eq_true (show PyData.depth (py x) ≤ e by omega)]
  rfl
theorem dtB.all {d : Nat} : ∀ {xs : List AB.A}, (∀ x ∈ xs, dtB d x = true) → isDL xs = true ∧ PyData.canLayAll0 (pyL xs) = true ∧ PyData.depthAll (pyL xs) ≤ d
  | [], _ => ⟨rfl, rfl, by unfold pyL PyData.depthAll; omega⟩
  | p :: xs, h => by
    obtain ⟨a, b, c⟩ := dtB.all (xs := xs) fun x hx => h x (by simp [hx])
    obtain ⟨h1, h2⟩ := He.ba (h p (by simp))
    obtain ⟨h2, h3⟩ := He.ba h2
    have h4 := of_decide_eq_true h3
    unfold isDL pyL PyData.canLayAll0 PyData.depthAll
    rw [a, b, h1, h2]
    exact ⟨rfl, rfl, by omega⟩
theorem dtB.tup {d : Nat} {xs : List AB.A} (h : ∀ x ∈ xs, dtB d x = true) : dtB (d + 1) (.tup xs) = true := by
  obtain ⟨a, b, c⟩ := dtB.all h
  unfold dtB
  rw [show isD (.tup xs) = true by unfold isD; exact a, show PyData.canLay0 (py (.tup xs)) = true by unfold py PyData.canLay0; exact b, decide_eq_true (show PyData.depth (py (.tup xs)) ≤ d + 1 by unfold py PyData.depth; omega)]
  rfl

theorem eqSelf {a : AB.A} {l : List AB.A} {k : Bool → Prop} (h : dtB 64 (.lst (a :: l)) = true) (hk : k true) : eqK (.lst (a :: l)) (.lst (a :: l)) k := by
  have h := dtB.dat h (by decide)
  obtain ⟨h1, h2⟩ := He.ba h
  obtain ⟨h2, h3⟩ := He.ba h2
  exact ⟨h1, h1, h2, h2, by rw [h3]; exact hk⟩
theorem dtB.lst {d : Nat} {xs : List AB.A} (h : ∀ x ∈ xs, dtB d x = true) : dtB (d + 1) (.lst xs) = true := by
  obtain ⟨a, b, c⟩ := dtB.all h
  unfold dtB
  rw [show isD (.lst xs) = true by unfold isD; exact a, show PyData.canLay0 (py (.lst xs)) = true by unfold py PyData.canLay0; exact b, decide_eq_true (show PyData.depth (py (.lst xs)) ≤ d + 1 by unfold py PyData.depth; omega)]
  rfl
def ERR (x : A) : List A := [.exc "BadText" [(S "place", x)], .exc "BadNode" [(S "what", x)], .exc "Unsettled" [(S "path", x)], .exc "NotPlain" [(S "number", x)], .exc "Paused" [], .exc "NotPaused" [], .exc "Finished" [], .exc "BadSpan" []]
def WORDS : List A := [.str (Str.ofString "badtext"), .str (Str.ofString "badnode"), .str (Str.ofString "unsettled"), .str (Str.ofString "notplain"), .str (Str.ofString "paused"), .str (Str.ofString "notpaused"), .str (Str.ofString "finished"), .str (Str.ofString "badspan")]
def XV (d : Nat) : List A := [.int (d : Int), .non, .str (Str.ofString "name"), .tup [.int 0, .int 1], .lst [.int 2, .lst [.int 3]], .int (-5)]
theorem xv_d {d : Nat} {x : AB.A} (h : x ∈ XV d) : dtB 3 x = true := by
  simp only [XV, List.mem_cons, List.not_mem_nil, or_false] at h
  rcases h with rfl | rfl | rfl | rfl | rfl | rfl
  · rfl
  · rfl
  · decide +kernel
  · decide +kernel
  · decide +kernel
  · rfl
def fB (i : Nat) : AB.A → AB.A
  | .int k => .bl (decide (k = (i : Int)))
  | _ => .non
theorem rg8 {i : Nat} : (rgA 0 8).map (fB i) = flags i := by
  unfold rgA flags
  rw [List.map_map]
  apply List.map_congr_left
  intro k _
  show AB.A.bl (decide (0 + (k : Int) = (i : Int))) = AB.A.bl (decide (k = i))
  congr 1
  by_cases h : k = i
  · subst h; simp
  · have : ¬ (0 + (k : Int) = (i : Int)) := by omega
    rw [decide_eq_false this, decide_eq_false h]
theorem flags_d (i : Nat) : dtB 64 (.lst (flags i)) = true := by
  refine dtB.mono (d := 2) (dtB.lst fun x hx => ?_) (by decide)
  unfold flags at hx
  obtain ⟨k, _, rfl⟩ := List.mem_map.mp hx
  generalize decide (k = i) = b
  cases b <;> rfl
theorem flags_c (i : Nat) : ∃ a l, flags i = a :: l := ⟨_, _, rfl⟩
theorem eqFlags (i : Nat) {k : Bool → Prop} (hk : k true) : eqK (.lst (flags i)) (.lst (flags i)) k := by
  have h := flags_d i
  obtain ⟨a, l, e⟩ := flags_c i
  rw [e] at h ⊢
  exact eqSelf h hk
def inv_law1 (ns : List Int) (i : Nat) (as : AS) (os : OS) : Prop := ∃ a1 a2 a3 a4 a5 a6 a7 : Option B, as = [some (.p (.frz (ns.map A.int))), a1, a2, a3, a4, a5, a6, a7, none]
def inv_law2 (ns : List Int) (x : A) (i : Nat) (as : AS) (os : OS) : Prop := ∃ a1 a2 a6 a7 : Option B, as = [some (.p (.frz (ns.map A.int))), a1, a2, some (.p x), some (.p (.lst (ERR x))), some (.p (.lst WORDS)), a6, a7, none]
end K1

end

section
set_option Elab.async false
set_option linter.all false
set_option maxRecDepth 100000
set_option maxHeartbeats 4000000
namespace K1
open PySem PySem.Spec PyProof.Rows L2 Evl AB
variable {P : Program} {w : World} {K : PySem.W.Frag} {mg : Str → Option Value} {base : Heap}
theorem p_law (T : Txt K mg) (c1 : Cl P w K mg base 1 "_law_state" sp__law_state []) (c2 : Cl P w K mg base 1 "_law_digit" sp__law_digit [])
    (x3 : MxE P w K mg base 1 "NotPlain" "NotPlain" (Str.ofString "number")) (x2 : MxE P w K mg base 1 "Unsettled" "Unsettled" (Str.ofString "path")) (x1 : MxE P w K mg base 1 "BadNode" "BadNode" (Str.ofString "what")) (x0 : MxE P w K mg base 1 "BadText" "BadText" (Str.ofString "place"))
    (t0 : MtE P w K mg base 1 "BadText" "told" sp_BadText_told) (t1 : MtE P w K mg base 1 "BadNode" "told" sp_BadNode_told) (t2 : MtE P w K mg base 1 "Unsettled" "told" sp_Unsettled_told) (t3 : MtE P w K mg base 1 "NotPlain" "told" sp_NotPlain_told) (t4 : MtE P w K mg base 1 "Paused" "told" sp_Paused_told) (t5 : MtE P w K mg base 1 "NotPaused" "told" sp_NotPaused_told) (t6 : MtE P w K mg base 1 "Finished" "told" sp_Finished_told) (t7 : MtE P w K mg base 1 "BadSpan" "told" sp_BadSpan_told)
    (c3 : Cl P w K mg base 1 "_law_field" sp__law_field []) (c4 : Cl P w K mg base 1 "_law_classes" sp__law_classes []) : BodyOk P w K mg base N_law "law" s_law 3 sp_law := by
  intro f' cdv A outer s H E hr
  refine ⟨_, r_law T c1 c2 x3 x2 x1 x0 t0 t1 t2 t3 t4 t5 t6 t7 c3 c4 hr, ?_⟩
  rintro _ os κ ⟨ns, rfl, rfl, hl, h⟩
  have hsl := sizeLine_eq
  have e0 : Str.ofString "refused " ++ Str.ofString "badtext" = Str.ofString "refused badtext" := rfl
  have l0 : (Str.ofString "badtext").length = 7 := rfl
  have e1 : Str.ofString "refused " ++ Str.ofString "badnode" = Str.ofString "refused badnode" := rfl
  have l1 : (Str.ofString "badnode").length = 7 := rfl
  have e2 : Str.ofString "refused " ++ Str.ofString "unsettled" = Str.ofString "refused unsettled" := rfl
  have l2 : (Str.ofString "unsettled").length = 9 := rfl
  have e3 : Str.ofString "refused " ++ Str.ofString "notplain" = Str.ofString "refused notplain" := rfl
  have l3 : (Str.ofString "notplain").length = 8 := rfl
  have e4 : Str.ofString "refused " ++ Str.ofString "paused" = Str.ofString "refused paused" := rfl
  have l4 : (Str.ofString "paused").length = 6 := rfl
  have e5 : Str.ofString "refused " ++ Str.ofString "notpaused" = Str.ofString "refused notpaused" := rfl
  have l5 : (Str.ofString "notpaused").length = 9 := rfl
  have e6 : Str.ofString "refused " ++ Str.ofString "finished" = Str.ofString "refused finished" := rfl
  have l6 : (Str.ofString "finished").length = 8 := rfl
  have e7 : Str.ofString "refused " ++ Str.ofString "badspan" = Str.ofString "refused badspan" := rfl
  have l7 : (Str.ofString "badspan").length = 7 := rfl
  have lr : (Str.ofString "refused ").length = 8 := rfl
  simp [aSeq, aIfS, aB_eq, blR_p, aOp, aVar, aStart, aC, aRet, aRetN, aDrop, aNext, aNever, aAsg, agName, agTup, agSub, setAll, aPar_cons, aCall, aCall1_eq, call1R_1, call1R_2, aMake, aMeth_eq, methR_p, resP, res1, resM, toOne, aCons, aNil, aTup, aLst, aLstO, oAdd_eq, addK_ii, addK_ss, addK_ll, addK_fl, addK_tt, oSub, oMul_eq, mulK_ii, mulK_li, oMod, oDiv, oI, oE, oIs, oInI, oIxI, oIx_eq, ixK_l, ixK_t, ixK_f, ixK_s, aNeg, aChain_eq, aAndV_eq, aOrV_eq, aNotV_eq, aAnd, aOr, aNot, aIf, aBM, mAppend, mExtend, mPop, aJoin, aCB, cLen_1, lenK_l, lenK_t, lenK_f, lenK_s, lenK_d, cOrd, cInt_1, intK_i, intK_b, cAbs, cTuple, cList, cAll, cIsi, aIsT, aFld_eq, fldR_p, fldR_of, aSetF_eq, setFR_o, setFO_i, ofS_inj, lk_hit, lk_miss, putA, aSl, aPart, aNoPart, oSl_eq, slK_l, slK_f, slK_t, slK_s, aRev, aFrz, unown, aGet2, aPut, aDisp, iSeq, iText, iRange1, iRange2, iEnumL, iEnumT, pm_nil, pm_cons, flatA, tV, isQ_non, isQ_bl, isQ_int, isQ_str, isQ_lst, isQ_frz, isQ_tup, isQ_dic, isQ_ins, okQ_non, okQ_bl, okQ_int, okQ_str, okQ_lst, okQ_frz, okQ_tup, okQ_dic, okQ_ins, isN_non, isN_bl, isN_int, isN_str, isN_lst, isN_tup, isN_ins, dr_p, dr_own', drO_l, drO_d, drO_i, eqK_ii, eqK_ss, eqK_bb, eqK_is, eqK_si, eqK_nn, eqK_ns, eqK_sn, eqK_ni, eqK_in, eqK_l0, eqK_t0, aFor_eq, aLc_eq, gA_nm, gA_tp, wipeA, oIn, atI_0, atI_1, atI_2, atI_3, atI_4, atI_m1, sizeLine_eq, and_assoc, os_same, os_ne, os_app, t_law]
  refine ⟨by omega, forI (inv_law1 ns) ⟨_, _, _, _, _, _, _, rfl⟩ (fun _ _ _ _ _ => trivial) ?_ ?_⟩
  · rintro i a _ os hi ⟨a1, a2, a3, a4, a5, a6, a7, rfl⟩
    obtain ⟨n, rfl⟩ : ∃ n, a = .int n := by
      have hm := List.mem_of_getElem? hi
      unfold cutA at hm
      have hm2 := List.mem_of_mem_drop (List.mem_of_mem_take hm)
      rcases List.mem_append.mp hm2 with hm3 | hm3
      · obtain ⟨n, _, rfl⟩ := List.mem_map.mp hm3; exact ⟨n, rfl⟩
      · rw [List.mem_singleton.mp hm3]; exact ⟨0, rfl⟩
    simp [aSeq, aIfS, aB_eq, blR_p, aOp, aVar, aStart, aC, aRet, aRetN, aDrop, aNext, aNever, aAsg, agName, agTup, agSub, setAll, aPar_cons, aCall, aCall1_eq, call1R_1, call1R_2, aMake, aMeth_eq, methR_p, resP, res1, resM, toOne, aCons, aNil, aTup, aLst, aLstO, oAdd_eq, addK_ii, addK_ss, addK_ll, addK_fl, addK_tt, oSub, oMul_eq, mulK_ii, mulK_li, oMod, oDiv, oI, oE, oIs, oInI, oIxI, oIx_eq, ixK_l, ixK_t, ixK_f, ixK_s, aNeg, aChain_eq, aAndV_eq, aOrV_eq, aNotV_eq, aAnd, aOr, aNot, aIf, aBM, mAppend, mExtend, mPop, aJoin, aCB, cLen_1, lenK_l, lenK_t, lenK_f, lenK_s, lenK_d, cOrd, cInt_1, intK_i, intK_b, cAbs, cTuple, cList, cAll, cIsi, aIsT, aFld_eq, fldR_p, fldR_of, aSetF_eq, setFR_o, setFO_i, ofS_inj, lk_hit, lk_miss, putA, aSl, aPart, aNoPart, oSl_eq, slK_l, slK_f, slK_t, slK_s, aRev, aFrz, unown, aGet2, aPut, aDisp, iSeq, iText, iRange1, iRange2, iEnumL, iEnumT, pm_nil, pm_cons, flatA, tV, isQ_non, isQ_bl, isQ_int, isQ_str, isQ_lst, isQ_frz, isQ_tup, isQ_dic, isQ_ins, okQ_non, okQ_bl, okQ_int, okQ_str, okQ_lst, okQ_frz, okQ_tup, okQ_dic, okQ_ins, isN_non, isN_bl, isN_int, isN_str, isN_lst, isN_tup, isN_ins, dr_p, dr_own', drO_l, drO_d, drO_i, eqK_ii, eqK_ss, eqK_bb, eqK_is, eqK_si, eqK_nn, eqK_ns, eqK_sn, eqK_ni, eqK_in, eqK_l0, eqK_t0, aFor_eq, aLc_eq, gA_nm, gA_tp, wipeA, oIn, atI_0, atI_1, atI_2, atI_3, atI_4, atI_m1, sizeLine_eq, and_assoc, os_same, os_ne, os_app, sp__law_state, sp__law_digit]
    intro xs hxs
    refine ⟨hxs, fun d xs' hd hs' => ⟨hs', fun e xs2 he hs2 => ?_⟩⟩
    obtain ⟨x, ex, hx⟩ := mem_at (l := XV d) (d := e) (by show e < 6; omega)
    have hxd := xv_d hx
    refine ⟨x, ex, ?_⟩
    simp [aSeq, aIfS, aB_eq, blR_p, aOp, aVar, aStart, aC, aRet, aRetN, aDrop, aNext, aNever, aAsg, agName, agTup, agSub, setAll, aPar_cons, aCall, aCall1_eq, call1R_1, call1R_2, aMake, aMeth_eq, methR_p, resP, res1, resM, toOne, aCons, aNil, aTup, aLst, aLstO, oAdd_eq, addK_ii, addK_ss, addK_ll, addK_fl, addK_tt, oSub, oMul_eq, mulK_ii, mulK_li, oMod, oDiv, oI, oE, oIs, oInI, oIxI, oIx_eq, ixK_l, ixK_t, ixK_f, ixK_s, aNeg, aChain_eq, aAndV_eq, aOrV_eq, aNotV_eq, aAnd, aOr, aNot, aIf, aBM, mAppend, mExtend, mPop, aJoin, aCB, cLen_1, lenK_l, lenK_t, lenK_f, lenK_s, lenK_d, cOrd, cInt_1, intK_i, intK_b, cAbs, cTuple, cList, cAll, cIsi, aIsT, aFld_eq, fldR_p, fldR_of, aSetF_eq, setFR_o, setFO_i, ofS_inj, lk_hit, lk_miss, putA, aSl, aPart, aNoPart, oSl_eq, slK_l, slK_f, slK_t, slK_s, aRev, aFrz, unown, aGet2, aPut, aDisp, iSeq, iText, iRange1, iRange2, iEnumL, iEnumT, pm_nil, pm_cons, flatA, tV, isQ_non, isQ_bl, isQ_int, isQ_str, isQ_lst, isQ_frz, isQ_tup, isQ_dic, isQ_ins, okQ_non, okQ_bl, okQ_int, okQ_str, okQ_lst, okQ_frz, okQ_tup, okQ_dic, okQ_ins, isN_non, isN_bl, isN_int, isN_str, isN_lst, isN_tup, isN_ins, dr_p, dr_own', drO_l, drO_d, drO_i, eqK_ii, eqK_ss, eqK_bb, eqK_is, eqK_si, eqK_nn, eqK_ns, eqK_sn, eqK_ni, eqK_in, eqK_l0, eqK_t0, aFor_eq, aLc_eq, gA_nm, gA_tp, wipeA, oIn, atI_0, atI_1, atI_2, atI_3, atI_4, atI_m1, sizeLine_eq, and_assoc, os_same, os_ne, os_app, aMkE, aMkE0]
    refine forI (inv_law2 ns x) ⟨_, _, _, _, rfl⟩ (fun _ _ _ _ _ => trivial) ?_ ?_
    · rintro i a _ os2 hi ⟨b1, b2, b6, b7, rfl⟩
      have hi8 : i < 8 := by
        have := (List.getElem?_eq_some_iff.mp hi).1
        rw [enA_len] at this
        exact this
      have w5 : L2.atI WORDS 5 = some (.str (Str.ofString "notpaused")) := rfl
      have w6 : L2.atI WORDS 6 = some (.str (Str.ofString "finished")) := rfl
      have w7 : L2.atI WORDS 7 = some (.str (Str.ofString "badspan")) := rfl
      have w0 : L2.atI WORDS 0 = some (.str (Str.ofString "badtext")) := rfl
      have w1 : L2.atI WORDS 1 = some (.str (Str.ofString "badnode")) := rfl
      have w2 : L2.atI WORDS 2 = some (.str (Str.ofString "unsettled")) := rfl
      have w3 : L2.atI WORDS 3 = some (.str (Str.ofString "notplain")) := rfl
      have w4 : L2.atI WORDS 4 = some (.str (Str.ofString "paused")) := rfl
      have hERR : (ERR x).length = 8 := rfl
      have hxl : dtB 64 (.lst [x]) = true := dtB.mono (d := 4) (dtB.lst fun y hy => by rw [List.mem_singleton.mp hy]; exact hxd) (by decide)
      rcases (by omega : i = 0 ∨ i = 1 ∨ i = 2 ∨ i = 3 ∨ i = 4 ∨ i = 5 ∨ i = 6 ∨ i = 7) with rfl | rfl | rfl | rfl | rfl | rfl | rfl | rfl
      · obtain rfl : a = .tup [.int 0, .exc "BadText" [(S "place", x)]] := (Option.some.inj (show some (AB.A.tup [.int 0, .exc "BadText" [(S "place", x)]]) = some a from hi)).symm
        simp [aSeq, aIfS, aB_eq, blR_p, aOp, aVar, aStart, aC, aRet, aRetN, aDrop, aNext, aNever, aAsg, agName, agTup, agSub, setAll, aPar_cons, aCall, aCall1_eq, call1R_1, call1R_2, aMake, aMeth_eq, methR_p, resP, res1, resM, toOne, aCons, aNil, aTup, aLst, aLstO, oAdd_eq, addK_ii, addK_ss, addK_ll, addK_fl, addK_tt, oSub, oMul_eq, mulK_ii, mulK_li, oMod, oDiv, oI, oE, oIs, oInI, oIxI, oIx_eq, ixK_l, ixK_t, ixK_f, ixK_s, aNeg, aChain_eq, aAndV_eq, aOrV_eq, aNotV_eq, aAnd, aOr, aNot, aIf, aBM, mAppend, mExtend, mPop, aJoin, aCB, cLen_1, lenK_l, lenK_t, lenK_f, lenK_s, lenK_d, cOrd, cInt_1, intK_i, intK_b, cAbs, cTuple, cList, cAll, cIsi, aIsT, aFld_eq, fldR_p, fldR_of, aSetF_eq, setFR_o, setFO_i, ofS_inj, lk_hit, lk_miss, putA, aSl, aPart, aNoPart, oSl_eq, slK_l, slK_f, slK_t, slK_s, aRev, aFrz, unown, aGet2, aPut, aDisp, iSeq, iText, iRange1, iRange2, iEnumL, iEnumT, pm_nil, pm_cons, flatA, tV, isQ_non, isQ_bl, isQ_int, isQ_str, isQ_lst, isQ_frz, isQ_tup, isQ_dic, isQ_ins, okQ_non, okQ_bl, okQ_int, okQ_str, okQ_lst, okQ_frz, okQ_tup, okQ_dic, okQ_ins, isN_non, isN_bl, isN_int, isN_str, isN_lst, isN_tup, isN_ins, dr_p, dr_own', drO_l, drO_d, drO_i, eqK_ii, eqK_ss, eqK_bb, eqK_is, eqK_si, eqK_nn, eqK_ns, eqK_sn, eqK_ni, eqK_in, eqK_l0, eqK_t0, aFor_eq, aLc_eq, gA_nm, gA_tp, wipeA, oIn, atI_0, atI_1, atI_2, atI_3, atI_4, atI_m1, sizeLine_eq, and_assoc, os_same, os_ne, os_app, aMethE_eq, methE_1, sp_BadText_told, sp_BadNode_told, sp_Unsettled_told, sp_NotPlain_told, sp_Paused_told, sp_NotPaused_told, sp_Finished_told, sp_BadSpan_told, w0, e0, l0, lr]
        refine ⟨_, _, _, _, rfl, .badtext x, ?_⟩
        simp [aSeq, aIfS, aB_eq, blR_p, aOp, aVar, aStart, aC, aRet, aRetN, aDrop, aNext, aNever, aAsg, agName, agTup, agSub, setAll, aPar_cons, aCall, aCall1_eq, call1R_1, call1R_2, aMake, aMeth_eq, methR_p, resP, res1, resM, toOne, aCons, aNil, aTup, aLst, aLstO, oAdd_eq, addK_ii, addK_ss, addK_ll, addK_fl, addK_tt, oSub, oMul_eq, mulK_ii, mulK_li, oMod, oDiv, oI, oE, oIs, oInI, oIxI, oIx_eq, ixK_l, ixK_t, ixK_f, ixK_s, aNeg, aChain_eq, aAndV_eq, aOrV_eq, aNotV_eq, aAnd, aOr, aNot, aIf, aBM, mAppend, mExtend, mPop, aJoin, aCB, cLen_1, lenK_l, lenK_t, lenK_f, lenK_s, lenK_d, cOrd, cInt_1, intK_i, intK_b, cAbs, cTuple, cList, cAll, cIsi, aIsT, aFld_eq, fldR_p, fldR_of, aSetF_eq, setFR_o, setFO_i, ofS_inj, lk_hit, lk_miss, putA, aSl, aPart, aNoPart, oSl_eq, slK_l, slK_f, slK_t, slK_s, aRev, aFrz, unown, aGet2, aPut, aDisp, iSeq, iText, iRange1, iRange2, iEnumL, iEnumT, pm_nil, pm_cons, flatA, tV, isQ_non, isQ_bl, isQ_int, isQ_str, isQ_lst, isQ_frz, isQ_tup, isQ_dic, isQ_ins, okQ_non, okQ_bl, okQ_int, okQ_str, okQ_lst, okQ_frz, okQ_tup, okQ_dic, okQ_ins, isN_non, isN_bl, isN_int, isN_str, isN_lst, isN_tup, isN_ins, dr_p, dr_own', drO_l, drO_d, drO_i, eqK_ii, eqK_ss, eqK_bb, eqK_is, eqK_si, eqK_nn, eqK_ns, eqK_sn, eqK_ni, eqK_in, eqK_l0, eqK_t0, aFor_eq, aLc_eq, gA_nm, gA_tp, wipeA, oIn, atI_0, atI_1, atI_2, atI_3, atI_4, atI_m1, sizeLine_eq, and_assoc, os_same, os_ne, os_app]
        refine eqSelf hxl ?_
        rw [if_pos rfl]
        simp [aSeq, aIfS, aB_eq, blR_p, aOp, aVar, aStart, aC, aRet, aRetN, aDrop, aNext, aNever, aAsg, agName, agTup, agSub, setAll, aPar_cons, aCall, aCall1_eq, call1R_1, call1R_2, aMake, aMeth_eq, methR_p, resP, res1, resM, toOne, aCons, aNil, aTup, aLst, aLstO, oAdd_eq, addK_ii, addK_ss, addK_ll, addK_fl, addK_tt, oSub, oMul_eq, mulK_ii, mulK_li, oMod, oDiv, oI, oE, oIs, oInI, oIxI, oIx_eq, ixK_l, ixK_t, ixK_f, ixK_s, aNeg, aChain_eq, aAndV_eq, aOrV_eq, aNotV_eq, aAnd, aOr, aNot, aIf, aBM, mAppend, mExtend, mPop, aJoin, aCB, cLen_1, lenK_l, lenK_t, lenK_f, lenK_s, lenK_d, cOrd, cInt_1, intK_i, intK_b, cAbs, cTuple, cList, cAll, cIsi, aIsT, aFld_eq, fldR_p, fldR_of, aSetF_eq, setFR_o, setFO_i, ofS_inj, lk_hit, lk_miss, putA, aSl, aPart, aNoPart, oSl_eq, slK_l, slK_f, slK_t, slK_s, aRev, aFrz, unown, aGet2, aPut, aDisp, iSeq, iText, iRange1, iRange2, iEnumL, iEnumT, pm_nil, pm_cons, flatA, tV, isQ_non, isQ_bl, isQ_int, isQ_str, isQ_lst, isQ_frz, isQ_tup, isQ_dic, isQ_ins, okQ_non, okQ_bl, okQ_int, okQ_str, okQ_lst, okQ_frz, okQ_tup, okQ_dic, okQ_ins, isN_non, isN_bl, isN_int, isN_str, isN_lst, isN_tup, isN_ins, dr_p, dr_own', drO_l, drO_d, drO_i, eqK_ii, eqK_ss, eqK_bb, eqK_is, eqK_si, eqK_nn, eqK_ns, eqK_sn, eqK_ni, eqK_in, eqK_l0, eqK_t0, aFor_eq, aLc_eq, gA_nm, gA_tp, wipeA, oIn, atI_0, atI_1, atI_2, atI_3, atI_4, atI_m1, sizeLine_eq, and_assoc, os_same, os_ne, os_app, cIsE_1, XS, ise_TagError, ise_ValueError]
        refine ⟨_, _, _, _, rfl, .badtext x, ?_⟩
        simp [aSeq, aIfS, aB_eq, blR_p, aOp, aVar, aStart, aC, aRet, aRetN, aDrop, aNext, aNever, aAsg, agName, agTup, agSub, setAll, aPar_cons, aCall, aCall1_eq, call1R_1, call1R_2, aMake, aMeth_eq, methR_p, resP, res1, resM, toOne, aCons, aNil, aTup, aLst, aLstO, oAdd_eq, addK_ii, addK_ss, addK_ll, addK_fl, addK_tt, oSub, oMul_eq, mulK_ii, mulK_li, oMod, oDiv, oI, oE, oIs, oInI, oIxI, oIx_eq, ixK_l, ixK_t, ixK_f, ixK_s, aNeg, aChain_eq, aAndV_eq, aOrV_eq, aNotV_eq, aAnd, aOr, aNot, aIf, aBM, mAppend, mExtend, mPop, aJoin, aCB, cLen_1, lenK_l, lenK_t, lenK_f, lenK_s, lenK_d, cOrd, cInt_1, intK_i, intK_b, cAbs, cTuple, cList, cAll, cIsi, aIsT, aFld_eq, fldR_p, fldR_of, aSetF_eq, setFR_o, setFO_i, ofS_inj, lk_hit, lk_miss, putA, aSl, aPart, aNoPart, oSl_eq, slK_l, slK_f, slK_t, slK_s, aRev, aFrz, unown, aGet2, aPut, aDisp, iSeq, iText, iRange1, iRange2, iEnumL, iEnumT, pm_nil, pm_cons, flatA, tV, isQ_non, isQ_bl, isQ_int, isQ_str, isQ_lst, isQ_frz, isQ_tup, isQ_dic, isQ_ins, okQ_non, okQ_bl, okQ_int, okQ_str, okQ_lst, okQ_frz, okQ_tup, okQ_dic, okQ_ins, isN_non, isN_bl, isN_int, isN_str, isN_lst, isN_tup, isN_ins, dr_p, dr_own', drO_l, drO_d, drO_i, eqK_ii, eqK_ss, eqK_bb, eqK_is, eqK_si, eqK_nn, eqK_ns, eqK_sn, eqK_ni, eqK_in, eqK_l0, eqK_t0, aFor_eq, aLc_eq, gA_nm, gA_tp, wipeA, oIn, atI_0, atI_1, atI_2, atI_3, atI_4, atI_m1, sizeLine_eq, and_assoc, os_same, os_ne, os_app]
        refine ⟨by omega, lcM (fB 0) trivial (by rw [hERR]; unfold rgA; simp [sizeLine_eq]) ?_ ?_⟩
        · intro a ha κ' hk
          obtain ⟨k, rfl⟩ : ∃ k, a = .int k := by
            unfold rgA at ha
            obtain ⟨k, _, rfl⟩ := List.mem_map.mp ha
            exact ⟨_, rfl⟩
          simp [aSeq, aIfS, aB_eq, blR_p, aOp, aVar, aStart, aC, aRet, aRetN, aDrop, aNext, aNever, aAsg, agName, agTup, agSub, setAll, aPar_cons, aCall, aCall1_eq, call1R_1, call1R_2, aMake, aMeth_eq, methR_p, resP, res1, resM, toOne, aCons, aNil, aTup, aLst, aLstO, oAdd_eq, addK_ii, addK_ss, addK_ll, addK_fl, addK_tt, oSub, oMul_eq, mulK_ii, mulK_li, oMod, oDiv, oI, oE, oIs, oInI, oIxI, oIx_eq, ixK_l, ixK_t, ixK_f, ixK_s, aNeg, aChain_eq, aAndV_eq, aOrV_eq, aNotV_eq, aAnd, aOr, aNot, aIf, aBM, mAppend, mExtend, mPop, aJoin, aCB, cLen_1, lenK_l, lenK_t, lenK_f, lenK_s, lenK_d, cOrd, cInt_1, intK_i, intK_b, cAbs, cTuple, cList, cAll, cIsi, aIsT, aFld_eq, fldR_p, fldR_of, aSetF_eq, setFR_o, setFO_i, ofS_inj, lk_hit, lk_miss, putA, aSl, aPart, aNoPart, oSl_eq, slK_l, slK_f, slK_t, slK_s, aRev, aFrz, unown, aGet2, aPut, aDisp, iSeq, iText, iRange1, iRange2, iEnumL, iEnumT, pm_nil, pm_cons, flatA, tV, isQ_non, isQ_bl, isQ_int, isQ_str, isQ_lst, isQ_frz, isQ_tup, isQ_dic, isQ_ins, okQ_non, okQ_bl, okQ_int, okQ_str, okQ_lst, okQ_frz, okQ_tup, okQ_dic, okQ_ins, isN_non, isN_bl, isN_int, isN_str, isN_lst, isN_tup, isN_ins, dr_p, dr_own', drO_l, drO_d, drO_i, eqK_ii, eqK_ss, eqK_bb, eqK_is, eqK_si, eqK_nn, eqK_ns, eqK_sn, eqK_ni, eqK_in, eqK_l0, eqK_t0, aFor_eq, aLc_eq, gA_nm, gA_tp, wipeA, oIn, atI_0, atI_1, atI_2, atI_3, atI_4, atI_m1, sizeLine_eq, and_assoc, os_same, os_ne, os_app]
          exact hk
        · rw [hERR, rg8]
          simp [aSeq, aIfS, aB_eq, blR_p, aOp, aVar, aStart, aC, aRet, aRetN, aDrop, aNext, aNever, aAsg, agName, agTup, agSub, setAll, aPar_cons, aCall, aCall1_eq, call1R_1, call1R_2, aMake, aMeth_eq, methR_p, resP, res1, resM, toOne, aCons, aNil, aTup, aLst, aLstO, oAdd_eq, addK_ii, addK_ss, addK_ll, addK_fl, addK_tt, oSub, oMul_eq, mulK_ii, mulK_li, oMod, oDiv, oI, oE, oIs, oInI, oIxI, oIx_eq, ixK_l, ixK_t, ixK_f, ixK_s, aNeg, aChain_eq, aAndV_eq, aOrV_eq, aNotV_eq, aAnd, aOr, aNot, aIf, aBM, mAppend, mExtend, mPop, aJoin, aCB, cLen_1, lenK_l, lenK_t, lenK_f, lenK_s, lenK_d, cOrd, cInt_1, intK_i, intK_b, cAbs, cTuple, cList, cAll, cIsi, aIsT, aFld_eq, fldR_p, fldR_of, aSetF_eq, setFR_o, setFO_i, ofS_inj, lk_hit, lk_miss, putA, aSl, aPart, aNoPart, oSl_eq, slK_l, slK_f, slK_t, slK_s, aRev, aFrz, unown, aGet2, aPut, aDisp, iSeq, iText, iRange1, iRange2, iEnumL, iEnumT, pm_nil, pm_cons, flatA, tV, isQ_non, isQ_bl, isQ_int, isQ_str, isQ_lst, isQ_frz, isQ_tup, isQ_dic, isQ_ins, okQ_non, okQ_bl, okQ_int, okQ_str, okQ_lst, okQ_frz, okQ_tup, okQ_dic, okQ_ins, isN_non, isN_bl, isN_int, isN_str, isN_lst, isN_tup, isN_ins, dr_p, dr_own', drO_l, drO_d, drO_i, eqK_ii, eqK_ss, eqK_bb, eqK_is, eqK_si, eqK_nn, eqK_ns, eqK_sn, eqK_ni, eqK_in, eqK_l0, eqK_t0, aFor_eq, aLc_eq, gA_nm, gA_tp, wipeA, oIn, atI_0, atI_1, atI_2, atI_3, atI_4, atI_m1, sizeLine_eq, and_assoc, os_same, os_ne, os_app]
          refine eqFlags 0 ?_
          rw [if_pos rfl]
          exact ⟨_, _, _, _, rfl⟩
      · obtain rfl : a = .tup [.int 1, .exc "BadNode" [(S "what", x)]] := (Option.some.inj (show some (AB.A.tup [.int 1, .exc "BadNode" [(S "what", x)]]) = some a from hi)).symm
        simp [aSeq, aIfS, aB_eq, blR_p, aOp, aVar, aStart, aC, aRet, aRetN, aDrop, aNext, aNever, aAsg, agName, agTup, agSub, setAll, aPar_cons, aCall, aCall1_eq, call1R_1, call1R_2, aMake, aMeth_eq, methR_p, resP, res1, resM, toOne, aCons, aNil, aTup, aLst, aLstO, oAdd_eq, addK_ii, addK_ss, addK_ll, addK_fl, addK_tt, oSub, oMul_eq, mulK_ii, mulK_li, oMod, oDiv, oI, oE, oIs, oInI, oIxI, oIx_eq, ixK_l, ixK_t, ixK_f, ixK_s, aNeg, aChain_eq, aAndV_eq, aOrV_eq, aNotV_eq, aAnd, aOr, aNot, aIf, aBM, mAppend, mExtend, mPop, aJoin, aCB, cLen_1, lenK_l, lenK_t, lenK_f, lenK_s, lenK_d, cOrd, cInt_1, intK_i, intK_b, cAbs, cTuple, cList, cAll, cIsi, aIsT, aFld_eq, fldR_p, fldR_of, aSetF_eq, setFR_o, setFO_i, ofS_inj, lk_hit, lk_miss, putA, aSl, aPart, aNoPart, oSl_eq, slK_l, slK_f, slK_t, slK_s, aRev, aFrz, unown, aGet2, aPut, aDisp, iSeq, iText, iRange1, iRange2, iEnumL, iEnumT, pm_nil, pm_cons, flatA, tV, isQ_non, isQ_bl, isQ_int, isQ_str, isQ_lst, isQ_frz, isQ_tup, isQ_dic, isQ_ins, okQ_non, okQ_bl, okQ_int, okQ_str, okQ_lst, okQ_frz, okQ_tup, okQ_dic, okQ_ins, isN_non, isN_bl, isN_int, isN_str, isN_lst, isN_tup, isN_ins, dr_p, dr_own', drO_l, drO_d, drO_i, eqK_ii, eqK_ss, eqK_bb, eqK_is, eqK_si, eqK_nn, eqK_ns, eqK_sn, eqK_ni, eqK_in, eqK_l0, eqK_t0, aFor_eq, aLc_eq, gA_nm, gA_tp, wipeA, oIn, atI_0, atI_1, atI_2, atI_3, atI_4, atI_m1, sizeLine_eq, and_assoc, os_same, os_ne, os_app, aMethE_eq, methE_1, sp_BadText_told, sp_BadNode_told, sp_Unsettled_told, sp_NotPlain_told, sp_Paused_told, sp_NotPaused_told, sp_Finished_told, sp_BadSpan_told, w1, e1, l1, lr]
        refine ⟨_, _, _, _, rfl, .badnode x, ?_⟩
        simp [aSeq, aIfS, aB_eq, blR_p, aOp, aVar, aStart, aC, aRet, aRetN, aDrop, aNext, aNever, aAsg, agName, agTup, agSub, setAll, aPar_cons, aCall, aCall1_eq, call1R_1, call1R_2, aMake, aMeth_eq, methR_p, resP, res1, resM, toOne, aCons, aNil, aTup, aLst, aLstO, oAdd_eq, addK_ii, addK_ss, addK_ll, addK_fl, addK_tt, oSub, oMul_eq, mulK_ii, mulK_li, oMod, oDiv, oI, oE, oIs, oInI, oIxI, oIx_eq, ixK_l, ixK_t, ixK_f, ixK_s, aNeg, aChain_eq, aAndV_eq, aOrV_eq, aNotV_eq, aAnd, aOr, aNot, aIf, aBM, mAppend, mExtend, mPop, aJoin, aCB, cLen_1, lenK_l, lenK_t, lenK_f, lenK_s, lenK_d, cOrd, cInt_1, intK_i, intK_b, cAbs, cTuple, cList, cAll, cIsi, aIsT, aFld_eq, fldR_p, fldR_of, aSetF_eq, setFR_o, setFO_i, ofS_inj, lk_hit, lk_miss, putA, aSl, aPart, aNoPart, oSl_eq, slK_l, slK_f, slK_t, slK_s, aRev, aFrz, unown, aGet2, aPut, aDisp, iSeq, iText, iRange1, iRange2, iEnumL, iEnumT, pm_nil, pm_cons, flatA, tV, isQ_non, isQ_bl, isQ_int, isQ_str, isQ_lst, isQ_frz, isQ_tup, isQ_dic, isQ_ins, okQ_non, okQ_bl, okQ_int, okQ_str, okQ_lst, okQ_frz, okQ_tup, okQ_dic, okQ_ins, isN_non, isN_bl, isN_int, isN_str, isN_lst, isN_tup, isN_ins, dr_p, dr_own', drO_l, drO_d, drO_i, eqK_ii, eqK_ss, eqK_bb, eqK_is, eqK_si, eqK_nn, eqK_ns, eqK_sn, eqK_ni, eqK_in, eqK_l0, eqK_t0, aFor_eq, aLc_eq, gA_nm, gA_tp, wipeA, oIn, atI_0, atI_1, atI_2, atI_3, atI_4, atI_m1, sizeLine_eq, and_assoc, os_same, os_ne, os_app]
        refine eqSelf hxl ?_
        rw [if_pos rfl]
        simp [aSeq, aIfS, aB_eq, blR_p, aOp, aVar, aStart, aC, aRet, aRetN, aDrop, aNext, aNever, aAsg, agName, agTup, agSub, setAll, aPar_cons, aCall, aCall1_eq, call1R_1, call1R_2, aMake, aMeth_eq, methR_p, resP, res1, resM, toOne, aCons, aNil, aTup, aLst, aLstO, oAdd_eq, addK_ii, addK_ss, addK_ll, addK_fl, addK_tt, oSub, oMul_eq, mulK_ii, mulK_li, oMod, oDiv, oI, oE, oIs, oInI, oIxI, oIx_eq, ixK_l, ixK_t, ixK_f, ixK_s, aNeg, aChain_eq, aAndV_eq, aOrV_eq, aNotV_eq, aAnd, aOr, aNot, aIf, aBM, mAppend, mExtend, mPop, aJoin, aCB, cLen_1, lenK_l, lenK_t, lenK_f, lenK_s, lenK_d, cOrd, cInt_1, intK_i, intK_b, cAbs, cTuple, cList, cAll, cIsi, aIsT, aFld_eq, fldR_p, fldR_of, aSetF_eq, setFR_o, setFO_i, ofS_inj, lk_hit, lk_miss, putA, aSl, aPart, aNoPart, oSl_eq, slK_l, slK_f, slK_t, slK_s, aRev, aFrz, unown, aGet2, aPut, aDisp, iSeq, iText, iRange1, iRange2, iEnumL, iEnumT, pm_nil, pm_cons, flatA, tV, isQ_non, isQ_bl, isQ_int, isQ_str, isQ_lst, isQ_frz, isQ_tup, isQ_dic, isQ_ins, okQ_non, okQ_bl, okQ_int, okQ_str, okQ_lst, okQ_frz, okQ_tup, okQ_dic, okQ_ins, isN_non, isN_bl, isN_int, isN_str, isN_lst, isN_tup, isN_ins, dr_p, dr_own', drO_l, drO_d, drO_i, eqK_ii, eqK_ss, eqK_bb, eqK_is, eqK_si, eqK_nn, eqK_ns, eqK_sn, eqK_ni, eqK_in, eqK_l0, eqK_t0, aFor_eq, aLc_eq, gA_nm, gA_tp, wipeA, oIn, atI_0, atI_1, atI_2, atI_3, atI_4, atI_m1, sizeLine_eq, and_assoc, os_same, os_ne, os_app, cIsE_1, XS, ise_TagError, ise_ValueError]
        refine ⟨_, _, _, _, rfl, .badnode x, ?_⟩
        simp [aSeq, aIfS, aB_eq, blR_p, aOp, aVar, aStart, aC, aRet, aRetN, aDrop, aNext, aNever, aAsg, agName, agTup, agSub, setAll, aPar_cons, aCall, aCall1_eq, call1R_1, call1R_2, aMake, aMeth_eq, methR_p, resP, res1, resM, toOne, aCons, aNil, aTup, aLst, aLstO, oAdd_eq, addK_ii, addK_ss, addK_ll, addK_fl, addK_tt, oSub, oMul_eq, mulK_ii, mulK_li, oMod, oDiv, oI, oE, oIs, oInI, oIxI, oIx_eq, ixK_l, ixK_t, ixK_f, ixK_s, aNeg, aChain_eq, aAndV_eq, aOrV_eq, aNotV_eq, aAnd, aOr, aNot, aIf, aBM, mAppend, mExtend, mPop, aJoin, aCB, cLen_1, lenK_l, lenK_t, lenK_f, lenK_s, lenK_d, cOrd, cInt_1, intK_i, intK_b, cAbs, cTuple, cList, cAll, cIsi, aIsT, aFld_eq, fldR_p, fldR_of, aSetF_eq, setFR_o, setFO_i, ofS_inj, lk_hit, lk_miss, putA, aSl, aPart, aNoPart, oSl_eq, slK_l, slK_f, slK_t, slK_s, aRev, aFrz, unown, aGet2, aPut, aDisp, iSeq, iText, iRange1, iRange2, iEnumL, iEnumT, pm_nil, pm_cons, flatA, tV, isQ_non, isQ_bl, isQ_int, isQ_str, isQ_lst, isQ_frz, isQ_tup, isQ_dic, isQ_ins, okQ_non, okQ_bl, okQ_int, okQ_str, okQ_lst, okQ_frz, okQ_tup, okQ_dic, okQ_ins, isN_non, isN_bl, isN_int, isN_str, isN_lst, isN_tup, isN_ins, dr_p, dr_own', drO_l, drO_d, drO_i, eqK_ii, eqK_ss, eqK_bb, eqK_is, eqK_si, eqK_nn, eqK_ns, eqK_sn, eqK_ni, eqK_in, eqK_l0, eqK_t0, aFor_eq, aLc_eq, gA_nm, gA_tp, wipeA, oIn, atI_0, atI_1, atI_2, atI_3, atI_4, atI_m1, sizeLine_eq, and_assoc, os_same, os_ne, os_app]
        refine ⟨by omega, lcM (fB 1) trivial (by rw [hERR]; unfold rgA; simp [sizeLine_eq]) ?_ ?_⟩
        · intro a ha κ' hk
          obtain ⟨k, rfl⟩ : ∃ k, a = .int k := by
            unfold rgA at ha
            obtain ⟨k, _, rfl⟩ := List.mem_map.mp ha
            exact ⟨_, rfl⟩
          simp [aSeq, aIfS, aB_eq, blR_p, aOp, aVar, aStart, aC, aRet, aRetN, aDrop, aNext, aNever, aAsg, agName, agTup, agSub, setAll, aPar_cons, aCall, aCall1_eq, call1R_1, call1R_2, aMake, aMeth_eq, methR_p, resP, res1, resM, toOne, aCons, aNil, aTup, aLst, aLstO, oAdd_eq, addK_ii, addK_ss, addK_ll, addK_fl, addK_tt, oSub, oMul_eq, mulK_ii, mulK_li, oMod, oDiv, oI, oE, oIs, oInI, oIxI, oIx_eq, ixK_l, ixK_t, ixK_f, ixK_s, aNeg, aChain_eq, aAndV_eq, aOrV_eq, aNotV_eq, aAnd, aOr, aNot, aIf, aBM, mAppend, mExtend, mPop, aJoin, aCB, cLen_1, lenK_l, lenK_t, lenK_f, lenK_s, lenK_d, cOrd, cInt_1, intK_i, intK_b, cAbs, cTuple, cList, cAll, cIsi, aIsT, aFld_eq, fldR_p, fldR_of, aSetF_eq, setFR_o, setFO_i, ofS_inj, lk_hit, lk_miss, putA, aSl, aPart, aNoPart, oSl_eq, slK_l, slK_f, slK_t, slK_s, aRev, aFrz, unown, aGet2, aPut, aDisp, iSeq, iText, iRange1, iRange2, iEnumL, iEnumT, pm_nil, pm_cons, flatA, tV, isQ_non, isQ_bl, isQ_int, isQ_str, isQ_lst, isQ_frz, isQ_tup, isQ_dic, isQ_ins, okQ_non, okQ_bl, okQ_int, okQ_str, okQ_lst, okQ_frz, okQ_tup, okQ_dic, okQ_ins, isN_non, isN_bl, isN_int, isN_str, isN_lst, isN_tup, isN_ins, dr_p, dr_own', drO_l, drO_d, drO_i, eqK_ii, eqK_ss, eqK_bb, eqK_is, eqK_si, eqK_nn, eqK_ns, eqK_sn, eqK_ni, eqK_in, eqK_l0, eqK_t0, aFor_eq, aLc_eq, gA_nm, gA_tp, wipeA, oIn, atI_0, atI_1, atI_2, atI_3, atI_4, atI_m1, sizeLine_eq, and_assoc, os_same, os_ne, os_app]
          exact hk
        · rw [hERR, rg8]
          simp [aSeq, aIfS, aB_eq, blR_p, aOp, aVar, aStart, aC, aRet, aRetN, aDrop, aNext, aNever, aAsg, agName, agTup, agSub, setAll, aPar_cons, aCall, aCall1_eq, call1R_1, call1R_2, aMake, aMeth_eq, methR_p, resP, res1, resM, toOne, aCons, aNil, aTup, aLst, aLstO, oAdd_eq, addK_ii, addK_ss, addK_ll, addK_fl, addK_tt, oSub, oMul_eq, mulK_ii, mulK_li, oMod, oDiv, oI, oE, oIs, oInI, oIxI, oIx_eq, ixK_l, ixK_t, ixK_f, ixK_s, aNeg, aChain_eq, aAndV_eq, aOrV_eq, aNotV_eq, aAnd, aOr, aNot, aIf, aBM, mAppend, mExtend, mPop, aJoin, aCB, cLen_1, lenK_l, lenK_t, lenK_f, lenK_s, lenK_d, cOrd, cInt_1, intK_i, intK_b, cAbs, cTuple, cList, cAll, cIsi, aIsT, aFld_eq, fldR_p, fldR_of, aSetF_eq, setFR_o, setFO_i, ofS_inj, lk_hit, lk_miss, putA, aSl, aPart, aNoPart, oSl_eq, slK_l, slK_f, slK_t, slK_s, aRev, aFrz, unown, aGet2, aPut, aDisp, iSeq, iText, iRange1, iRange2, iEnumL, iEnumT, pm_nil, pm_cons, flatA, tV, isQ_non, isQ_bl, isQ_int, isQ_str, isQ_lst, isQ_frz, isQ_tup, isQ_dic, isQ_ins, okQ_non, okQ_bl, okQ_int, okQ_str, okQ_lst, okQ_frz, okQ_tup, okQ_dic, okQ_ins, isN_non, isN_bl, isN_int, isN_str, isN_lst, isN_tup, isN_ins, dr_p, dr_own', drO_l, drO_d, drO_i, eqK_ii, eqK_ss, eqK_bb, eqK_is, eqK_si, eqK_nn, eqK_ns, eqK_sn, eqK_ni, eqK_in, eqK_l0, eqK_t0, aFor_eq, aLc_eq, gA_nm, gA_tp, wipeA, oIn, atI_0, atI_1, atI_2, atI_3, atI_4, atI_m1, sizeLine_eq, and_assoc, os_same, os_ne, os_app]
          refine eqFlags 1 ?_
          rw [if_pos rfl]
          exact ⟨_, _, _, _, rfl⟩
      · obtain rfl : a = .tup [.int 2, .exc "Unsettled" [(S "path", x)]] := (Option.some.inj (show some (AB.A.tup [.int 2, .exc "Unsettled" [(S "path", x)]]) = some a from hi)).symm
        simp [aSeq, aIfS, aB_eq, blR_p, aOp, aVar, aStart, aC, aRet, aRetN, aDrop, aNext, aNever, aAsg, agName, agTup, agSub, setAll, aPar_cons, aCall, aCall1_eq, call1R_1, call1R_2, aMake, aMeth_eq, methR_p, resP, res1, resM, toOne, aCons, aNil, aTup, aLst, aLstO, oAdd_eq, addK_ii, addK_ss, addK_ll, addK_fl, addK_tt, oSub, oMul_eq, mulK_ii, mulK_li, oMod, oDiv, oI, oE, oIs, oInI, oIxI, oIx_eq, ixK_l, ixK_t, ixK_f, ixK_s, aNeg, aChain_eq, aAndV_eq, aOrV_eq, aNotV_eq, aAnd, aOr, aNot, aIf, aBM, mAppend, mExtend, mPop, aJoin, aCB, cLen_1, lenK_l, lenK_t, lenK_f, lenK_s, lenK_d, cOrd, cInt_1, intK_i, intK_b, cAbs, cTuple, cList, cAll, cIsi, aIsT, aFld_eq, fldR_p, fldR_of, aSetF_eq, setFR_o, setFO_i, ofS_inj, lk_hit, lk_miss, putA, aSl, aPart, aNoPart, oSl_eq, slK_l, slK_f, slK_t, slK_s, aRev, aFrz, unown, aGet2, aPut, aDisp, iSeq, iText, iRange1, iRange2, iEnumL, iEnumT, pm_nil, pm_cons, flatA, tV, isQ_non, isQ_bl, isQ_int, isQ_str, isQ_lst, isQ_frz, isQ_tup, isQ_dic, isQ_ins, okQ_non, okQ_bl, okQ_int, okQ_str, okQ_lst, okQ_frz, okQ_tup, okQ_dic, okQ_ins, isN_non, isN_bl, isN_int, isN_str, isN_lst, isN_tup, isN_ins, dr_p, dr_own', drO_l, drO_d, drO_i, eqK_ii, eqK_ss, eqK_bb, eqK_is, eqK_si, eqK_nn, eqK_ns, eqK_sn, eqK_ni, eqK_in, eqK_l0, eqK_t0, aFor_eq, aLc_eq, gA_nm, gA_tp, wipeA, oIn, atI_0, atI_1, atI_2, atI_3, atI_4, atI_m1, sizeLine_eq, and_assoc, os_same, os_ne, os_app, aMethE_eq, methE_1, sp_BadText_told, sp_BadNode_told, sp_Unsettled_told, sp_NotPlain_told, sp_Paused_told, sp_NotPaused_told, sp_Finished_told, sp_BadSpan_told, w2, e2, l2, lr]
        refine ⟨_, _, _, _, rfl, .unsettled x, ?_⟩
        simp [aSeq, aIfS, aB_eq, blR_p, aOp, aVar, aStart, aC, aRet, aRetN, aDrop, aNext, aNever, aAsg, agName, agTup, agSub, setAll, aPar_cons, aCall, aCall1_eq, call1R_1, call1R_2, aMake, aMeth_eq, methR_p, resP, res1, resM, toOne, aCons, aNil, aTup, aLst, aLstO, oAdd_eq, addK_ii, addK_ss, addK_ll, addK_fl, addK_tt, oSub, oMul_eq, mulK_ii, mulK_li, oMod, oDiv, oI, oE, oIs, oInI, oIxI, oIx_eq, ixK_l, ixK_t, ixK_f, ixK_s, aNeg, aChain_eq, aAndV_eq, aOrV_eq, aNotV_eq, aAnd, aOr, aNot, aIf, aBM, mAppend, mExtend, mPop, aJoin, aCB, cLen_1, lenK_l, lenK_t, lenK_f, lenK_s, lenK_d, cOrd, cInt_1, intK_i, intK_b, cAbs, cTuple, cList, cAll, cIsi, aIsT, aFld_eq, fldR_p, fldR_of, aSetF_eq, setFR_o, setFO_i, ofS_inj, lk_hit, lk_miss, putA, aSl, aPart, aNoPart, oSl_eq, slK_l, slK_f, slK_t, slK_s, aRev, aFrz, unown, aGet2, aPut, aDisp, iSeq, iText, iRange1, iRange2, iEnumL, iEnumT, pm_nil, pm_cons, flatA, tV, isQ_non, isQ_bl, isQ_int, isQ_str, isQ_lst, isQ_frz, isQ_tup, isQ_dic, isQ_ins, okQ_non, okQ_bl, okQ_int, okQ_str, okQ_lst, okQ_frz, okQ_tup, okQ_dic, okQ_ins, isN_non, isN_bl, isN_int, isN_str, isN_lst, isN_tup, isN_ins, dr_p, dr_own', drO_l, drO_d, drO_i, eqK_ii, eqK_ss, eqK_bb, eqK_is, eqK_si, eqK_nn, eqK_ns, eqK_sn, eqK_ni, eqK_in, eqK_l0, eqK_t0, aFor_eq, aLc_eq, gA_nm, gA_tp, wipeA, oIn, atI_0, atI_1, atI_2, atI_3, atI_4, atI_m1, sizeLine_eq, and_assoc, os_same, os_ne, os_app]
        refine eqSelf hxl ?_
        rw [if_pos rfl]
        simp [aSeq, aIfS, aB_eq, blR_p, aOp, aVar, aStart, aC, aRet, aRetN, aDrop, aNext, aNever, aAsg, agName, agTup, agSub, setAll, aPar_cons, aCall, aCall1_eq, call1R_1, call1R_2, aMake, aMeth_eq, methR_p, resP, res1, resM, toOne, aCons, aNil, aTup, aLst, aLstO, oAdd_eq, addK_ii, addK_ss, addK_ll, addK_fl, addK_tt, oSub, oMul_eq, mulK_ii, mulK_li, oMod, oDiv, oI, oE, oIs, oInI, oIxI, oIx_eq, ixK_l, ixK_t, ixK_f, ixK_s, aNeg, aChain_eq, aAndV_eq, aOrV_eq, aNotV_eq, aAnd, aOr, aNot, aIf, aBM, mAppend, mExtend, mPop, aJoin, aCB, cLen_1, lenK_l, lenK_t, lenK_f, lenK_s, lenK_d, cOrd, cInt_1, intK_i, intK_b, cAbs, cTuple, cList, cAll, cIsi, aIsT, aFld_eq, fldR_p, fldR_of, aSetF_eq, setFR_o, setFO_i, ofS_inj, lk_hit, lk_miss, putA, aSl, aPart, aNoPart, oSl_eq, slK_l, slK_f, slK_t, slK_s, aRev, aFrz, unown, aGet2, aPut, aDisp, iSeq, iText, iRange1, iRange2, iEnumL, iEnumT, pm_nil, pm_cons, flatA, tV, isQ_non, isQ_bl, isQ_int, isQ_str, isQ_lst, isQ_frz, isQ_tup, isQ_dic, isQ_ins, okQ_non, okQ_bl, okQ_int, okQ_str, okQ_lst, okQ_frz, okQ_tup, okQ_dic, okQ_ins, isN_non, isN_bl, isN_int, isN_str, isN_lst, isN_tup, isN_ins, dr_p, dr_own', drO_l, drO_d, drO_i, eqK_ii, eqK_ss, eqK_bb, eqK_is, eqK_si, eqK_nn, eqK_ns, eqK_sn, eqK_ni, eqK_in, eqK_l0, eqK_t0, aFor_eq, aLc_eq, gA_nm, gA_tp, wipeA, oIn, atI_0, atI_1, atI_2, atI_3, atI_4, atI_m1, sizeLine_eq, and_assoc, os_same, os_ne, os_app, cIsE_1, XS, ise_TagError, ise_ValueError]
        refine ⟨_, _, _, _, rfl, .unsettled x, ?_⟩
        simp [aSeq, aIfS, aB_eq, blR_p, aOp, aVar, aStart, aC, aRet, aRetN, aDrop, aNext, aNever, aAsg, agName, agTup, agSub, setAll, aPar_cons, aCall, aCall1_eq, call1R_1, call1R_2, aMake, aMeth_eq, methR_p, resP, res1, resM, toOne, aCons, aNil, aTup, aLst, aLstO, oAdd_eq, addK_ii, addK_ss, addK_ll, addK_fl, addK_tt, oSub, oMul_eq, mulK_ii, mulK_li, oMod, oDiv, oI, oE, oIs, oInI, oIxI, oIx_eq, ixK_l, ixK_t, ixK_f, ixK_s, aNeg, aChain_eq, aAndV_eq, aOrV_eq, aNotV_eq, aAnd, aOr, aNot, aIf, aBM, mAppend, mExtend, mPop, aJoin, aCB, cLen_1, lenK_l, lenK_t, lenK_f, lenK_s, lenK_d, cOrd, cInt_1, intK_i, intK_b, cAbs, cTuple, cList, cAll, cIsi, aIsT, aFld_eq, fldR_p, fldR_of, aSetF_eq, setFR_o, setFO_i, ofS_inj, lk_hit, lk_miss, putA, aSl, aPart, aNoPart, oSl_eq, slK_l, slK_f, slK_t, slK_s, aRev, aFrz, unown, aGet2, aPut, aDisp, iSeq, iText, iRange1, iRange2, iEnumL, iEnumT, pm_nil, pm_cons, flatA, tV, isQ_non, isQ_bl, isQ_int, isQ_str, isQ_lst, isQ_frz, isQ_tup, isQ_dic, isQ_ins, okQ_non, okQ_bl, okQ_int, okQ_str, okQ_lst, okQ_frz, okQ_tup, okQ_dic, okQ_ins, isN_non, isN_bl, isN_int, isN_str, isN_lst, isN_tup, isN_ins, dr_p, dr_own', drO_l, drO_d, drO_i, eqK_ii, eqK_ss, eqK_bb, eqK_is, eqK_si, eqK_nn, eqK_ns, eqK_sn, eqK_ni, eqK_in, eqK_l0, eqK_t0, aFor_eq, aLc_eq, gA_nm, gA_tp, wipeA, oIn, atI_0, atI_1, atI_2, atI_3, atI_4, atI_m1, sizeLine_eq, and_assoc, os_same, os_ne, os_app]
        refine ⟨by omega, lcM (fB 2) trivial (by rw [hERR]; unfold rgA; simp [sizeLine_eq]) ?_ ?_⟩
        · intro a ha κ' hk
          obtain ⟨k, rfl⟩ : ∃ k, a = .int k := by
            unfold rgA at ha
            obtain ⟨k, _, rfl⟩ := List.mem_map.mp ha
            exact ⟨_, rfl⟩
          simp [aSeq, aIfS, aB_eq, blR_p, aOp, aVar, aStart, aC, aRet, aRetN, aDrop, aNext, aNever, aAsg, agName, agTup, agSub, setAll, aPar_cons, aCall, aCall1_eq, call1R_1, call1R_2, aMake, aMeth_eq, methR_p, resP, res1, resM, toOne, aCons, aNil, aTup, aLst, aLstO, oAdd_eq, addK_ii, addK_ss, addK_ll, addK_fl, addK_tt, oSub, oMul_eq, mulK_ii, mulK_li, oMod, oDiv, oI, oE, oIs, oInI, oIxI, oIx_eq, ixK_l, ixK_t, ixK_f, ixK_s, aNeg, aChain_eq, aAndV_eq, aOrV_eq, aNotV_eq, aAnd, aOr, aNot, aIf, aBM, mAppend, mExtend, mPop, aJoin, aCB, cLen_1, lenK_l, lenK_t, lenK_f, lenK_s, lenK_d, cOrd, cInt_1, intK_i, intK_b, cAbs, cTuple, cList, cAll, cIsi, aIsT, aFld_eq, fldR_p, fldR_of, aSetF_eq, setFR_o, setFO_i, ofS_inj, lk_hit, lk_miss, putA, aSl, aPart, aNoPart, oSl_eq, slK_l, slK_f, slK_t, slK_s, aRev, aFrz, unown, aGet2, aPut, aDisp, iSeq, iText, iRange1, iRange2, iEnumL, iEnumT, pm_nil, pm_cons, flatA, tV, isQ_non, isQ_bl, isQ_int, isQ_str, isQ_lst, isQ_frz, isQ_tup, isQ_dic, isQ_ins, okQ_non, okQ_bl, okQ_int, okQ_str, okQ_lst, okQ_frz, okQ_tup, okQ_dic, okQ_ins, isN_non, isN_bl, isN_int, isN_str, isN_lst, isN_tup, isN_ins, dr_p, dr_own', drO_l, drO_d, drO_i, eqK_ii, eqK_ss, eqK_bb, eqK_is, eqK_si, eqK_nn, eqK_ns, eqK_sn, eqK_ni, eqK_in, eqK_l0, eqK_t0, aFor_eq, aLc_eq, gA_nm, gA_tp, wipeA, oIn, atI_0, atI_1, atI_2, atI_3, atI_4, atI_m1, sizeLine_eq, and_assoc, os_same, os_ne, os_app]
          exact hk
        · rw [hERR, rg8]
          simp [aSeq, aIfS, aB_eq, blR_p, aOp, aVar, aStart, aC, aRet, aRetN, aDrop, aNext, aNever, aAsg, agName, agTup, agSub, setAll, aPar_cons, aCall, aCall1_eq, call1R_1, call1R_2, aMake, aMeth_eq, methR_p, resP, res1, resM, toOne, aCons, aNil, aTup, aLst, aLstO, oAdd_eq, addK_ii, addK_ss, addK_ll, addK_fl, addK_tt, oSub, oMul_eq, mulK_ii, mulK_li, oMod, oDiv, oI, oE, oIs, oInI, oIxI, oIx_eq, ixK_l, ixK_t, ixK_f, ixK_s, aNeg, aChain_eq, aAndV_eq, aOrV_eq, aNotV_eq, aAnd, aOr, aNot, aIf, aBM, mAppend, mExtend, mPop, aJoin, aCB, cLen_1, lenK_l, lenK_t, lenK_f, lenK_s, lenK_d, cOrd, cInt_1, intK_i, intK_b, cAbs, cTuple, cList, cAll, cIsi, aIsT, aFld_eq, fldR_p, fldR_of, aSetF_eq, setFR_o, setFO_i, ofS_inj, lk_hit, lk_miss, putA, aSl, aPart, aNoPart, oSl_eq, slK_l, slK_f, slK_t, slK_s, aRev, aFrz, unown, aGet2, aPut, aDisp, iSeq, iText, iRange1, iRange2, iEnumL, iEnumT, pm_nil, pm_cons, flatA, tV, isQ_non, isQ_bl, isQ_int, isQ_str, isQ_lst, isQ_frz, isQ_tup, isQ_dic, isQ_ins, okQ_non, okQ_bl, okQ_int, okQ_str, okQ_lst, okQ_frz, okQ_tup, okQ_dic, okQ_ins, isN_non, isN_bl, isN_int, isN_str, isN_lst, isN_tup, isN_ins, dr_p, dr_own', drO_l, drO_d, drO_i, eqK_ii, eqK_ss, eqK_bb, eqK_is, eqK_si, eqK_nn, eqK_ns, eqK_sn, eqK_ni, eqK_in, eqK_l0, eqK_t0, aFor_eq, aLc_eq, gA_nm, gA_tp, wipeA, oIn, atI_0, atI_1, atI_2, atI_3, atI_4, atI_m1, sizeLine_eq, and_assoc, os_same, os_ne, os_app]
          refine eqFlags 2 ?_
          rw [if_pos rfl]
          exact ⟨_, _, _, _, rfl⟩
      · obtain rfl : a = .tup [.int 3, .exc "NotPlain" [(S "number", x)]] := (Option.some.inj (show some (AB.A.tup [.int 3, .exc "NotPlain" [(S "number", x)]]) = some a from hi)).symm
        simp [aSeq, aIfS, aB_eq, blR_p, aOp, aVar, aStart, aC, aRet, aRetN, aDrop, aNext, aNever, aAsg, agName, agTup, agSub, setAll, aPar_cons, aCall, aCall1_eq, call1R_1, call1R_2, aMake, aMeth_eq, methR_p, resP, res1, resM, toOne, aCons, aNil, aTup, aLst, aLstO, oAdd_eq, addK_ii, addK_ss, addK_ll, addK_fl, addK_tt, oSub, oMul_eq, mulK_ii, mulK_li, oMod, oDiv, oI, oE, oIs, oInI, oIxI, oIx_eq, ixK_l, ixK_t, ixK_f, ixK_s, aNeg, aChain_eq, aAndV_eq, aOrV_eq, aNotV_eq, aAnd, aOr, aNot, aIf, aBM, mAppend, mExtend, mPop, aJoin, aCB, cLen_1, lenK_l, lenK_t, lenK_f, lenK_s, lenK_d, cOrd, cInt_1, intK_i, intK_b, cAbs, cTuple, cList, cAll, cIsi, aIsT, aFld_eq, fldR_p, fldR_of, aSetF_eq, setFR_o, setFO_i, ofS_inj, lk_hit, lk_miss, putA, aSl, aPart, aNoPart, oSl_eq, slK_l, slK_f, slK_t, slK_s, aRev, aFrz, unown, aGet2, aPut, aDisp, iSeq, iText, iRange1, iRange2, iEnumL, iEnumT, pm_nil, pm_cons, flatA, tV, isQ_non, isQ_bl, isQ_int, isQ_str, isQ_lst, isQ_frz, isQ_tup, isQ_dic, isQ_ins, okQ_non, okQ_bl, okQ_int, okQ_str, okQ_lst, okQ_frz, okQ_tup, okQ_dic, okQ_ins, isN_non, isN_bl, isN_int, isN_str, isN_lst, isN_tup, isN_ins, dr_p, dr_own', drO_l, drO_d, drO_i, eqK_ii, eqK_ss, eqK_bb, eqK_is, eqK_si, eqK_nn, eqK_ns, eqK_sn, eqK_ni, eqK_in, eqK_l0, eqK_t0, aFor_eq, aLc_eq, gA_nm, gA_tp, wipeA, oIn, atI_0, atI_1, atI_2, atI_3, atI_4, atI_m1, sizeLine_eq, and_assoc, os_same, os_ne, os_app, aMethE_eq, methE_1, sp_BadText_told, sp_BadNode_told, sp_Unsettled_told, sp_NotPlain_told, sp_Paused_told, sp_NotPaused_told, sp_Finished_told, sp_BadSpan_told, w3, e3, l3, lr]
        refine ⟨_, _, _, _, rfl, .notplain x, ?_⟩
        simp [aSeq, aIfS, aB_eq, blR_p, aOp, aVar, aStart, aC, aRet, aRetN, aDrop, aNext, aNever, aAsg, agName, agTup, agSub, setAll, aPar_cons, aCall, aCall1_eq, call1R_1, call1R_2, aMake, aMeth_eq, methR_p, resP, res1, resM, toOne, aCons, aNil, aTup, aLst, aLstO, oAdd_eq, addK_ii, addK_ss, addK_ll, addK_fl, addK_tt, oSub, oMul_eq, mulK_ii, mulK_li, oMod, oDiv, oI, oE, oIs, oInI, oIxI, oIx_eq, ixK_l, ixK_t, ixK_f, ixK_s, aNeg, aChain_eq, aAndV_eq, aOrV_eq, aNotV_eq, aAnd, aOr, aNot, aIf, aBM, mAppend, mExtend, mPop, aJoin, aCB, cLen_1, lenK_l, lenK_t, lenK_f, lenK_s, lenK_d, cOrd, cInt_1, intK_i, intK_b, cAbs, cTuple, cList, cAll, cIsi, aIsT, aFld_eq, fldR_p, fldR_of, aSetF_eq, setFR_o, setFO_i, ofS_inj, lk_hit, lk_miss, putA, aSl, aPart, aNoPart, oSl_eq, slK_l, slK_f, slK_t, slK_s, aRev, aFrz, unown, aGet2, aPut, aDisp, iSeq, iText, iRange1, iRange2, iEnumL, iEnumT, pm_nil, pm_cons, flatA, tV, isQ_non, isQ_bl, isQ_int, isQ_str, isQ_lst, isQ_frz, isQ_tup, isQ_dic, isQ_ins, okQ_non, okQ_bl, okQ_int, okQ_str, okQ_lst, okQ_frz, okQ_tup, okQ_dic, okQ_ins, isN_non, isN_bl, isN_int, isN_str, isN_lst, isN_tup, isN_ins, dr_p, dr_own', drO_l, drO_d, drO_i, eqK_ii, eqK_ss, eqK_bb, eqK_is, eqK_si, eqK_nn, eqK_ns, eqK_sn, eqK_ni, eqK_in, eqK_l0, eqK_t0, aFor_eq, aLc_eq, gA_nm, gA_tp, wipeA, oIn, atI_0, atI_1, atI_2, atI_3, atI_4, atI_m1, sizeLine_eq, and_assoc, os_same, os_ne, os_app]
        refine eqSelf hxl ?_
        rw [if_pos rfl]
        simp [aSeq, aIfS, aB_eq, blR_p, aOp, aVar, aStart, aC, aRet, aRetN, aDrop, aNext, aNever, aAsg, agName, agTup, agSub, setAll, aPar_cons, aCall, aCall1_eq, call1R_1, call1R_2, aMake, aMeth_eq, methR_p, resP, res1, resM, toOne, aCons, aNil, aTup, aLst, aLstO, oAdd_eq, addK_ii, addK_ss, addK_ll, addK_fl, addK_tt, oSub, oMul_eq, mulK_ii, mulK_li, oMod, oDiv, oI, oE, oIs, oInI, oIxI, oIx_eq, ixK_l, ixK_t, ixK_f, ixK_s, aNeg, aChain_eq, aAndV_eq, aOrV_eq, aNotV_eq, aAnd, aOr, aNot, aIf, aBM, mAppend, mExtend, mPop, aJoin, aCB, cLen_1, lenK_l, lenK_t, lenK_f, lenK_s, lenK_d, cOrd, cInt_1, intK_i, intK_b, cAbs, cTuple, cList, cAll, cIsi, aIsT, aFld_eq, fldR_p, fldR_of, aSetF_eq, setFR_o, setFO_i, ofS_inj, lk_hit, lk_miss, putA, aSl, aPart, aNoPart, oSl_eq, slK_l, slK_f, slK_t, slK_s, aRev, aFrz, unown, aGet2, aPut, aDisp, iSeq, iText, iRange1, iRange2, iEnumL, iEnumT, pm_nil, pm_cons, flatA, tV, isQ_non, isQ_bl, isQ_int, isQ_str, isQ_lst, isQ_frz, isQ_tup, isQ_dic, isQ_ins, okQ_non, okQ_bl, okQ_int, okQ_str, okQ_lst, okQ_frz, okQ_tup, okQ_dic, okQ_ins, isN_non, isN_bl, isN_int, isN_str, isN_lst, isN_tup, isN_ins, dr_p, dr_own', drO_l, drO_d, drO_i, eqK_ii, eqK_ss, eqK_bb, eqK_is, eqK_si, eqK_nn, eqK_ns, eqK_sn, eqK_ni, eqK_in, eqK_l0, eqK_t0, aFor_eq, aLc_eq, gA_nm, gA_tp, wipeA, oIn, atI_0, atI_1, atI_2, atI_3, atI_4, atI_m1, sizeLine_eq, and_assoc, os_same, os_ne, os_app, cIsE_1, XS, ise_TagError, ise_ValueError]
        refine ⟨_, _, _, _, rfl, .notplain x, ?_⟩
        simp [aSeq, aIfS, aB_eq, blR_p, aOp, aVar, aStart, aC, aRet, aRetN, aDrop, aNext, aNever, aAsg, agName, agTup, agSub, setAll, aPar_cons, aCall, aCall1_eq, call1R_1, call1R_2, aMake, aMeth_eq, methR_p, resP, res1, resM, toOne, aCons, aNil, aTup, aLst, aLstO, oAdd_eq, addK_ii, addK_ss, addK_ll, addK_fl, addK_tt, oSub, oMul_eq, mulK_ii, mulK_li, oMod, oDiv, oI, oE, oIs, oInI, oIxI, oIx_eq, ixK_l, ixK_t, ixK_f, ixK_s, aNeg, aChain_eq, aAndV_eq, aOrV_eq, aNotV_eq, aAnd, aOr, aNot, aIf, aBM, mAppend, mExtend, mPop, aJoin, aCB, cLen_1, lenK_l, lenK_t, lenK_f, lenK_s, lenK_d, cOrd, cInt_1, intK_i, intK_b, cAbs, cTuple, cList, cAll, cIsi, aIsT, aFld_eq, fldR_p, fldR_of, aSetF_eq, setFR_o, setFO_i, ofS_inj, lk_hit, lk_miss, putA, aSl, aPart, aNoPart, oSl_eq, slK_l, slK_f, slK_t, slK_s, aRev, aFrz, unown, aGet2, aPut, aDisp, iSeq, iText, iRange1, iRange2, iEnumL, iEnumT, pm_nil, pm_cons, flatA, tV, isQ_non, isQ_bl, isQ_int, isQ_str, isQ_lst, isQ_frz, isQ_tup, isQ_dic, isQ_ins, okQ_non, okQ_bl, okQ_int, okQ_str, okQ_lst, okQ_frz, okQ_tup, okQ_dic, okQ_ins, isN_non, isN_bl, isN_int, isN_str, isN_lst, isN_tup, isN_ins, dr_p, dr_own', drO_l, drO_d, drO_i, eqK_ii, eqK_ss, eqK_bb, eqK_is, eqK_si, eqK_nn, eqK_ns, eqK_sn, eqK_ni, eqK_in, eqK_l0, eqK_t0, aFor_eq, aLc_eq, gA_nm, gA_tp, wipeA, oIn, atI_0, atI_1, atI_2, atI_3, atI_4, atI_m1, sizeLine_eq, and_assoc, os_same, os_ne, os_app]
        refine ⟨by omega, lcM (fB 3) trivial (by rw [hERR]; unfold rgA; simp [sizeLine_eq]) ?_ ?_⟩
        · intro a ha κ' hk
          obtain ⟨k, rfl⟩ : ∃ k, a = .int k := by
            unfold rgA at ha
            obtain ⟨k, _, rfl⟩ := List.mem_map.mp ha
            exact ⟨_, rfl⟩
          simp [aSeq, aIfS, aB_eq, blR_p, aOp, aVar, aStart, aC, aRet, aRetN, aDrop, aNext, aNever, aAsg, agName, agTup, agSub, setAll, aPar_cons, aCall, aCall1_eq, call1R_1, call1R_2, aMake, aMeth_eq, methR_p, resP, res1, resM, toOne, aCons, aNil, aTup, aLst, aLstO, oAdd_eq, addK_ii, addK_ss, addK_ll, addK_fl, addK_tt, oSub, oMul_eq, mulK_ii, mulK_li, oMod, oDiv, oI, oE, oIs, oInI, oIxI, oIx_eq, ixK_l, ixK_t, ixK_f, ixK_s, aNeg, aChain_eq, aAndV_eq, aOrV_eq, aNotV_eq, aAnd, aOr, aNot, aIf, aBM, mAppend, mExtend, mPop, aJoin, aCB, cLen_1, lenK_l, lenK_t, lenK_f, lenK_s, lenK_d, cOrd, cInt_1, intK_i, intK_b, cAbs, cTuple, cList, cAll, cIsi, aIsT, aFld_eq, fldR_p, fldR_of, aSetF_eq, setFR_o, setFO_i, ofS_inj, lk_hit, lk_miss, putA, aSl, aPart, aNoPart, oSl_eq, slK_l, slK_f, slK_t, slK_s, aRev, aFrz, unown, aGet2, aPut, aDisp, iSeq, iText, iRange1, iRange2, iEnumL, iEnumT, pm_nil, pm_cons, flatA, tV, isQ_non, isQ_bl, isQ_int, isQ_str, isQ_lst, isQ_frz, isQ_tup, isQ_dic, isQ_ins, okQ_non, okQ_bl, okQ_int, okQ_str, okQ_lst, okQ_frz, okQ_tup, okQ_dic, okQ_ins, isN_non, isN_bl, isN_int, isN_str, isN_lst, isN_tup, isN_ins, dr_p, dr_own', drO_l, drO_d, drO_i, eqK_ii, eqK_ss, eqK_bb, eqK_is, eqK_si, eqK_nn, eqK_ns, eqK_sn, eqK_ni, eqK_in, eqK_l0, eqK_t0, aFor_eq, aLc_eq, gA_nm, gA_tp, wipeA, oIn, atI_0, atI_1, atI_2, atI_3, atI_4, atI_m1, sizeLine_eq, and_assoc, os_same, os_ne, os_app]
          exact hk
        · rw [hERR, rg8]
          simp [aSeq, aIfS, aB_eq, blR_p, aOp, aVar, aStart, aC, aRet, aRetN, aDrop, aNext, aNever, aAsg, agName, agTup, agSub, setAll, aPar_cons, aCall, aCall1_eq, call1R_1, call1R_2, aMake, aMeth_eq, methR_p, resP, res1, resM, toOne, aCons, aNil, aTup, aLst, aLstO, oAdd_eq, addK_ii, addK_ss, addK_ll, addK_fl, addK_tt, oSub, oMul_eq, mulK_ii, mulK_li, oMod, oDiv, oI, oE, oIs, oInI, oIxI, oIx_eq, ixK_l, ixK_t, ixK_f, ixK_s, aNeg, aChain_eq, aAndV_eq, aOrV_eq, aNotV_eq, aAnd, aOr, aNot, aIf, aBM, mAppend, mExtend, mPop, aJoin, aCB, cLen_1, lenK_l, lenK_t, lenK_f, lenK_s, lenK_d, cOrd, cInt_1, intK_i, intK_b, cAbs, cTuple, cList, cAll, cIsi, aIsT, aFld_eq, fldR_p, fldR_of, aSetF_eq, setFR_o, setFO_i, ofS_inj, lk_hit, lk_miss, putA, aSl, aPart, aNoPart, oSl_eq, slK_l, slK_f, slK_t, slK_s, aRev, aFrz, unown, aGet2, aPut, aDisp, iSeq, iText, iRange1, iRange2, iEnumL, iEnumT, pm_nil, pm_cons, flatA, tV, isQ_non, isQ_bl, isQ_int, isQ_str, isQ_lst, isQ_frz, isQ_tup, isQ_dic, isQ_ins, okQ_non, okQ_bl, okQ_int, okQ_str, okQ_lst, okQ_frz, okQ_tup, okQ_dic, okQ_ins, isN_non, isN_bl, isN_int, isN_str, isN_lst, isN_tup, isN_ins, dr_p, dr_own', drO_l, drO_d, drO_i, eqK_ii, eqK_ss, eqK_bb, eqK_is, eqK_si, eqK_nn, eqK_ns, eqK_sn, eqK_ni, eqK_in, eqK_l0, eqK_t0, aFor_eq, aLc_eq, gA_nm, gA_tp, wipeA, oIn, atI_0, atI_1, atI_2, atI_3, atI_4, atI_m1, sizeLine_eq, and_assoc, os_same, os_ne, os_app]
          refine eqFlags 3 ?_
          rw [if_pos rfl]
          exact ⟨_, _, _, _, rfl⟩
      · obtain rfl : a = .tup [.int 4, .exc "Paused" []] := (Option.some.inj (show some (AB.A.tup [.int 4, .exc "Paused" []]) = some a from hi)).symm
        simp [aSeq, aIfS, aB_eq, blR_p, aOp, aVar, aStart, aC, aRet, aRetN, aDrop, aNext, aNever, aAsg, agName, agTup, agSub, setAll, aPar_cons, aCall, aCall1_eq, call1R_1, call1R_2, aMake, aMeth_eq, methR_p, resP, res1, resM, toOne, aCons, aNil, aTup, aLst, aLstO, oAdd_eq, addK_ii, addK_ss, addK_ll, addK_fl, addK_tt, oSub, oMul_eq, mulK_ii, mulK_li, oMod, oDiv, oI, oE, oIs, oInI, oIxI, oIx_eq, ixK_l, ixK_t, ixK_f, ixK_s, aNeg, aChain_eq, aAndV_eq, aOrV_eq, aNotV_eq, aAnd, aOr, aNot, aIf, aBM, mAppend, mExtend, mPop, aJoin, aCB, cLen_1, lenK_l, lenK_t, lenK_f, lenK_s, lenK_d, cOrd, cInt_1, intK_i, intK_b, cAbs, cTuple, cList, cAll, cIsi, aIsT, aFld_eq, fldR_p, fldR_of, aSetF_eq, setFR_o, setFO_i, ofS_inj, lk_hit, lk_miss, putA, aSl, aPart, aNoPart, oSl_eq, slK_l, slK_f, slK_t, slK_s, aRev, aFrz, unown, aGet2, aPut, aDisp, iSeq, iText, iRange1, iRange2, iEnumL, iEnumT, pm_nil, pm_cons, flatA, tV, isQ_non, isQ_bl, isQ_int, isQ_str, isQ_lst, isQ_frz, isQ_tup, isQ_dic, isQ_ins, okQ_non, okQ_bl, okQ_int, okQ_str, okQ_lst, okQ_frz, okQ_tup, okQ_dic, okQ_ins, isN_non, isN_bl, isN_int, isN_str, isN_lst, isN_tup, isN_ins, dr_p, dr_own', drO_l, drO_d, drO_i, eqK_ii, eqK_ss, eqK_bb, eqK_is, eqK_si, eqK_nn, eqK_ns, eqK_sn, eqK_ni, eqK_in, eqK_l0, eqK_t0, aFor_eq, aLc_eq, gA_nm, gA_tp, wipeA, oIn, atI_0, atI_1, atI_2, atI_3, atI_4, atI_m1, sizeLine_eq, and_assoc, os_same, os_ne, os_app, aMethE_eq, methE_1, sp_BadText_told, sp_BadNode_told, sp_Unsettled_told, sp_NotPlain_told, sp_Paused_told, sp_NotPaused_told, sp_Finished_told, sp_BadSpan_told, w4, e4, l4, lr]
        refine ⟨_, _, _, _, rfl, .paused, ?_⟩
        simp [aSeq, aIfS, aB_eq, blR_p, aOp, aVar, aStart, aC, aRet, aRetN, aDrop, aNext, aNever, aAsg, agName, agTup, agSub, setAll, aPar_cons, aCall, aCall1_eq, call1R_1, call1R_2, aMake, aMeth_eq, methR_p, resP, res1, resM, toOne, aCons, aNil, aTup, aLst, aLstO, oAdd_eq, addK_ii, addK_ss, addK_ll, addK_fl, addK_tt, oSub, oMul_eq, mulK_ii, mulK_li, oMod, oDiv, oI, oE, oIs, oInI, oIxI, oIx_eq, ixK_l, ixK_t, ixK_f, ixK_s, aNeg, aChain_eq, aAndV_eq, aOrV_eq, aNotV_eq, aAnd, aOr, aNot, aIf, aBM, mAppend, mExtend, mPop, aJoin, aCB, cLen_1, lenK_l, lenK_t, lenK_f, lenK_s, lenK_d, cOrd, cInt_1, intK_i, intK_b, cAbs, cTuple, cList, cAll, cIsi, aIsT, aFld_eq, fldR_p, fldR_of, aSetF_eq, setFR_o, setFO_i, ofS_inj, lk_hit, lk_miss, putA, aSl, aPart, aNoPart, oSl_eq, slK_l, slK_f, slK_t, slK_s, aRev, aFrz, unown, aGet2, aPut, aDisp, iSeq, iText, iRange1, iRange2, iEnumL, iEnumT, pm_nil, pm_cons, flatA, tV, isQ_non, isQ_bl, isQ_int, isQ_str, isQ_lst, isQ_frz, isQ_tup, isQ_dic, isQ_ins, okQ_non, okQ_bl, okQ_int, okQ_str, okQ_lst, okQ_frz, okQ_tup, okQ_dic, okQ_ins, isN_non, isN_bl, isN_int, isN_str, isN_lst, isN_tup, isN_ins, dr_p, dr_own', drO_l, drO_d, drO_i, eqK_ii, eqK_ss, eqK_bb, eqK_is, eqK_si, eqK_nn, eqK_ns, eqK_sn, eqK_ni, eqK_in, eqK_l0, eqK_t0, aFor_eq, aLc_eq, gA_nm, gA_tp, wipeA, oIn, atI_0, atI_1, atI_2, atI_3, atI_4, atI_m1, sizeLine_eq, and_assoc, os_same, os_ne, os_app]
        simp [aSeq, aIfS, aB_eq, blR_p, aOp, aVar, aStart, aC, aRet, aRetN, aDrop, aNext, aNever, aAsg, agName, agTup, agSub, setAll, aPar_cons, aCall, aCall1_eq, call1R_1, call1R_2, aMake, aMeth_eq, methR_p, resP, res1, resM, toOne, aCons, aNil, aTup, aLst, aLstO, oAdd_eq, addK_ii, addK_ss, addK_ll, addK_fl, addK_tt, oSub, oMul_eq, mulK_ii, mulK_li, oMod, oDiv, oI, oE, oIs, oInI, oIxI, oIx_eq, ixK_l, ixK_t, ixK_f, ixK_s, aNeg, aChain_eq, aAndV_eq, aOrV_eq, aNotV_eq, aAnd, aOr, aNot, aIf, aBM, mAppend, mExtend, mPop, aJoin, aCB, cLen_1, lenK_l, lenK_t, lenK_f, lenK_s, lenK_d, cOrd, cInt_1, intK_i, intK_b, cAbs, cTuple, cList, cAll, cIsi, aIsT, aFld_eq, fldR_p, fldR_of, aSetF_eq, setFR_o, setFO_i, ofS_inj, lk_hit, lk_miss, putA, aSl, aPart, aNoPart, oSl_eq, slK_l, slK_f, slK_t, slK_s, aRev, aFrz, unown, aGet2, aPut, aDisp, iSeq, iText, iRange1, iRange2, iEnumL, iEnumT, pm_nil, pm_cons, flatA, tV, isQ_non, isQ_bl, isQ_int, isQ_str, isQ_lst, isQ_frz, isQ_tup, isQ_dic, isQ_ins, okQ_non, okQ_bl, okQ_int, okQ_str, okQ_lst, okQ_frz, okQ_tup, okQ_dic, okQ_ins, isN_non, isN_bl, isN_int, isN_str, isN_lst, isN_tup, isN_ins, dr_p, dr_own', drO_l, drO_d, drO_i, eqK_ii, eqK_ss, eqK_bb, eqK_is, eqK_si, eqK_nn, eqK_ns, eqK_sn, eqK_ni, eqK_in, eqK_l0, eqK_t0, aFor_eq, aLc_eq, gA_nm, gA_tp, wipeA, oIn, atI_0, atI_1, atI_2, atI_3, atI_4, atI_m1, sizeLine_eq, and_assoc, os_same, os_ne, os_app, cIsE_1, XS, ise_TagError, ise_ValueError]
        refine ⟨_, _, _, _, rfl, .paused, ?_⟩
        simp [aSeq, aIfS, aB_eq, blR_p, aOp, aVar, aStart, aC, aRet, aRetN, aDrop, aNext, aNever, aAsg, agName, agTup, agSub, setAll, aPar_cons, aCall, aCall1_eq, call1R_1, call1R_2, aMake, aMeth_eq, methR_p, resP, res1, resM, toOne, aCons, aNil, aTup, aLst, aLstO, oAdd_eq, addK_ii, addK_ss, addK_ll, addK_fl, addK_tt, oSub, oMul_eq, mulK_ii, mulK_li, oMod, oDiv, oI, oE, oIs, oInI, oIxI, oIx_eq, ixK_l, ixK_t, ixK_f, ixK_s, aNeg, aChain_eq, aAndV_eq, aOrV_eq, aNotV_eq, aAnd, aOr, aNot, aIf, aBM, mAppend, mExtend, mPop, aJoin, aCB, cLen_1, lenK_l, lenK_t, lenK_f, lenK_s, lenK_d, cOrd, cInt_1, intK_i, intK_b, cAbs, cTuple, cList, cAll, cIsi, aIsT, aFld_eq, fldR_p, fldR_of, aSetF_eq, setFR_o, setFO_i, ofS_inj, lk_hit, lk_miss, putA, aSl, aPart, aNoPart, oSl_eq, slK_l, slK_f, slK_t, slK_s, aRev, aFrz, unown, aGet2, aPut, aDisp, iSeq, iText, iRange1, iRange2, iEnumL, iEnumT, pm_nil, pm_cons, flatA, tV, isQ_non, isQ_bl, isQ_int, isQ_str, isQ_lst, isQ_frz, isQ_tup, isQ_dic, isQ_ins, okQ_non, okQ_bl, okQ_int, okQ_str, okQ_lst, okQ_frz, okQ_tup, okQ_dic, okQ_ins, isN_non, isN_bl, isN_int, isN_str, isN_lst, isN_tup, isN_ins, dr_p, dr_own', drO_l, drO_d, drO_i, eqK_ii, eqK_ss, eqK_bb, eqK_is, eqK_si, eqK_nn, eqK_ns, eqK_sn, eqK_ni, eqK_in, eqK_l0, eqK_t0, aFor_eq, aLc_eq, gA_nm, gA_tp, wipeA, oIn, atI_0, atI_1, atI_2, atI_3, atI_4, atI_m1, sizeLine_eq, and_assoc, os_same, os_ne, os_app]
        refine ⟨by omega, lcM (fB 4) trivial (by rw [hERR]; unfold rgA; simp [sizeLine_eq]) ?_ ?_⟩
        · intro a ha κ' hk
          obtain ⟨k, rfl⟩ : ∃ k, a = .int k := by
            unfold rgA at ha
            obtain ⟨k, _, rfl⟩ := List.mem_map.mp ha
            exact ⟨_, rfl⟩
          simp [aSeq, aIfS, aB_eq, blR_p, aOp, aVar, aStart, aC, aRet, aRetN, aDrop, aNext, aNever, aAsg, agName, agTup, agSub, setAll, aPar_cons, aCall, aCall1_eq, call1R_1, call1R_2, aMake, aMeth_eq, methR_p, resP, res1, resM, toOne, aCons, aNil, aTup, aLst, aLstO, oAdd_eq, addK_ii, addK_ss, addK_ll, addK_fl, addK_tt, oSub, oMul_eq, mulK_ii, mulK_li, oMod, oDiv, oI, oE, oIs, oInI, oIxI, oIx_eq, ixK_l, ixK_t, ixK_f, ixK_s, aNeg, aChain_eq, aAndV_eq, aOrV_eq, aNotV_eq, aAnd, aOr, aNot, aIf, aBM, mAppend, mExtend, mPop, aJoin, aCB, cLen_1, lenK_l, lenK_t, lenK_f, lenK_s, lenK_d, cOrd, cInt_1, intK_i, intK_b, cAbs, cTuple, cList, cAll, cIsi, aIsT, aFld_eq, fldR_p, fldR_of, aSetF_eq, setFR_o, setFO_i, ofS_inj, lk_hit, lk_miss, putA, aSl, aPart, aNoPart, oSl_eq, slK_l, slK_f, slK_t, slK_s, aRev, aFrz, unown, aGet2, aPut, aDisp, iSeq, iText, iRange1, iRange2, iEnumL, iEnumT, pm_nil, pm_cons, flatA, tV, isQ_non, isQ_bl, isQ_int, isQ_str, isQ_lst, isQ_frz, isQ_tup, isQ_dic, isQ_ins, okQ_non, okQ_bl, okQ_int, okQ_str, okQ_lst, okQ_frz, okQ_tup, okQ_dic, okQ_ins, isN_non, isN_bl, isN_int, isN_str, isN_lst, isN_tup, isN_ins, dr_p, dr_own', drO_l, drO_d, drO_i, eqK_ii, eqK_ss, eqK_bb, eqK_is, eqK_si, eqK_nn, eqK_ns, eqK_sn, eqK_ni, eqK_in, eqK_l0, eqK_t0, aFor_eq, aLc_eq, gA_nm, gA_tp, wipeA, oIn, atI_0, atI_1, atI_2, atI_3, atI_4, atI_m1, sizeLine_eq, and_assoc, os_same, os_ne, os_app]
          exact hk
        · rw [hERR, rg8]
          simp [aSeq, aIfS, aB_eq, blR_p, aOp, aVar, aStart, aC, aRet, aRetN, aDrop, aNext, aNever, aAsg, agName, agTup, agSub, setAll, aPar_cons, aCall, aCall1_eq, call1R_1, call1R_2, aMake, aMeth_eq, methR_p, resP, res1, resM, toOne, aCons, aNil, aTup, aLst, aLstO, oAdd_eq, addK_ii, addK_ss, addK_ll, addK_fl, addK_tt, oSub, oMul_eq, mulK_ii, mulK_li, oMod, oDiv, oI, oE, oIs, oInI, oIxI, oIx_eq, ixK_l, ixK_t, ixK_f, ixK_s, aNeg, aChain_eq, aAndV_eq, aOrV_eq, aNotV_eq, aAnd, aOr, aNot, aIf, aBM, mAppend, mExtend, mPop, aJoin, aCB, cLen_1, lenK_l, lenK_t, lenK_f, lenK_s, lenK_d, cOrd, cInt_1, intK_i, intK_b, cAbs, cTuple, cList, cAll, cIsi, aIsT, aFld_eq, fldR_p, fldR_of, aSetF_eq, setFR_o, setFO_i, ofS_inj, lk_hit, lk_miss, putA, aSl, aPart, aNoPart, oSl_eq, slK_l, slK_f, slK_t, slK_s, aRev, aFrz, unown, aGet2, aPut, aDisp, iSeq, iText, iRange1, iRange2, iEnumL, iEnumT, pm_nil, pm_cons, flatA, tV, isQ_non, isQ_bl, isQ_int, isQ_str, isQ_lst, isQ_frz, isQ_tup, isQ_dic, isQ_ins, okQ_non, okQ_bl, okQ_int, okQ_str, okQ_lst, okQ_frz, okQ_tup, okQ_dic, okQ_ins, isN_non, isN_bl, isN_int, isN_str, isN_lst, isN_tup, isN_ins, dr_p, dr_own', drO_l, drO_d, drO_i, eqK_ii, eqK_ss, eqK_bb, eqK_is, eqK_si, eqK_nn, eqK_ns, eqK_sn, eqK_ni, eqK_in, eqK_l0, eqK_t0, aFor_eq, aLc_eq, gA_nm, gA_tp, wipeA, oIn, atI_0, atI_1, atI_2, atI_3, atI_4, atI_m1, sizeLine_eq, and_assoc, os_same, os_ne, os_app]
          refine eqFlags 4 ?_
          rw [if_pos rfl]
          exact ⟨_, _, _, _, rfl⟩
      · obtain rfl : a = .tup [.int 5, .exc "NotPaused" []] := (Option.some.inj (show some (AB.A.tup [.int 5, .exc "NotPaused" []]) = some a from hi)).symm
        simp [aSeq, aIfS, aB_eq, blR_p, aOp, aVar, aStart, aC, aRet, aRetN, aDrop, aNext, aNever, aAsg, agName, agTup, agSub, setAll, aPar_cons, aCall, aCall1_eq, call1R_1, call1R_2, aMake, aMeth_eq, methR_p, resP, res1, resM, toOne, aCons, aNil, aTup, aLst, aLstO, oAdd_eq, addK_ii, addK_ss, addK_ll, addK_fl, addK_tt, oSub, oMul_eq, mulK_ii, mulK_li, oMod, oDiv, oI, oE, oIs, oInI, oIxI, oIx_eq, ixK_l, ixK_t, ixK_f, ixK_s, aNeg, aChain_eq, aAndV_eq, aOrV_eq, aNotV_eq, aAnd, aOr, aNot, aIf, aBM, mAppend, mExtend, mPop, aJoin, aCB, cLen_1, lenK_l, lenK_t, lenK_f, lenK_s, lenK_d, cOrd, cInt_1, intK_i, intK_b, cAbs, cTuple, cList, cAll, cIsi, aIsT, aFld_eq, fldR_p, fldR_of, aSetF_eq, setFR_o, setFO_i, ofS_inj, lk_hit, lk_miss, putA, aSl, aPart, aNoPart, oSl_eq, slK_l, slK_f, slK_t, slK_s, aRev, aFrz, unown, aGet2, aPut, aDisp, iSeq, iText, iRange1, iRange2, iEnumL, iEnumT, pm_nil, pm_cons, flatA, tV, isQ_non, isQ_bl, isQ_int, isQ_str, isQ_lst, isQ_frz, isQ_tup, isQ_dic, isQ_ins, okQ_non, okQ_bl, okQ_int, okQ_str, okQ_lst, okQ_frz, okQ_tup, okQ_dic, okQ_ins, isN_non, isN_bl, isN_int, isN_str, isN_lst, isN_tup, isN_ins, dr_p, dr_own', drO_l, drO_d, drO_i, eqK_ii, eqK_ss, eqK_bb, eqK_is, eqK_si, eqK_nn, eqK_ns, eqK_sn, eqK_ni, eqK_in, eqK_l0, eqK_t0, aFor_eq, aLc_eq, gA_nm, gA_tp, wipeA, oIn, atI_0, atI_1, atI_2, atI_3, atI_4, atI_m1, sizeLine_eq, and_assoc, os_same, os_ne, os_app, aMethE_eq, methE_1, sp_BadText_told, sp_BadNode_told, sp_Unsettled_told, sp_NotPlain_told, sp_Paused_told, sp_NotPaused_told, sp_Finished_told, sp_BadSpan_told, w5, e5, l5, lr]
        refine ⟨_, _, _, _, rfl, .notpaused, ?_⟩
        simp [aSeq, aIfS, aB_eq, blR_p, aOp, aVar, aStart, aC, aRet, aRetN, aDrop, aNext, aNever, aAsg, agName, agTup, agSub, setAll, aPar_cons, aCall, aCall1_eq, call1R_1, call1R_2, aMake, aMeth_eq, methR_p, resP, res1, resM, toOne, aCons, aNil, aTup, aLst, aLstO, oAdd_eq, addK_ii, addK_ss, addK_ll, addK_fl, addK_tt, oSub, oMul_eq, mulK_ii, mulK_li, oMod, oDiv, oI, oE, oIs, oInI, oIxI, oIx_eq, ixK_l, ixK_t, ixK_f, ixK_s, aNeg, aChain_eq, aAndV_eq, aOrV_eq, aNotV_eq, aAnd, aOr, aNot, aIf, aBM, mAppend, mExtend, mPop, aJoin, aCB, cLen_1, lenK_l, lenK_t, lenK_f, lenK_s, lenK_d, cOrd, cInt_1, intK_i, intK_b, cAbs, cTuple, cList, cAll, cIsi, aIsT, aFld_eq, fldR_p, fldR_of, aSetF_eq, setFR_o, setFO_i, ofS_inj, lk_hit, lk_miss, putA, aSl, aPart, aNoPart, oSl_eq, slK_l, slK_f, slK_t, slK_s, aRev, aFrz, unown, aGet2, aPut, aDisp, iSeq, iText, iRange1, iRange2, iEnumL, iEnumT, pm_nil, pm_cons, flatA, tV, isQ_non, isQ_bl, isQ_int, isQ_str, isQ_lst, isQ_frz, isQ_tup, isQ_dic, isQ_ins, okQ_non, okQ_bl, okQ_int, okQ_str, okQ_lst, okQ_frz, okQ_tup, okQ_dic, okQ_ins, isN_non, isN_bl, isN_int, isN_str, isN_lst, isN_tup, isN_ins, dr_p, dr_own', drO_l, drO_d, drO_i, eqK_ii, eqK_ss, eqK_bb, eqK_is, eqK_si, eqK_nn, eqK_ns, eqK_sn, eqK_ni, eqK_in, eqK_l0, eqK_t0, aFor_eq, aLc_eq, gA_nm, gA_tp, wipeA, oIn, atI_0, atI_1, atI_2, atI_3, atI_4, atI_m1, sizeLine_eq, and_assoc, os_same, os_ne, os_app]
        simp [aSeq, aIfS, aB_eq, blR_p, aOp, aVar, aStart, aC, aRet, aRetN, aDrop, aNext, aNever, aAsg, agName, agTup, agSub, setAll, aPar_cons, aCall, aCall1_eq, call1R_1, call1R_2, aMake, aMeth_eq, methR_p, resP, res1, resM, toOne, aCons, aNil, aTup, aLst, aLstO, oAdd_eq, addK_ii, addK_ss, addK_ll, addK_fl, addK_tt, oSub, oMul_eq, mulK_ii, mulK_li, oMod, oDiv, oI, oE, oIs, oInI, oIxI, oIx_eq, ixK_l, ixK_t, ixK_f, ixK_s, aNeg, aChain_eq, aAndV_eq, aOrV_eq, aNotV_eq, aAnd, aOr, aNot, aIf, aBM, mAppend, mExtend, mPop, aJoin, aCB, cLen_1, lenK_l, lenK_t, lenK_f, lenK_s, lenK_d, cOrd, cInt_1, intK_i, intK_b, cAbs, cTuple, cList, cAll, cIsi, aIsT, aFld_eq, fldR_p, fldR_of, aSetF_eq, setFR_o, setFO_i, ofS_inj, lk_hit, lk_miss, putA, aSl, aPart, aNoPart, oSl_eq, slK_l, slK_f, slK_t, slK_s, aRev, aFrz, unown, aGet2, aPut, aDisp, iSeq, iText, iRange1, iRange2, iEnumL, iEnumT, pm_nil, pm_cons, flatA, tV, isQ_non, isQ_bl, isQ_int, isQ_str, isQ_lst, isQ_frz, isQ_tup, isQ_dic, isQ_ins, okQ_non, okQ_bl, okQ_int, okQ_str, okQ_lst, okQ_frz, okQ_tup, okQ_dic, okQ_ins, isN_non, isN_bl, isN_int, isN_str, isN_lst, isN_tup, isN_ins, dr_p, dr_own', drO_l, drO_d, drO_i, eqK_ii, eqK_ss, eqK_bb, eqK_is, eqK_si, eqK_nn, eqK_ns, eqK_sn, eqK_ni, eqK_in, eqK_l0, eqK_t0, aFor_eq, aLc_eq, gA_nm, gA_tp, wipeA, oIn, atI_0, atI_1, atI_2, atI_3, atI_4, atI_m1, sizeLine_eq, and_assoc, os_same, os_ne, os_app, cIsE_1, XS, ise_TagError, ise_ValueError]
        refine ⟨_, _, _, _, rfl, .notpaused, ?_⟩
        simp [aSeq, aIfS, aB_eq, blR_p, aOp, aVar, aStart, aC, aRet, aRetN, aDrop, aNext, aNever, aAsg, agName, agTup, agSub, setAll, aPar_cons, aCall, aCall1_eq, call1R_1, call1R_2, aMake, aMeth_eq, methR_p, resP, res1, resM, toOne, aCons, aNil, aTup, aLst, aLstO, oAdd_eq, addK_ii, addK_ss, addK_ll, addK_fl, addK_tt, oSub, oMul_eq, mulK_ii, mulK_li, oMod, oDiv, oI, oE, oIs, oInI, oIxI, oIx_eq, ixK_l, ixK_t, ixK_f, ixK_s, aNeg, aChain_eq, aAndV_eq, aOrV_eq, aNotV_eq, aAnd, aOr, aNot, aIf, aBM, mAppend, mExtend, mPop, aJoin, aCB, cLen_1, lenK_l, lenK_t, lenK_f, lenK_s, lenK_d, cOrd, cInt_1, intK_i, intK_b, cAbs, cTuple, cList, cAll, cIsi, aIsT, aFld_eq, fldR_p, fldR_of, aSetF_eq, setFR_o, setFO_i, ofS_inj, lk_hit, lk_miss, putA, aSl, aPart, aNoPart, oSl_eq, slK_l, slK_f, slK_t, slK_s, aRev, aFrz, unown, aGet2, aPut, aDisp, iSeq, iText, iRange1, iRange2, iEnumL, iEnumT, pm_nil, pm_cons, flatA, tV, isQ_non, isQ_bl, isQ_int, isQ_str, isQ_lst, isQ_frz, isQ_tup, isQ_dic, isQ_ins, okQ_non, okQ_bl, okQ_int, okQ_str, okQ_lst, okQ_frz, okQ_tup, okQ_dic, okQ_ins, isN_non, isN_bl, isN_int, isN_str, isN_lst, isN_tup, isN_ins, dr_p, dr_own', drO_l, drO_d, drO_i, eqK_ii, eqK_ss, eqK_bb, eqK_is, eqK_si, eqK_nn, eqK_ns, eqK_sn, eqK_ni, eqK_in, eqK_l0, eqK_t0, aFor_eq, aLc_eq, gA_nm, gA_tp, wipeA, oIn, atI_0, atI_1, atI_2, atI_3, atI_4, atI_m1, sizeLine_eq, and_assoc, os_same, os_ne, os_app]
        refine ⟨by omega, lcM (fB 5) trivial (by rw [hERR]; unfold rgA; simp [sizeLine_eq]) ?_ ?_⟩
        · intro a ha κ' hk
          obtain ⟨k, rfl⟩ : ∃ k, a = .int k := by
            unfold rgA at ha
            obtain ⟨k, _, rfl⟩ := List.mem_map.mp ha
            exact ⟨_, rfl⟩
          simp [aSeq, aIfS, aB_eq, blR_p, aOp, aVar, aStart, aC, aRet, aRetN, aDrop, aNext, aNever, aAsg, agName, agTup, agSub, setAll, aPar_cons, aCall, aCall1_eq, call1R_1, call1R_2, aMake, aMeth_eq, methR_p, resP, res1, resM, toOne, aCons, aNil, aTup, aLst, aLstO, oAdd_eq, addK_ii, addK_ss, addK_ll, addK_fl, addK_tt, oSub, oMul_eq, mulK_ii, mulK_li, oMod, oDiv, oI, oE, oIs, oInI, oIxI, oIx_eq, ixK_l, ixK_t, ixK_f, ixK_s, aNeg, aChain_eq, aAndV_eq, aOrV_eq, aNotV_eq, aAnd, aOr, aNot, aIf, aBM, mAppend, mExtend, mPop, aJoin, aCB, cLen_1, lenK_l, lenK_t, lenK_f, lenK_s, lenK_d, cOrd, cInt_1, intK_i, intK_b, cAbs, cTuple, cList, cAll, cIsi, aIsT, aFld_eq, fldR_p, fldR_of, aSetF_eq, setFR_o, setFO_i, ofS_inj, lk_hit, lk_miss, putA, aSl, aPart, aNoPart, oSl_eq, slK_l, slK_f, slK_t, slK_s, aRev, aFrz, unown, aGet2, aPut, aDisp, iSeq, iText, iRange1, iRange2, iEnumL, iEnumT, pm_nil, pm_cons, flatA, tV, isQ_non, isQ_bl, isQ_int, isQ_str, isQ_lst, isQ_frz, isQ_tup, isQ_dic, isQ_ins, okQ_non, okQ_bl, okQ_int, okQ_str, okQ_lst, okQ_frz, okQ_tup, okQ_dic, okQ_ins, isN_non, isN_bl, isN_int, isN_str, isN_lst, isN_tup, isN_ins, dr_p, dr_own', drO_l, drO_d, drO_i, eqK_ii, eqK_ss, eqK_bb, eqK_is, eqK_si, eqK_nn, eqK_ns, eqK_sn, eqK_ni, eqK_in, eqK_l0, eqK_t0, aFor_eq, aLc_eq, gA_nm, gA_tp, wipeA, oIn, atI_0, atI_1, atI_2, atI_3, atI_4, atI_m1, sizeLine_eq, and_assoc, os_same, os_ne, os_app]
          exact hk
        · rw [hERR, rg8]
          simp [aSeq, aIfS, aB_eq, blR_p, aOp, aVar, aStart, aC, aRet, aRetN, aDrop, aNext, aNever, aAsg, agName, agTup, agSub, setAll, aPar_cons, aCall, aCall1_eq, call1R_1, call1R_2, aMake, aMeth_eq, methR_p, resP, res1, resM, toOne, aCons, aNil, aTup, aLst, aLstO, oAdd_eq, addK_ii, addK_ss, addK_ll, addK_fl, addK_tt, oSub, oMul_eq, mulK_ii, mulK_li, oMod, oDiv, oI, oE, oIs, oInI, oIxI, oIx_eq, ixK_l, ixK_t, ixK_f, ixK_s, aNeg, aChain_eq, aAndV_eq, aOrV_eq, aNotV_eq, aAnd, aOr, aNot, aIf, aBM, mAppend, mExtend, mPop, aJoin, aCB, cLen_1, lenK_l, lenK_t, lenK_f, lenK_s, lenK_d, cOrd, cInt_1, intK_i, intK_b, cAbs, cTuple, cList, cAll, cIsi, aIsT, aFld_eq, fldR_p, fldR_of, aSetF_eq, setFR_o, setFO_i, ofS_inj, lk_hit, lk_miss, putA, aSl, aPart, aNoPart, oSl_eq, slK_l, slK_f, slK_t, slK_s, aRev, aFrz, unown, aGet2, aPut, aDisp, iSeq, iText, iRange1, iRange2, iEnumL, iEnumT, pm_nil, pm_cons, flatA, tV, isQ_non, isQ_bl, isQ_int, isQ_str, isQ_lst, isQ_frz, isQ_tup, isQ_dic, isQ_ins, okQ_non, okQ_bl, okQ_int, okQ_str, okQ_lst, okQ_frz, okQ_tup, okQ_dic, okQ_ins, isN_non, isN_bl, isN_int, isN_str, isN_lst, isN_tup, isN_ins, dr_p, dr_own', drO_l, drO_d, drO_i, eqK_ii, eqK_ss, eqK_bb, eqK_is, eqK_si, eqK_nn, eqK_ns, eqK_sn, eqK_ni, eqK_in, eqK_l0, eqK_t0, aFor_eq, aLc_eq, gA_nm, gA_tp, wipeA, oIn, atI_0, atI_1, atI_2, atI_3, atI_4, atI_m1, sizeLine_eq, and_assoc, os_same, os_ne, os_app]
          refine eqFlags 5 ?_
          rw [if_pos rfl]
          exact ⟨_, _, _, _, rfl⟩
      · obtain rfl : a = .tup [.int 6, .exc "Finished" []] := (Option.some.inj (show some (AB.A.tup [.int 6, .exc "Finished" []]) = some a from hi)).symm
        simp [aSeq, aIfS, aB_eq, blR_p, aOp, aVar, aStart, aC, aRet, aRetN, aDrop, aNext, aNever, aAsg, agName, agTup, agSub, setAll, aPar_cons, aCall, aCall1_eq, call1R_1, call1R_2, aMake, aMeth_eq, methR_p, resP, res1, resM, toOne, aCons, aNil, aTup, aLst, aLstO, oAdd_eq, addK_ii, addK_ss, addK_ll, addK_fl, addK_tt, oSub, oMul_eq, mulK_ii, mulK_li, oMod, oDiv, oI, oE, oIs, oInI, oIxI, oIx_eq, ixK_l, ixK_t, ixK_f, ixK_s, aNeg, aChain_eq, aAndV_eq, aOrV_eq, aNotV_eq, aAnd, aOr, aNot, aIf, aBM, mAppend, mExtend, mPop, aJoin, aCB, cLen_1, lenK_l, lenK_t, lenK_f, lenK_s, lenK_d, cOrd, cInt_1, intK_i, intK_b, cAbs, cTuple, cList, cAll, cIsi, aIsT, aFld_eq, fldR_p, fldR_of, aSetF_eq, setFR_o, setFO_i, ofS_inj, lk_hit, lk_miss, putA, aSl, aPart, aNoPart, oSl_eq, slK_l, slK_f, slK_t, slK_s, aRev, aFrz, unown, aGet2, aPut, aDisp, iSeq, iText, iRange1, iRange2, iEnumL, iEnumT, pm_nil, pm_cons, flatA, tV, isQ_non, isQ_bl, isQ_int, isQ_str, isQ_lst, isQ_frz, isQ_tup, isQ_dic, isQ_ins, okQ_non, okQ_bl, okQ_int, okQ_str, okQ_lst, okQ_frz, okQ_tup, okQ_dic, okQ_ins, isN_non, isN_bl, isN_int, isN_str, isN_lst, isN_tup, isN_ins, dr_p, dr_own', drO_l, drO_d, drO_i, eqK_ii, eqK_ss, eqK_bb, eqK_is, eqK_si, eqK_nn, eqK_ns, eqK_sn, eqK_ni, eqK_in, eqK_l0, eqK_t0, aFor_eq, aLc_eq, gA_nm, gA_tp, wipeA, oIn, atI_0, atI_1, atI_2, atI_3, atI_4, atI_m1, sizeLine_eq, and_assoc, os_same, os_ne, os_app, aMethE_eq, methE_1, sp_BadText_told, sp_BadNode_told, sp_Unsettled_told, sp_NotPlain_told, sp_Paused_told, sp_NotPaused_told, sp_Finished_told, sp_BadSpan_told, w6, e6, l6, lr]
        refine ⟨_, _, _, _, rfl, .finished, ?_⟩
        simp [aSeq, aIfS, aB_eq, blR_p, aOp, aVar, aStart, aC, aRet, aRetN, aDrop, aNext, aNever, aAsg, agName, agTup, agSub, setAll, aPar_cons, aCall, aCall1_eq, call1R_1, call1R_2, aMake, aMeth_eq, methR_p, resP, res1, resM, toOne, aCons, aNil, aTup, aLst, aLstO, oAdd_eq, addK_ii, addK_ss, addK_ll, addK_fl, addK_tt, oSub, oMul_eq, mulK_ii, mulK_li, oMod, oDiv, oI, oE, oIs, oInI, oIxI, oIx_eq, ixK_l, ixK_t, ixK_f, ixK_s, aNeg, aChain_eq, aAndV_eq, aOrV_eq, aNotV_eq, aAnd, aOr, aNot, aIf, aBM, mAppend, mExtend, mPop, aJoin, aCB, cLen_1, lenK_l, lenK_t, lenK_f, lenK_s, lenK_d, cOrd, cInt_1, intK_i, intK_b, cAbs, cTuple, cList, cAll, cIsi, aIsT, aFld_eq, fldR_p, fldR_of, aSetF_eq, setFR_o, setFO_i, ofS_inj, lk_hit, lk_miss, putA, aSl, aPart, aNoPart, oSl_eq, slK_l, slK_f, slK_t, slK_s, aRev, aFrz, unown, aGet2, aPut, aDisp, iSeq, iText, iRange1, iRange2, iEnumL, iEnumT, pm_nil, pm_cons, flatA, tV, isQ_non, isQ_bl, isQ_int, isQ_str, isQ_lst, isQ_frz, isQ_tup, isQ_dic, isQ_ins, okQ_non, okQ_bl, okQ_int, okQ_str, okQ_lst, okQ_frz, okQ_tup, okQ_dic, okQ_ins, isN_non, isN_bl, isN_int, isN_str, isN_lst, isN_tup, isN_ins, dr_p, dr_own', drO_l, drO_d, drO_i, eqK_ii, eqK_ss, eqK_bb, eqK_is, eqK_si, eqK_nn, eqK_ns, eqK_sn, eqK_ni, eqK_in, eqK_l0, eqK_t0, aFor_eq, aLc_eq, gA_nm, gA_tp, wipeA, oIn, atI_0, atI_1, atI_2, atI_3, atI_4, atI_m1, sizeLine_eq, and_assoc, os_same, os_ne, os_app]
        simp [aSeq, aIfS, aB_eq, blR_p, aOp, aVar, aStart, aC, aRet, aRetN, aDrop, aNext, aNever, aAsg, agName, agTup, agSub, setAll, aPar_cons, aCall, aCall1_eq, call1R_1, call1R_2, aMake, aMeth_eq, methR_p, resP, res1, resM, toOne, aCons, aNil, aTup, aLst, aLstO, oAdd_eq, addK_ii, addK_ss, addK_ll, addK_fl, addK_tt, oSub, oMul_eq, mulK_ii, mulK_li, oMod, oDiv, oI, oE, oIs, oInI, oIxI, oIx_eq, ixK_l, ixK_t, ixK_f, ixK_s, aNeg, aChain_eq, aAndV_eq, aOrV_eq, aNotV_eq, aAnd, aOr, aNot, aIf, aBM, mAppend, mExtend, mPop, aJoin, aCB, cLen_1, lenK_l, lenK_t, lenK_f, lenK_s, lenK_d, cOrd, cInt_1, intK_i, intK_b, cAbs, cTuple, cList, cAll, cIsi, aIsT, aFld_eq, fldR_p, fldR_of, aSetF_eq, setFR_o, setFO_i, ofS_inj, lk_hit, lk_miss, putA, aSl, aPart, aNoPart, oSl_eq, slK_l, slK_f, slK_t, slK_s, aRev, aFrz, unown, aGet2, aPut, aDisp, iSeq, iText, iRange1, iRange2, iEnumL, iEnumT, pm_nil, pm_cons, flatA, tV, isQ_non, isQ_bl, isQ_int, isQ_str, isQ_lst, isQ_frz, isQ_tup, isQ_dic, isQ_ins, okQ_non, okQ_bl, okQ_int, okQ_str, okQ_lst, okQ_frz, okQ_tup, okQ_dic, okQ_ins, isN_non, isN_bl, isN_int, isN_str, isN_lst, isN_tup, isN_ins, dr_p, dr_own', drO_l, drO_d, drO_i, eqK_ii, eqK_ss, eqK_bb, eqK_is, eqK_si, eqK_nn, eqK_ns, eqK_sn, eqK_ni, eqK_in, eqK_l0, eqK_t0, aFor_eq, aLc_eq, gA_nm, gA_tp, wipeA, oIn, atI_0, atI_1, atI_2, atI_3, atI_4, atI_m1, sizeLine_eq, and_assoc, os_same, os_ne, os_app, cIsE_1, XS, ise_TagError, ise_ValueError]
        refine ⟨_, _, _, _, rfl, .finished, ?_⟩
        simp [aSeq, aIfS, aB_eq, blR_p, aOp, aVar, aStart, aC, aRet, aRetN, aDrop, aNext, aNever, aAsg, agName, agTup, agSub, setAll, aPar_cons, aCall, aCall1_eq, call1R_1, call1R_2, aMake, aMeth_eq, methR_p, resP, res1, resM, toOne, aCons, aNil, aTup, aLst, aLstO, oAdd_eq, addK_ii, addK_ss, addK_ll, addK_fl, addK_tt, oSub, oMul_eq, mulK_ii, mulK_li, oMod, oDiv, oI, oE, oIs, oInI, oIxI, oIx_eq, ixK_l, ixK_t, ixK_f, ixK_s, aNeg, aChain_eq, aAndV_eq, aOrV_eq, aNotV_eq, aAnd, aOr, aNot, aIf, aBM, mAppend, mExtend, mPop, aJoin, aCB, cLen_1, lenK_l, lenK_t, lenK_f, lenK_s, lenK_d, cOrd, cInt_1, intK_i, intK_b, cAbs, cTuple, cList, cAll, cIsi, aIsT, aFld_eq, fldR_p, fldR_of, aSetF_eq, setFR_o, setFO_i, ofS_inj, lk_hit, lk_miss, putA, aSl, aPart, aNoPart, oSl_eq, slK_l, slK_f, slK_t, slK_s, aRev, aFrz, unown, aGet2, aPut, aDisp, iSeq, iText, iRange1, iRange2, iEnumL, iEnumT, pm_nil, pm_cons, flatA, tV, isQ_non, isQ_bl, isQ_int, isQ_str, isQ_lst, isQ_frz, isQ_tup, isQ_dic, isQ_ins, okQ_non, okQ_bl, okQ_int, okQ_str, okQ_lst, okQ_frz, okQ_tup, okQ_dic, okQ_ins, isN_non, isN_bl, isN_int, isN_str, isN_lst, isN_tup, isN_ins, dr_p, dr_own', drO_l, drO_d, drO_i, eqK_ii, eqK_ss, eqK_bb, eqK_is, eqK_si, eqK_nn, eqK_ns, eqK_sn, eqK_ni, eqK_in, eqK_l0, eqK_t0, aFor_eq, aLc_eq, gA_nm, gA_tp, wipeA, oIn, atI_0, atI_1, atI_2, atI_3, atI_4, atI_m1, sizeLine_eq, and_assoc, os_same, os_ne, os_app]
        refine ⟨by omega, lcM (fB 6) trivial (by rw [hERR]; unfold rgA; simp [sizeLine_eq]) ?_ ?_⟩
        · intro a ha κ' hk
          obtain ⟨k, rfl⟩ : ∃ k, a = .int k := by
            unfold rgA at ha
            obtain ⟨k, _, rfl⟩ := List.mem_map.mp ha
            exact ⟨_, rfl⟩
          simp [aSeq, aIfS, aB_eq, blR_p, aOp, aVar, aStart, aC, aRet, aRetN, aDrop, aNext, aNever, aAsg, agName, agTup, agSub, setAll, aPar_cons, aCall, aCall1_eq, call1R_1, call1R_2, aMake, aMeth_eq, methR_p, resP, res1, resM, toOne, aCons, aNil, aTup, aLst, aLstO, oAdd_eq, addK_ii, addK_ss, addK_ll, addK_fl, addK_tt, oSub, oMul_eq, mulK_ii, mulK_li, oMod, oDiv, oI, oE, oIs, oInI, oIxI, oIx_eq, ixK_l, ixK_t, ixK_f, ixK_s, aNeg, aChain_eq, aAndV_eq, aOrV_eq, aNotV_eq, aAnd, aOr, aNot, aIf, aBM, mAppend, mExtend, mPop, aJoin, aCB, cLen_1, lenK_l, lenK_t, lenK_f, lenK_s, lenK_d, cOrd, cInt_1, intK_i, intK_b, cAbs, cTuple, cList, cAll, cIsi, aIsT, aFld_eq, fldR_p, fldR_of, aSetF_eq, setFR_o, setFO_i, ofS_inj, lk_hit, lk_miss, putA, aSl, aPart, aNoPart, oSl_eq, slK_l, slK_f, slK_t, slK_s, aRev, aFrz, unown, aGet2, aPut, aDisp, iSeq, iText, iRange1, iRange2, iEnumL, iEnumT, pm_nil, pm_cons, flatA, tV, isQ_non, isQ_bl, isQ_int, isQ_str, isQ_lst, isQ_frz, isQ_tup, isQ_dic, isQ_ins, okQ_non, okQ_bl, okQ_int, okQ_str, okQ_lst, okQ_frz, okQ_tup, okQ_dic, okQ_ins, isN_non, isN_bl, isN_int, isN_str, isN_lst, isN_tup, isN_ins, dr_p, dr_own', drO_l, drO_d, drO_i, eqK_ii, eqK_ss, eqK_bb, eqK_is, eqK_si, eqK_nn, eqK_ns, eqK_sn, eqK_ni, eqK_in, eqK_l0, eqK_t0, aFor_eq, aLc_eq, gA_nm, gA_tp, wipeA, oIn, atI_0, atI_1, atI_2, atI_3, atI_4, atI_m1, sizeLine_eq, and_assoc, os_same, os_ne, os_app]
          exact hk
        · rw [hERR, rg8]
          simp [aSeq, aIfS, aB_eq, blR_p, aOp, aVar, aStart, aC, aRet, aRetN, aDrop, aNext, aNever, aAsg, agName, agTup, agSub, setAll, aPar_cons, aCall, aCall1_eq, call1R_1, call1R_2, aMake, aMeth_eq, methR_p, resP, res1, resM, toOne, aCons, aNil, aTup, aLst, aLstO, oAdd_eq, addK_ii, addK_ss, addK_ll, addK_fl, addK_tt, oSub, oMul_eq, mulK_ii, mulK_li, oMod, oDiv, oI, oE, oIs, oInI, oIxI, oIx_eq, ixK_l, ixK_t, ixK_f, ixK_s, aNeg, aChain_eq, aAndV_eq, aOrV_eq, aNotV_eq, aAnd, aOr, aNot, aIf, aBM, mAppend, mExtend, mPop, aJoin, aCB, cLen_1, lenK_l, lenK_t, lenK_f, lenK_s, lenK_d, cOrd, cInt_1, intK_i, intK_b, cAbs, cTuple, cList, cAll, cIsi, aIsT, aFld_eq, fldR_p, fldR_of, aSetF_eq, setFR_o, setFO_i, ofS_inj, lk_hit, lk_miss, putA, aSl, aPart, aNoPart, oSl_eq, slK_l, slK_f, slK_t, slK_s, aRev, aFrz, unown, aGet2, aPut, aDisp, iSeq, iText, iRange1, iRange2, iEnumL, iEnumT, pm_nil, pm_cons, flatA, tV, isQ_non, isQ_bl, isQ_int, isQ_str, isQ_lst, isQ_frz, isQ_tup, isQ_dic, isQ_ins, okQ_non, okQ_bl, okQ_int, okQ_str, okQ_lst, okQ_frz, okQ_tup, okQ_dic, okQ_ins, isN_non, isN_bl, isN_int, isN_str, isN_lst, isN_tup, isN_ins, dr_p, dr_own', drO_l, drO_d, drO_i, eqK_ii, eqK_ss, eqK_bb, eqK_is, eqK_si, eqK_nn, eqK_ns, eqK_sn, eqK_ni, eqK_in, eqK_l0, eqK_t0, aFor_eq, aLc_eq, gA_nm, gA_tp, wipeA, oIn, atI_0, atI_1, atI_2, atI_3, atI_4, atI_m1, sizeLine_eq, and_assoc, os_same, os_ne, os_app]
          refine eqFlags 6 ?_
          rw [if_pos rfl]
          exact ⟨_, _, _, _, rfl⟩
      · obtain rfl : a = .tup [.int 7, .exc "BadSpan" []] := (Option.some.inj (show some (AB.A.tup [.int 7, .exc "BadSpan" []]) = some a from hi)).symm
        simp [aSeq, aIfS, aB_eq, blR_p, aOp, aVar, aStart, aC, aRet, aRetN, aDrop, aNext, aNever, aAsg, agName, agTup, agSub, setAll, aPar_cons, aCall, aCall1_eq, call1R_1, call1R_2, aMake, aMeth_eq, methR_p, resP, res1, resM, toOne, aCons, aNil, aTup, aLst, aLstO, oAdd_eq, addK_ii, addK_ss, addK_ll, addK_fl, addK_tt, oSub, oMul_eq, mulK_ii, mulK_li, oMod, oDiv, oI, oE, oIs, oInI, oIxI, oIx_eq, ixK_l, ixK_t, ixK_f, ixK_s, aNeg, aChain_eq, aAndV_eq, aOrV_eq, aNotV_eq, aAnd, aOr, aNot, aIf, aBM, mAppend, mExtend, mPop, aJoin, aCB, cLen_1, lenK_l, lenK_t, lenK_f, lenK_s, lenK_d, cOrd, cInt_1, intK_i, intK_b, cAbs, cTuple, cList, cAll, cIsi, aIsT, aFld_eq, fldR_p, fldR_of, aSetF_eq, setFR_o, setFO_i, ofS_inj, lk_hit, lk_miss, putA, aSl, aPart, aNoPart, oSl_eq, slK_l, slK_f, slK_t, slK_s, aRev, aFrz, unown, aGet2, aPut, aDisp, iSeq, iText, iRange1, iRange2, iEnumL, iEnumT, pm_nil, pm_cons, flatA, tV, isQ_non, isQ_bl, isQ_int, isQ_str, isQ_lst, isQ_frz, isQ_tup, isQ_dic, isQ_ins, okQ_non, okQ_bl, okQ_int, okQ_str, okQ_lst, okQ_frz, okQ_tup, okQ_dic, okQ_ins, isN_non, isN_bl, isN_int, isN_str, isN_lst, isN_tup, isN_ins, dr_p, dr_own', drO_l, drO_d, drO_i, eqK_ii, eqK_ss, eqK_bb, eqK_is, eqK_si, eqK_nn, eqK_ns, eqK_sn, eqK_ni, eqK_in, eqK_l0, eqK_t0, aFor_eq, aLc_eq, gA_nm, gA_tp, wipeA, oIn, atI_0, atI_1, atI_2, atI_3, atI_4, atI_m1, sizeLine_eq, and_assoc, os_same, os_ne, os_app, aMethE_eq, methE_1, sp_BadText_told, sp_BadNode_told, sp_Unsettled_told, sp_NotPlain_told, sp_Paused_told, sp_NotPaused_told, sp_Finished_told, sp_BadSpan_told, w7, e7, l7, lr]
        refine ⟨_, _, _, _, rfl, .badspan, ?_⟩
        simp [aSeq, aIfS, aB_eq, blR_p, aOp, aVar, aStart, aC, aRet, aRetN, aDrop, aNext, aNever, aAsg, agName, agTup, agSub, setAll, aPar_cons, aCall, aCall1_eq, call1R_1, call1R_2, aMake, aMeth_eq, methR_p, resP, res1, resM, toOne, aCons, aNil, aTup, aLst, aLstO, oAdd_eq, addK_ii, addK_ss, addK_ll, addK_fl, addK_tt, oSub, oMul_eq, mulK_ii, mulK_li, oMod, oDiv, oI, oE, oIs, oInI, oIxI, oIx_eq, ixK_l, ixK_t, ixK_f, ixK_s, aNeg, aChain_eq, aAndV_eq, aOrV_eq, aNotV_eq, aAnd, aOr, aNot, aIf, aBM, mAppend, mExtend, mPop, aJoin, aCB, cLen_1, lenK_l, lenK_t, lenK_f, lenK_s, lenK_d, cOrd, cInt_1, intK_i, intK_b, cAbs, cTuple, cList, cAll, cIsi, aIsT, aFld_eq, fldR_p, fldR_of, aSetF_eq, setFR_o, setFO_i, ofS_inj, lk_hit, lk_miss, putA, aSl, aPart, aNoPart, oSl_eq, slK_l, slK_f, slK_t, slK_s, aRev, aFrz, unown, aGet2, aPut, aDisp, iSeq, iText, iRange1, iRange2, iEnumL, iEnumT, pm_nil, pm_cons, flatA, tV, isQ_non, isQ_bl, isQ_int, isQ_str, isQ_lst, isQ_frz, isQ_tup, isQ_dic, isQ_ins, okQ_non, okQ_bl, okQ_int, okQ_str, okQ_lst, okQ_frz, okQ_tup, okQ_dic, okQ_ins, isN_non, isN_bl, isN_int, isN_str, isN_lst, isN_tup, isN_ins, dr_p, dr_own', drO_l, drO_d, drO_i, eqK_ii, eqK_ss, eqK_bb, eqK_is, eqK_si, eqK_nn, eqK_ns, eqK_sn, eqK_ni, eqK_in, eqK_l0, eqK_t0, aFor_eq, aLc_eq, gA_nm, gA_tp, wipeA, oIn, atI_0, atI_1, atI_2, atI_3, atI_4, atI_m1, sizeLine_eq, and_assoc, os_same, os_ne, os_app]
        simp [aSeq, aIfS, aB_eq, blR_p, aOp, aVar, aStart, aC, aRet, aRetN, aDrop, aNext, aNever, aAsg, agName, agTup, agSub, setAll, aPar_cons, aCall, aCall1_eq, call1R_1, call1R_2, aMake, aMeth_eq, methR_p, resP, res1, resM, toOne, aCons, aNil, aTup, aLst, aLstO, oAdd_eq, addK_ii, addK_ss, addK_ll, addK_fl, addK_tt, oSub, oMul_eq, mulK_ii, mulK_li, oMod, oDiv, oI, oE, oIs, oInI, oIxI, oIx_eq, ixK_l, ixK_t, ixK_f, ixK_s, aNeg, aChain_eq, aAndV_eq, aOrV_eq, aNotV_eq, aAnd, aOr, aNot, aIf, aBM, mAppend, mExtend, mPop, aJoin, aCB, cLen_1, lenK_l, lenK_t, lenK_f, lenK_s, lenK_d, cOrd, cInt_1, intK_i, intK_b, cAbs, cTuple, cList, cAll, cIsi, aIsT, aFld_eq, fldR_p, fldR_of, aSetF_eq, setFR_o, setFO_i, ofS_inj, lk_hit, lk_miss, putA, aSl, aPart, aNoPart, oSl_eq, slK_l, slK_f, slK_t, slK_s, aRev, aFrz, unown, aGet2, aPut, aDisp, iSeq, iText, iRange1, iRange2, iEnumL, iEnumT, pm_nil, pm_cons, flatA, tV, isQ_non, isQ_bl, isQ_int, isQ_str, isQ_lst, isQ_frz, isQ_tup, isQ_dic, isQ_ins, okQ_non, okQ_bl, okQ_int, okQ_str, okQ_lst, okQ_frz, okQ_tup, okQ_dic, okQ_ins, isN_non, isN_bl, isN_int, isN_str, isN_lst, isN_tup, isN_ins, dr_p, dr_own', drO_l, drO_d, drO_i, eqK_ii, eqK_ss, eqK_bb, eqK_is, eqK_si, eqK_nn, eqK_ns, eqK_sn, eqK_ni, eqK_in, eqK_l0, eqK_t0, aFor_eq, aLc_eq, gA_nm, gA_tp, wipeA, oIn, atI_0, atI_1, atI_2, atI_3, atI_4, atI_m1, sizeLine_eq, and_assoc, os_same, os_ne, os_app, cIsE_1, XS, ise_TagError, ise_ValueError]
        refine ⟨_, _, _, _, rfl, .badspan, ?_⟩
        simp [aSeq, aIfS, aB_eq, blR_p, aOp, aVar, aStart, aC, aRet, aRetN, aDrop, aNext, aNever, aAsg, agName, agTup, agSub, setAll, aPar_cons, aCall, aCall1_eq, call1R_1, call1R_2, aMake, aMeth_eq, methR_p, resP, res1, resM, toOne, aCons, aNil, aTup, aLst, aLstO, oAdd_eq, addK_ii, addK_ss, addK_ll, addK_fl, addK_tt, oSub, oMul_eq, mulK_ii, mulK_li, oMod, oDiv, oI, oE, oIs, oInI, oIxI, oIx_eq, ixK_l, ixK_t, ixK_f, ixK_s, aNeg, aChain_eq, aAndV_eq, aOrV_eq, aNotV_eq, aAnd, aOr, aNot, aIf, aBM, mAppend, mExtend, mPop, aJoin, aCB, cLen_1, lenK_l, lenK_t, lenK_f, lenK_s, lenK_d, cOrd, cInt_1, intK_i, intK_b, cAbs, cTuple, cList, cAll, cIsi, aIsT, aFld_eq, fldR_p, fldR_of, aSetF_eq, setFR_o, setFO_i, ofS_inj, lk_hit, lk_miss, putA, aSl, aPart, aNoPart, oSl_eq, slK_l, slK_f, slK_t, slK_s, aRev, aFrz, unown, aGet2, aPut, aDisp, iSeq, iText, iRange1, iRange2, iEnumL, iEnumT, pm_nil, pm_cons, flatA, tV, isQ_non, isQ_bl, isQ_int, isQ_str, isQ_lst, isQ_frz, isQ_tup, isQ_dic, isQ_ins, okQ_non, okQ_bl, okQ_int, okQ_str, okQ_lst, okQ_frz, okQ_tup, okQ_dic, okQ_ins, isN_non, isN_bl, isN_int, isN_str, isN_lst, isN_tup, isN_ins, dr_p, dr_own', drO_l, drO_d, drO_i, eqK_ii, eqK_ss, eqK_bb, eqK_is, eqK_si, eqK_nn, eqK_ns, eqK_sn, eqK_ni, eqK_in, eqK_l0, eqK_t0, aFor_eq, aLc_eq, gA_nm, gA_tp, wipeA, oIn, atI_0, atI_1, atI_2, atI_3, atI_4, atI_m1, sizeLine_eq, and_assoc, os_same, os_ne, os_app]
        refine ⟨by omega, lcM (fB 7) trivial (by rw [hERR]; unfold rgA; simp [sizeLine_eq]) ?_ ?_⟩
        · intro a ha κ' hk
          obtain ⟨k, rfl⟩ : ∃ k, a = .int k := by
            unfold rgA at ha
            obtain ⟨k, _, rfl⟩ := List.mem_map.mp ha
            exact ⟨_, rfl⟩
          simp [aSeq, aIfS, aB_eq, blR_p, aOp, aVar, aStart, aC, aRet, aRetN, aDrop, aNext, aNever, aAsg, agName, agTup, agSub, setAll, aPar_cons, aCall, aCall1_eq, call1R_1, call1R_2, aMake, aMeth_eq, methR_p, resP, res1, resM, toOne, aCons, aNil, aTup, aLst, aLstO, oAdd_eq, addK_ii, addK_ss, addK_ll, addK_fl, addK_tt, oSub, oMul_eq, mulK_ii, mulK_li, oMod, oDiv, oI, oE, oIs, oInI, oIxI, oIx_eq, ixK_l, ixK_t, ixK_f, ixK_s, aNeg, aChain_eq, aAndV_eq, aOrV_eq, aNotV_eq, aAnd, aOr, aNot, aIf, aBM, mAppend, mExtend, mPop, aJoin, aCB, cLen_1, lenK_l, lenK_t, lenK_f, lenK_s, lenK_d, cOrd, cInt_1, intK_i, intK_b, cAbs, cTuple, cList, cAll, cIsi, aIsT, aFld_eq, fldR_p, fldR_of, aSetF_eq, setFR_o, setFO_i, ofS_inj, lk_hit, lk_miss, putA, aSl, aPart, aNoPart, oSl_eq, slK_l, slK_f, slK_t, slK_s, aRev, aFrz, unown, aGet2, aPut, aDisp, iSeq, iText, iRange1, iRange2, iEnumL, iEnumT, pm_nil, pm_cons, flatA, tV, isQ_non, isQ_bl, isQ_int, isQ_str, isQ_lst, isQ_frz, isQ_tup, isQ_dic, isQ_ins, okQ_non, okQ_bl, okQ_int, okQ_str, okQ_lst, okQ_frz, okQ_tup, okQ_dic, okQ_ins, isN_non, isN_bl, isN_int, isN_str, isN_lst, isN_tup, isN_ins, dr_p, dr_own', drO_l, drO_d, drO_i, eqK_ii, eqK_ss, eqK_bb, eqK_is, eqK_si, eqK_nn, eqK_ns, eqK_sn, eqK_ni, eqK_in, eqK_l0, eqK_t0, aFor_eq, aLc_eq, gA_nm, gA_tp, wipeA, oIn, atI_0, atI_1, atI_2, atI_3, atI_4, atI_m1, sizeLine_eq, and_assoc, os_same, os_ne, os_app]
          exact hk
        · rw [hERR, rg8]
          simp [aSeq, aIfS, aB_eq, blR_p, aOp, aVar, aStart, aC, aRet, aRetN, aDrop, aNext, aNever, aAsg, agName, agTup, agSub, setAll, aPar_cons, aCall, aCall1_eq, call1R_1, call1R_2, aMake, aMeth_eq, methR_p, resP, res1, resM, toOne, aCons, aNil, aTup, aLst, aLstO, oAdd_eq, addK_ii, addK_ss, addK_ll, addK_fl, addK_tt, oSub, oMul_eq, mulK_ii, mulK_li, oMod, oDiv, oI, oE, oIs, oInI, oIxI, oIx_eq, ixK_l, ixK_t, ixK_f, ixK_s, aNeg, aChain_eq, aAndV_eq, aOrV_eq, aNotV_eq, aAnd, aOr, aNot, aIf, aBM, mAppend, mExtend, mPop, aJoin, aCB, cLen_1, lenK_l, lenK_t, lenK_f, lenK_s, lenK_d, cOrd, cInt_1, intK_i, intK_b, cAbs, cTuple, cList, cAll, cIsi, aIsT, aFld_eq, fldR_p, fldR_of, aSetF_eq, setFR_o, setFO_i, ofS_inj, lk_hit, lk_miss, putA, aSl, aPart, aNoPart, oSl_eq, slK_l, slK_f, slK_t, slK_s, aRev, aFrz, unown, aGet2, aPut, aDisp, iSeq, iText, iRange1, iRange2, iEnumL, iEnumT, pm_nil, pm_cons, flatA, tV, isQ_non, isQ_bl, isQ_int, isQ_str, isQ_lst, isQ_frz, isQ_tup, isQ_dic, isQ_ins, okQ_non, okQ_bl, okQ_int, okQ_str, okQ_lst, okQ_frz, okQ_tup, okQ_dic, okQ_ins, isN_non, isN_bl, isN_int, isN_str, isN_lst, isN_tup, isN_ins, dr_p, dr_own', drO_l, drO_d, drO_i, eqK_ii, eqK_ss, eqK_bb, eqK_is, eqK_si, eqK_nn, eqK_ns, eqK_sn, eqK_ni, eqK_in, eqK_l0, eqK_t0, aFor_eq, aLc_eq, gA_nm, gA_tp, wipeA, oIn, atI_0, atI_1, atI_2, atI_3, atI_4, atI_m1, sizeLine_eq, and_assoc, os_same, os_ne, os_app]
          refine eqFlags 7 ?_
          rw [if_pos rfl]
          exact ⟨_, _, _, _, rfl⟩
    · rintro _ os2 ⟨b1, b2, b6, b7, rfl⟩
      exact ⟨_, _, _, _, _, _, _, rfl⟩
  · rintro _ os2 ⟨a1, a2, a3, a4, a5, a6, a7, rfl⟩
    simp [aSeq, aIfS, aB_eq, blR_p, aOp, aVar, aStart, aC, aRet, aRetN, aDrop, aNext, aNever, aAsg, agName, agTup, agSub, setAll, aPar_cons, aCall, aCall1_eq, call1R_1, call1R_2, aMake, aMeth_eq, methR_p, resP, res1, resM, toOne, aCons, aNil, aTup, aLst, aLstO, oAdd_eq, addK_ii, addK_ss, addK_ll, addK_fl, addK_tt, oSub, oMul_eq, mulK_ii, mulK_li, oMod, oDiv, oI, oE, oIs, oInI, oIxI, oIx_eq, ixK_l, ixK_t, ixK_f, ixK_s, aNeg, aChain_eq, aAndV_eq, aOrV_eq, aNotV_eq, aAnd, aOr, aNot, aIf, aBM, mAppend, mExtend, mPop, aJoin, aCB, cLen_1, lenK_l, lenK_t, lenK_f, lenK_s, lenK_d, cOrd, cInt_1, intK_i, intK_b, cAbs, cTuple, cList, cAll, cIsi, aIsT, aFld_eq, fldR_p, fldR_of, aSetF_eq, setFR_o, setFO_i, ofS_inj, lk_hit, lk_miss, putA, aSl, aPart, aNoPart, oSl_eq, slK_l, slK_f, slK_t, slK_s, aRev, aFrz, unown, aGet2, aPut, aDisp, iSeq, iText, iRange1, iRange2, iEnumL, iEnumT, pm_nil, pm_cons, flatA, tV, isQ_non, isQ_bl, isQ_int, isQ_str, isQ_lst, isQ_frz, isQ_tup, isQ_dic, isQ_ins, okQ_non, okQ_bl, okQ_int, okQ_str, okQ_lst, okQ_frz, okQ_tup, okQ_dic, okQ_ins, isN_non, isN_bl, isN_int, isN_str, isN_lst, isN_tup, isN_ins, dr_p, dr_own', drO_l, drO_d, drO_i, eqK_ii, eqK_ss, eqK_bb, eqK_is, eqK_si, eqK_nn, eqK_ns, eqK_sn, eqK_ni, eqK_in, eqK_l0, eqK_t0, aFor_eq, aLc_eq, gA_nm, gA_tp, wipeA, oIn, atI_0, atI_1, atI_2, atI_3, atI_4, atI_m1, sizeLine_eq, and_assoc, os_same, os_ne, os_app]
    exact h _
end K1

end

section
set_option Elab.async false
set_option linter.all false
set_option maxRecDepth 100000
set_option maxHeartbeats 4000000
namespace K1
open PySem PySem.Spec PyProof.Rows L2 Evl AB
abbrev s_BadText_init : Stmt := inClass (top 2) 0
theorem S_BadText_init : FnScope ["self", "place"] ["self", "place"] (defScope s_BadText_init) := ⟨rfl, rfl, rfl, by decide +kernel, rfl, by decide +kernel, by decide +kernel⟩
abbrev s_BadNode_init : Stmt := inClass (top 3) 0
theorem S_BadNode_init : FnScope ["self", "what"] ["self", "what"] (defScope s_BadNode_init) := ⟨rfl, rfl, rfl, by decide +kernel, rfl, by decide +kernel, by decide +kernel⟩
abbrev s_Unsettled_init : Stmt := inClass (top 7) 0
theorem S_Unsettled_init : FnScope ["self", "path"] ["self", "path"] (defScope s_Unsettled_init) := ⟨rfl, rfl, rfl, by decide +kernel, rfl, by decide +kernel, by decide +kernel⟩
abbrev s_NotPlain_init : Stmt := inClass (top 8) 0
theorem S_NotPlain_init : FnScope ["self", "number"] ["self", "number"] (defScope s_NotPlain_init) := ⟨rfl, rfl, rfl, by decide +kernel, rfl, by decide +kernel, by decide +kernel⟩
structure Fns (K : PySem.W.Frag) (mg : Str → Option Value) : Prop where
  g__law_state : mg "_law_state" = some (.ref (He.ga K (Str.ofString "_law_state")))
  d__law_state : ∃ fd, FunD K "_law_state" "_law_state" (defArgs s__law_state) (defBody s__law_state) (defScope s__law_state) [] [] (He.ga K (Str.ofString "_law_state")) fd
  g__law_digit : mg "_law_digit" = some (.ref (He.ga K (Str.ofString "_law_digit")))
  d__law_digit : ∃ fd, FunD K "_law_digit" "_law_digit" (defArgs s__law_digit) (defBody s__law_digit) (defScope s__law_digit) [] [] (He.ga K (Str.ofString "_law_digit")) fd
  g__law_field : mg "_law_field" = some (.ref (He.ga K (Str.ofString "_law_field")))
  d__law_field : ∃ fd, FunD K "_law_field" "_law_field" (defArgs s__law_field) (defBody s__law_field) (defScope s__law_field) [] [] (He.ga K (Str.ofString "_law_field")) fd
  g__law_classes : mg "_law_classes" = some (.ref (He.ga K (Str.ofString "_law_classes")))
  d__law_classes : ∃ fd, FunD K "_law_classes" "_law_classes" (defArgs s__law_classes) (defBody s__law_classes) (defScope s__law_classes) [] [] (He.ga K (Str.ofString "_law_classes")) fd
  g_law : mg "law" = some (.ref (He.ga K (Str.ofString "law")))
  d_law : ∃ fd, FunD K "law" "law" (defArgs s_law) (defBody s_law) (defScope s_law) [] [] (He.ga K (Str.ofString "law")) fd
  g_NotPlain : mg "NotPlain" = some (.ref (cAt K "NotPlain"))
  d_NotPlain___init__ : ∃ fd, FunD K "__init__" "NotPlain.__init__" (defArgs s_NotPlain_init) (defBody s_NotPlain_init) (defScope s_NotPlain_init) [] [] (He.ma K (cAt K "NotPlain") (Str.ofString "__init__")) fd
  m_NotPlain___init__ : Meth K (cAt K "NotPlain") (Str.ofString "__init__") (He.ma K (cAt K "NotPlain") (Str.ofString "__init__"))
  g_Unsettled : mg "Unsettled" = some (.ref (cAt K "Unsettled"))
  d_Unsettled___init__ : ∃ fd, FunD K "__init__" "Unsettled.__init__" (defArgs s_Unsettled_init) (defBody s_Unsettled_init) (defScope s_Unsettled_init) [] [] (He.ma K (cAt K "Unsettled") (Str.ofString "__init__")) fd
  m_Unsettled___init__ : Meth K (cAt K "Unsettled") (Str.ofString "__init__") (He.ma K (cAt K "Unsettled") (Str.ofString "__init__"))
  g_BadNode : mg "BadNode" = some (.ref (cAt K "BadNode"))
  d_BadNode___init__ : ∃ fd, FunD K "__init__" "BadNode.__init__" (defArgs s_BadNode_init) (defBody s_BadNode_init) (defScope s_BadNode_init) [] [] (He.ma K (cAt K "BadNode") (Str.ofString "__init__")) fd
  m_BadNode___init__ : Meth K (cAt K "BadNode") (Str.ofString "__init__") (He.ma K (cAt K "BadNode") (Str.ofString "__init__"))
  g_BadText : mg "BadText" = some (.ref (cAt K "BadText"))
  d_BadText___init__ : ∃ fd, FunD K "__init__" "BadText.__init__" (defArgs s_BadText_init) (defBody s_BadText_init) (defScope s_BadText_init) [] [] (He.ma K (cAt K "BadText") (Str.ofString "__init__")) fd
  m_BadText___init__ : Meth K (cAt K "BadText") (Str.ofString "__init__") (He.ma K (cAt K "BadText") (Str.ofString "__init__"))
  d_BadText_told : ∃ fd, FunD K "told" "BadText.told" (defArgs s_BadText_told) (defBody s_BadText_told) (defScope s_BadText_told) [] [] (He.ma K (cAt K "BadText") (Str.ofString "told")) fd
  m_BadText_told : Meth K (cAt K "BadText") (Str.ofString "told") (He.ma K (cAt K "BadText") (Str.ofString "told"))
  d_BadNode_told : ∃ fd, FunD K "told" "BadNode.told" (defArgs s_BadNode_told) (defBody s_BadNode_told) (defScope s_BadNode_told) [] [] (He.ma K (cAt K "BadNode") (Str.ofString "told")) fd
  m_BadNode_told : Meth K (cAt K "BadNode") (Str.ofString "told") (He.ma K (cAt K "BadNode") (Str.ofString "told"))
  d_Unsettled_told : ∃ fd, FunD K "told" "Unsettled.told" (defArgs s_Unsettled_told) (defBody s_Unsettled_told) (defScope s_Unsettled_told) [] [] (He.ma K (cAt K "Unsettled") (Str.ofString "told")) fd
  m_Unsettled_told : Meth K (cAt K "Unsettled") (Str.ofString "told") (He.ma K (cAt K "Unsettled") (Str.ofString "told"))
  d_NotPlain_told : ∃ fd, FunD K "told" "NotPlain.told" (defArgs s_NotPlain_told) (defBody s_NotPlain_told) (defScope s_NotPlain_told) [] [] (He.ma K (cAt K "NotPlain") (Str.ofString "told")) fd
  m_NotPlain_told : Meth K (cAt K "NotPlain") (Str.ofString "told") (He.ma K (cAt K "NotPlain") (Str.ofString "told"))
  d_Paused_told : ∃ fd, FunD K "told" "Paused.told" (defArgs s_Paused_told) (defBody s_Paused_told) (defScope s_Paused_told) [] [] (He.ma K (cAt K "Paused") (Str.ofString "told")) fd
  m_Paused_told : Meth K (cAt K "Paused") (Str.ofString "told") (He.ma K (cAt K "Paused") (Str.ofString "told"))
  d_NotPaused_told : ∃ fd, FunD K "told" "NotPaused.told" (defArgs s_NotPaused_told) (defBody s_NotPaused_told) (defScope s_NotPaused_told) [] [] (He.ma K (cAt K "NotPaused") (Str.ofString "told")) fd
  m_NotPaused_told : Meth K (cAt K "NotPaused") (Str.ofString "told") (He.ma K (cAt K "NotPaused") (Str.ofString "told"))
  d_Finished_told : ∃ fd, FunD K "told" "Finished.told" (defArgs s_Finished_told) (defBody s_Finished_told) (defScope s_Finished_told) [] [] (He.ma K (cAt K "Finished") (Str.ofString "told")) fd
  m_Finished_told : Meth K (cAt K "Finished") (Str.ofString "told") (He.ma K (cAt K "Finished") (Str.ofString "told"))
  d_BadSpan_told : ∃ fd, FunD K "told" "BadSpan.told" (defArgs s_BadSpan_told) (defBody s_BadSpan_told) (defScope s_BadSpan_told) [] [] (He.ma K (cAt K "BadSpan") (Str.ofString "told")) fd
  m_BadSpan_told : Meth K (cAt K "BadSpan") (Str.ofString "told") (He.ma K (cAt K "BadSpan") (Str.ofString "told"))
section
variable {P : Program} {w : World} {K : PySem.W.Frag} {mg : Str → Option Value} {base : Heap}
theorem chain (T : Txt K mg) (F : Fns K mg) (rest : Prop) (done : ∀ fd, FunD K "law" "law" (defArgs s_law) (defBody s_law) (defScope s_law) [] [] (He.ga K (Str.ofString "law")) fd → FnOk P w K mg base CX0 4 (He.ga K (Str.ofString "law")) fd ["script"] (cSp K sp_law) → rest) : rest := by
  obtain ⟨fd_NotPlain_init, D_NotPlain_init⟩ := F.d_NotPlain___init__
  have xe_NotPlain : MxE P w K mg base 1 "NotPlain" "NotPlain" (Str.ofString "number") := ⟨F.g_NotPlain, T.xs _ (by decide), _, fd_NotPlain_init, ["self", "number"], F.m_NotPlain___init__.at_, beq_iff_eq.mp F.m_NotPlain___init__.fn, init_ok D_NotPlain_init S_NotPlain_init (Or.inl rfl) (Or.inl rfl) (T.xs _ (by decide)) T.n_NotPlain_number rfl rfl rfl, D_NotPlain_init.bindsN (fun _ _ _ _ _ _ us hl => match us, hl with | [_, _], _ => rfl)⟩
  obtain ⟨fd_Unsettled_init, D_Unsettled_init⟩ := F.d_Unsettled___init__
  have xe_Unsettled : MxE P w K mg base 1 "Unsettled" "Unsettled" (Str.ofString "path") := ⟨F.g_Unsettled, T.xs _ (by decide), _, fd_Unsettled_init, ["self", "path"], F.m_Unsettled___init__.at_, beq_iff_eq.mp F.m_Unsettled___init__.fn, init_ok D_Unsettled_init S_Unsettled_init (Or.inl rfl) (Or.inl rfl) (T.xs _ (by decide)) T.n_Unsettled_path rfl rfl rfl, D_Unsettled_init.bindsN (fun _ _ _ _ _ _ us hl => match us, hl with | [_, _], _ => rfl)⟩
  obtain ⟨fd_BadNode_init, D_BadNode_init⟩ := F.d_BadNode___init__
  have xe_BadNode : MxE P w K mg base 1 "BadNode" "BadNode" (Str.ofString "what") := ⟨F.g_BadNode, T.xs _ (by decide), _, fd_BadNode_init, ["self", "what"], F.m_BadNode___init__.at_, beq_iff_eq.mp F.m_BadNode___init__.fn, init_ok D_BadNode_init S_BadNode_init (Or.inl rfl) (Or.inl rfl) (T.xs _ (by decide)) T.n_BadNode_what rfl rfl rfl, D_BadNode_init.bindsN (fun _ _ _ _ _ _ us hl => match us, hl with | [_, _], _ => rfl)⟩
  obtain ⟨fd_BadText_init, D_BadText_init⟩ := F.d_BadText___init__
  have xe_BadText : MxE P w K mg base 1 "BadText" "BadText" (Str.ofString "place") := ⟨F.g_BadText, T.xs _ (by decide), _, fd_BadText_init, ["self", "place"], F.m_BadText___init__.at_, beq_iff_eq.mp F.m_BadText___init__.fn, init_ok D_BadText_init S_BadText_init (Or.inl rfl) (Or.inl rfl) (T.xs _ (by decide)) T.n_BadText_place rfl rfl rfl, D_BadText_init.bindsN (fun _ _ _ _ _ _ us hl => match us, hl with | [_, _], _ => rfl)⟩
  obtain ⟨fd_BadText_told, D_BadText_told⟩ := F.d_BadText_told
  have me_BadText_told : MtE P w K mg base 1 "BadText" "told" sp_BadText_told := ⟨T.xs _ (by decide), _, fd_BadText_told, ["self"], F.m_BadText_told, fun_okD D_BadText_told S_BadText_told (by intro bs os κ h; first | (obtain ⟨_, rfl, _⟩ := h; rfl) | (obtain ⟨_, _, rfl, _⟩ := h; rfl) | (obtain ⟨_, _, _, rfl, _⟩ := h; rfl) | (obtain ⟨_, _, _, _, rfl, _⟩ := h; rfl) | (obtain ⟨_, _, _, _, _, rfl, _⟩ := h; rfl) | (obtain ⟨_, _, _, _, _, _, rfl, _⟩ := h; rfl)) (p_BadText_told T ), D_BadText_told.bindsN (fun _ _ _ _ _ _ us hl => match us, hl with | [_], _ => rfl)⟩
  obtain ⟨fd_BadNode_told, D_BadNode_told⟩ := F.d_BadNode_told
  have me_BadNode_told : MtE P w K mg base 1 "BadNode" "told" sp_BadNode_told := ⟨T.xs _ (by decide), _, fd_BadNode_told, ["self"], F.m_BadNode_told, fun_okD D_BadNode_told S_BadNode_told (by intro bs os κ h; first | (obtain ⟨_, rfl, _⟩ := h; rfl) | (obtain ⟨_, _, rfl, _⟩ := h; rfl) | (obtain ⟨_, _, _, rfl, _⟩ := h; rfl) | (obtain ⟨_, _, _, _, rfl, _⟩ := h; rfl) | (obtain ⟨_, _, _, _, _, rfl, _⟩ := h; rfl) | (obtain ⟨_, _, _, _, _, _, rfl, _⟩ := h; rfl)) (p_BadNode_told T ), D_BadNode_told.bindsN (fun _ _ _ _ _ _ us hl => match us, hl with | [_], _ => rfl)⟩
  obtain ⟨fd_Unsettled_told, D_Unsettled_told⟩ := F.d_Unsettled_told
  have me_Unsettled_told : MtE P w K mg base 1 "Unsettled" "told" sp_Unsettled_told := ⟨T.xs _ (by decide), _, fd_Unsettled_told, ["self"], F.m_Unsettled_told, fun_okD D_Unsettled_told S_Unsettled_told (by intro bs os κ h; first | (obtain ⟨_, rfl, _⟩ := h; rfl) | (obtain ⟨_, _, rfl, _⟩ := h; rfl) | (obtain ⟨_, _, _, rfl, _⟩ := h; rfl) | (obtain ⟨_, _, _, _, rfl, _⟩ := h; rfl) | (obtain ⟨_, _, _, _, _, rfl, _⟩ := h; rfl) | (obtain ⟨_, _, _, _, _, _, rfl, _⟩ := h; rfl)) (p_Unsettled_told T ), D_Unsettled_told.bindsN (fun _ _ _ _ _ _ us hl => match us, hl with | [_], _ => rfl)⟩
  obtain ⟨fd_NotPlain_told, D_NotPlain_told⟩ := F.d_NotPlain_told
  have me_NotPlain_told : MtE P w K mg base 1 "NotPlain" "told" sp_NotPlain_told := ⟨T.xs _ (by decide), _, fd_NotPlain_told, ["self"], F.m_NotPlain_told, fun_okD D_NotPlain_told S_NotPlain_told (by intro bs os κ h; first | (obtain ⟨_, rfl, _⟩ := h; rfl) | (obtain ⟨_, _, rfl, _⟩ := h; rfl) | (obtain ⟨_, _, _, rfl, _⟩ := h; rfl) | (obtain ⟨_, _, _, _, rfl, _⟩ := h; rfl) | (obtain ⟨_, _, _, _, _, rfl, _⟩ := h; rfl) | (obtain ⟨_, _, _, _, _, _, rfl, _⟩ := h; rfl)) (p_NotPlain_told T ), D_NotPlain_told.bindsN (fun _ _ _ _ _ _ us hl => match us, hl with | [_], _ => rfl)⟩
  obtain ⟨fd_Paused_told, D_Paused_told⟩ := F.d_Paused_told
  have me_Paused_told : MtE P w K mg base 1 "Paused" "told" sp_Paused_told := ⟨T.xs _ (by decide), _, fd_Paused_told, ["self"], F.m_Paused_told, fun_okD D_Paused_told S_Paused_told (by intro bs os κ h; first | (obtain ⟨_, rfl, _⟩ := h; rfl) | (obtain ⟨_, _, rfl, _⟩ := h; rfl) | (obtain ⟨_, _, _, rfl, _⟩ := h; rfl) | (obtain ⟨_, _, _, _, rfl, _⟩ := h; rfl) | (obtain ⟨_, _, _, _, _, rfl, _⟩ := h; rfl) | (obtain ⟨_, _, _, _, _, _, rfl, _⟩ := h; rfl)) (p_Paused_told T ), D_Paused_told.bindsN (fun _ _ _ _ _ _ us hl => match us, hl with | [_], _ => rfl)⟩
  obtain ⟨fd_NotPaused_told, D_NotPaused_told⟩ := F.d_NotPaused_told
  have me_NotPaused_told : MtE P w K mg base 1 "NotPaused" "told" sp_NotPaused_told := ⟨T.xs _ (by decide), _, fd_NotPaused_told, ["self"], F.m_NotPaused_told, fun_okD D_NotPaused_told S_NotPaused_told (by intro bs os κ h; first | (obtain ⟨_, rfl, _⟩ := h; rfl) | (obtain ⟨_, _, rfl, _⟩ := h; rfl) | (obtain ⟨_, _, _, rfl, _⟩ := h; rfl) | (obtain ⟨_, _, _, _, rfl, _⟩ := h; rfl) | (obtain ⟨_, _, _, _, _, rfl, _⟩ := h; rfl) | (obtain ⟨_, _, _, _, _, _, rfl, _⟩ := h; rfl)) (p_NotPaused_told T ), D_NotPaused_told.bindsN (fun _ _ _ _ _ _ us hl => match us, hl with | [_], _ => rfl)⟩
  obtain ⟨fd_Finished_told, D_Finished_told⟩ := F.d_Finished_told
  have me_Finished_told : MtE P w K mg base 1 "Finished" "told" sp_Finished_told := ⟨T.xs _ (by decide), _, fd_Finished_told, ["self"], F.m_Finished_told, fun_okD D_Finished_told S_Finished_told (by intro bs os κ h; first | (obtain ⟨_, rfl, _⟩ := h; rfl) | (obtain ⟨_, _, rfl, _⟩ := h; rfl) | (obtain ⟨_, _, _, rfl, _⟩ := h; rfl) | (obtain ⟨_, _, _, _, rfl, _⟩ := h; rfl) | (obtain ⟨_, _, _, _, _, rfl, _⟩ := h; rfl) | (obtain ⟨_, _, _, _, _, _, rfl, _⟩ := h; rfl)) (p_Finished_told T ), D_Finished_told.bindsN (fun _ _ _ _ _ _ us hl => match us, hl with | [_], _ => rfl)⟩
  obtain ⟨fd_BadSpan_told, D_BadSpan_told⟩ := F.d_BadSpan_told
  have me_BadSpan_told : MtE P w K mg base 1 "BadSpan" "told" sp_BadSpan_told := ⟨T.xs _ (by decide), _, fd_BadSpan_told, ["self"], F.m_BadSpan_told, fun_okD D_BadSpan_told S_BadSpan_told (by intro bs os κ h; first | (obtain ⟨_, rfl, _⟩ := h; rfl) | (obtain ⟨_, _, rfl, _⟩ := h; rfl) | (obtain ⟨_, _, _, rfl, _⟩ := h; rfl) | (obtain ⟨_, _, _, _, rfl, _⟩ := h; rfl) | (obtain ⟨_, _, _, _, _, rfl, _⟩ := h; rfl) | (obtain ⟨_, _, _, _, _, _, rfl, _⟩ := h; rfl)) (p_BadSpan_told T ), D_BadSpan_told.bindsN (fun _ _ _ _ _ _ us hl => match us, hl with | [_], _ => rfl)⟩
  obtain ⟨fd__law_state, D__law_state⟩ := F.d__law_state
  have c__law_state : Cl P w K mg base 1 "_law_state" sp__law_state [] := cl_of F.g__law_state D__law_state S__law_state (fun _ _ _ _ _ _ us hl => match us, hl with | [_], _ => rfl) (by intro bs os κ h; first | (obtain ⟨_, rfl, _⟩ := h; rfl) | (obtain ⟨_, _, rfl, _⟩ := h; rfl) | (obtain ⟨_, _, _, rfl, _⟩ := h; rfl) | (obtain ⟨_, _, _, _, rfl, _⟩ := h; rfl) | (obtain ⟨_, _, _, _, _, rfl, _⟩ := h; rfl) | (obtain ⟨_, _, _, _, _, _, rfl, _⟩ := h; rfl)) (p_law_state T )
  obtain ⟨fd__law_digit, D__law_digit⟩ := F.d__law_digit
  have c__law_digit : Cl P w K mg base 1 "_law_digit" sp__law_digit [] := cl_of F.g__law_digit D__law_digit S__law_digit (fun _ _ _ _ _ _ us hl => match us, hl with | [_, _], _ => rfl) (by intro bs os κ h; first | (obtain ⟨_, rfl, _⟩ := h; rfl) | (obtain ⟨_, _, rfl, _⟩ := h; rfl) | (obtain ⟨_, _, _, rfl, _⟩ := h; rfl) | (obtain ⟨_, _, _, _, rfl, _⟩ := h; rfl) | (obtain ⟨_, _, _, _, _, rfl, _⟩ := h; rfl) | (obtain ⟨_, _, _, _, _, _, rfl, _⟩ := h; rfl)) (p_law_digit T )
  obtain ⟨fd__law_field, D__law_field⟩ := F.d__law_field
  have c__law_field : Cl P w K mg base 1 "_law_field" sp__law_field [] := cl_of F.g__law_field D__law_field S__law_field (fun _ _ _ _ _ _ us hl => match us, hl with | [_], _ => rfl) (by intro bs os κ h; first | (obtain ⟨_, rfl, _⟩ := h; rfl) | (obtain ⟨_, _, rfl, _⟩ := h; rfl) | (obtain ⟨_, _, _, rfl, _⟩ := h; rfl) | (obtain ⟨_, _, _, _, rfl, _⟩ := h; rfl) | (obtain ⟨_, _, _, _, _, rfl, _⟩ := h; rfl) | (obtain ⟨_, _, _, _, _, _, rfl, _⟩ := h; rfl)) (p_law_field T )
  obtain ⟨fd__law_classes, D__law_classes⟩ := F.d__law_classes
  have c__law_classes : Cl P w K mg base 1 "_law_classes" sp__law_classes [] := cl_of F.g__law_classes D__law_classes S__law_classes (fun _ _ _ _ _ _ us hl => match us, hl with | [_], _ => rfl) (by intro bs os κ h; first | (obtain ⟨_, rfl, _⟩ := h; rfl) | (obtain ⟨_, _, rfl, _⟩ := h; rfl) | (obtain ⟨_, _, _, rfl, _⟩ := h; rfl) | (obtain ⟨_, _, _, _, rfl, _⟩ := h; rfl) | (obtain ⟨_, _, _, _, _, rfl, _⟩ := h; rfl) | (obtain ⟨_, _, _, _, _, _, rfl, _⟩ := h; rfl)) (p_law_classes T )
  obtain ⟨fd, D⟩ := F.d_law
  exact done fd D (fun_okD D S_law (by intro bs os κ h; first | (obtain ⟨_, rfl, _⟩ := h; rfl) | (obtain ⟨_, _, rfl, _⟩ := h; rfl) | (obtain ⟨_, _, _, rfl, _⟩ := h; rfl) | (obtain ⟨_, _, _, _, rfl, _⟩ := h; rfl) | (obtain ⟨_, _, _, _, _, rfl, _⟩ := h; rfl) | (obtain ⟨_, _, _, _, _, _, rfl, _⟩ := h; rfl)) (by first | exact p_law T c__law_state c__law_digit xe_NotPlain xe_Unsettled xe_BadNode xe_BadText me_BadText_told me_BadNode_told me_Unsettled_told me_NotPlain_told me_Paused_told me_NotPaused_told me_Finished_told me_BadSpan_told c__law_field c__law_classes))
end
end K1

end

section
set_option Elab.async false
set_option linter.all false
set_option maxRecDepth 100000
set_option maxHeartbeats 0
namespace K1
open PySem PySem.Spec PyProof.Rows L2 Evl AB

def faL : List He.Fa := [.free "abs", .free "int", .free "isinstance", .free "enumerate", .free "ValueError", .free "range", .free "len", .glo "BadText", .glo "BadNode", .glo "Unsettled", .glo "NotPlain", .glo "NotPaused", .glo "Paused", .glo "BadSpan", .glo "Finished", .glo "TagError", .exc "BadSpan", .exc "Finished", .exc "NotPaused", .exc "Paused", .noat "BadText" "place", .noat "BadNode" "what", .noat "Unsettled" "path", .noat "NotPlain" "number", .glo "_law_state", .glo "_law_digit", .glo "_law_field", .glo "_law_classes", .glo "law", .meth "NotPlain" "__init__", .meth "Unsettled" "__init__", .meth "BadNode" "__init__", .meth "BadText" "__init__", .meth "BadText" "told", .meth "BadNode" "told", .meth "Unsettled" "told", .meth "NotPlain" "told", .meth "Paused" "told", .meth "NotPaused" "told", .meth "Finished" "told", .meth "BadSpan" "told"]
def bxL (K : PySem.W.Frag) : List Bool := [exB K "BadText",
  exB K "BadNode",
  exB K "Unsettled",
  exB K "NotPlain",
  exB K "Paused",
  exB K "NotPaused",
  exB K "Finished",
  exB K "BadSpan",
  isE K XS (.ref (cAt K "BadText")) ise_BadText,
  isE K XS (.ref (cAt K "BadNode")) ise_BadNode,
  isE K XS (.ref (cAt K "Unsettled")) ise_Unsettled,
  isE K XS (.ref (cAt K "NotPlain")) ise_NotPlain,
  isE K XS (.ref (cAt K "NotPaused")) ise_NotPaused,
  isE K XS (.ref (cAt K "Paused")) ise_Paused,
  isE K XS (.ref (cAt K "BadSpan")) ise_BadSpan,
  isE K XS (.ref (cAt K "Finished")) ise_Finished,
  isE K XS (.ref (cAt K "TagError")) ise_TagError,
  isE K XS (.type "ValueError") ise_ValueError,
  noListB K]
def fnL : List He.DefD := [⟨("_law_state", none), "_law_state", "_law_state", defArgs s__law_state, defBody s__law_state, defScope s__law_state, [], []⟩,
  ⟨("_law_digit", none), "_law_digit", "_law_digit", defArgs s__law_digit, defBody s__law_digit, defScope s__law_digit, [], []⟩,
  ⟨("_law_field", none), "_law_field", "_law_field", defArgs s__law_field, defBody s__law_field, defScope s__law_field, [], []⟩,
  ⟨("_law_classes", none), "_law_classes", "_law_classes", defArgs s__law_classes, defBody s__law_classes, defScope s__law_classes, [], []⟩,
  ⟨("law", none), "law", "law", defArgs s_law, defBody s_law, defScope s_law, [], []⟩,
  ⟨("NotPlain", some "__init__"), "__init__", "NotPlain.__init__", defArgs s_NotPlain_init, defBody s_NotPlain_init, defScope s_NotPlain_init, [], []⟩,
  ⟨("Unsettled", some "__init__"), "__init__", "Unsettled.__init__", defArgs s_Unsettled_init, defBody s_Unsettled_init, defScope s_Unsettled_init, [], []⟩,
  ⟨("BadNode", some "__init__"), "__init__", "BadNode.__init__", defArgs s_BadNode_init, defBody s_BadNode_init, defScope s_BadNode_init, [], []⟩,
  ⟨("BadText", some "__init__"), "__init__", "BadText.__init__", defArgs s_BadText_init, defBody s_BadText_init, defScope s_BadText_init, [], []⟩,
  ⟨("BadText", some "told"), "told", "BadText.told", defArgs s_BadText_told, defBody s_BadText_told, defScope s_BadText_told, [], []⟩,
  ⟨("BadNode", some "told"), "told", "BadNode.told", defArgs s_BadNode_told, defBody s_BadNode_told, defScope s_BadNode_told, [], []⟩,
  ⟨("Unsettled", some "told"), "told", "Unsettled.told", defArgs s_Unsettled_told, defBody s_Unsettled_told, defScope s_Unsettled_told, [], []⟩,
  ⟨("NotPlain", some "told"), "told", "NotPlain.told", defArgs s_NotPlain_told, defBody s_NotPlain_told, defScope s_NotPlain_told, [], []⟩,
  ⟨("Paused", some "told"), "told", "Paused.told", defArgs s_Paused_told, defBody s_Paused_told, defScope s_Paused_told, [], []⟩,
  ⟨("NotPaused", some "told"), "told", "NotPaused.told", defArgs s_NotPaused_told, defBody s_NotPaused_told, defScope s_NotPaused_told, [], []⟩,
  ⟨("Finished", some "told"), "told", "Finished.told", defArgs s_Finished_told, defBody s_Finished_told, defScope s_Finished_told, [], []⟩,
  ⟨("BadSpan", some "told"), "told", "BadSpan.told", defArgs s_BadSpan_told, defBody s_BadSpan_told, defScope s_BadSpan_told, [], []⟩]
def chkL (K : PySem.W.Frag) : Bool := (faL.all fun f => f.ok K) && (bxL K).all id
section
variable {K : PySem.W.Frag} {h : Heap} {mg : Str → Option Value}
theorem fact (c : SaysX chkL fnL K) (i : Nat) {f : He.Fa} (h : faL[i]? = some f := by rfl) : f.ok K = true := List.all_eq_true.mp (He.ba c.chk).1 f (List.mem_of_getElem? h)
theorem bx (c : SaysX chkL fnL K) (i : Nat) {b : Bool} (h : (bxL K)[i]? = some b := by rfl) : b = true := List.all_eq_true.mp (He.ba c.chk).2 b (List.mem_of_getElem? h)
theorem def_ (c : SaysX chkL fnL K) (i : Nat) {d : He.DefD} (h : fnL[i]? = some d := by rfl) : ∃ fd, FunD K d.name d.qual d.params d.body d.scope (d.dvs K) (d.kws K) (He.fAd K d.at_) fd := c.def_ i h
theorem no_list (c : SaysX chkL fnL K) : noListB K = true := bx c 18
theorem txt_of (X : K.In h) (G : h.Ns mainGlobals mg) (c : SaysX chkL fnL K) : Txt K mg where
  f_abs := He.free_ok X G (fact c 0)
  f_int := He.free_ok X G (fact c 1)
  f_isinstance := He.free_ok X G (fact c 2)
  f_enumerate := He.free_ok X G (fact c 3)
  f_ValueError := He.free_ok X G (fact c 4)
  f_range := He.free_ok X G (fact c 5)
  f_len := He.free_ok X G (fact c 6)
  g_BadText := He.glo_ok X G (fact c 7)
  g_BadNode := He.glo_ok X G (fact c 8)
  g_Unsettled := He.glo_ok X G (fact c 9)
  g_NotPlain := He.glo_ok X G (fact c 10)
  g_NotPaused := He.glo_ok X G (fact c 11)
  g_Paused := He.glo_ok X G (fact c 12)
  g_BadSpan := He.glo_ok X G (fact c 13)
  g_Finished := He.glo_ok X G (fact c 14)
  g_TagError := He.glo_ok X G (fact c 15)
  xs := by
    intro C hC
    simp only [XS, List.mem_cons, List.not_mem_nil, or_false] at hC
    rcases hC with rfl | rfl | rfl | rfl | rfl | rfl | rfl | rfl
    · exact exB_ok (bx c 0)
    · exact exB_ok (bx c 1)
    · exact exB_ok (bx c 2)
    · exact exB_ok (bx c 3)
    · exact exB_ok (bx c 4)
    · exact exB_ok (bx c 5)
    · exact exB_ok (bx c 6)
    · exact exB_ok (bx c 7)
  ie_BadText := bx c 8
  ie_BadNode := bx c 9
  ie_Unsettled := bx c 10
  ie_NotPlain := bx c 11
  ie_NotPaused := bx c 12
  ie_Paused := bx c 13
  ie_BadSpan := bx c 14
  ie_Finished := bx c 15
  ie_TagError := bx c 16
  ie_ValueError := bx c 17
  q_BadSpan := (He.exc_ok (fact c 16)).1
  q_Finished := (He.exc_ok (fact c 17)).1
  q_NotPaused := (He.exc_ok (fact c 18)).1
  q_Paused := (He.exc_ok (fact c 19)).1
  n_BadText_place := He.noat_ok (fact c 20)
  n_BadNode_what := He.noat_ok (fact c 21)
  n_Unsettled_path := He.noat_ok (fact c 22)
  n_NotPlain_number := He.noat_ok (fact c 23)
theorem fns_of (X : K.In h) (G : h.Ns mainGlobals mg) (c : SaysX chkL fnL K) : Fns K mg where
  g__law_state := He.glo_ok X G (fact c 24)
  d__law_state := def_ c 0
  g__law_digit := He.glo_ok X G (fact c 25)
  d__law_digit := def_ c 1
  g__law_field := He.glo_ok X G (fact c 26)
  d__law_field := def_ c 2
  g__law_classes := He.glo_ok X G (fact c 27)
  d__law_classes := def_ c 3
  g_law := He.glo_ok X G (fact c 28)
  d_law := def_ c 4
  g_NotPlain := He.glo_ok X G (fact c 10)
  d_NotPlain___init__ := def_ c 5
  m_NotPlain___init__ := He.meth_ok (fact c 29)
  g_Unsettled := He.glo_ok X G (fact c 9)
  d_Unsettled___init__ := def_ c 6
  m_Unsettled___init__ := He.meth_ok (fact c 30)
  g_BadNode := He.glo_ok X G (fact c 8)
  d_BadNode___init__ := def_ c 7
  m_BadNode___init__ := He.meth_ok (fact c 31)
  g_BadText := He.glo_ok X G (fact c 7)
  d_BadText___init__ := def_ c 8
  m_BadText___init__ := He.meth_ok (fact c 32)
  d_BadText_told := def_ c 9
  m_BadText_told := He.meth_ok (fact c 33)
  d_BadNode_told := def_ c 10
  m_BadNode_told := He.meth_ok (fact c 34)
  d_Unsettled_told := def_ c 11
  m_Unsettled_told := He.meth_ok (fact c 35)
  d_NotPlain_told := def_ c 12
  m_NotPlain_told := He.meth_ok (fact c 36)
  d_Paused_told := def_ c 13
  m_Paused_told := He.meth_ok (fact c 37)
  d_NotPaused_told := def_ c 14
  m_NotPaused_told := He.meth_ok (fact c 38)
  d_Finished_told := def_ c 15
  m_Finished_told := He.meth_ok (fact c 39)
  d_BadSpan_told := def_ c 16
  m_BadSpan_told := He.meth_ok (fact c 40)
end
def loose : List PySem.Str := (["TagError", "BadText", "BadNode", "Paused", "NotPaused", "Finished", "Unsettled", "NotPlain", "BadSpan", "_law_cell_at", "_law_state", "_law_digit", "_law_field", "_law_classes"] : List PySem.Str)
abbrev R : PySem.W.OpenRow := PySem.W.OpenLaw.row PySem.Challenge.rw_tagpicker_k01_errors
abbrev hk : PySem.W.Hook := hookX 4 chkL fnL
def ob (s : PySem.W.SharedT) : AlX := obsXG 4 chkL fnL (HandSHeadRun.getT s)
theorem ob_eq (s : PySem.W.SharedT) : ob s = hk.obs s.abs := obsXG_eq (HandSHeadRun.getT_eq s)
theorem run1 (w : World) : HandSHeadRun.RunEq R (PySem.W.view R.prog [16]) hk ob 12000 loose (w.withFollow "special-get-raises" false) := by
  intro os
  kernel_rfl
theorem run2 (w : World) : HandSHeadRun.RunEq R (PySem.W.view R.prog [16]) hk ob 12000 loose (w.withFollow "special-get-raises" true) := by
  intro os
  kernel_rfl
end K1

end

section
open PySem PySem.W PySem.Calls PyProof.Rows
set_option Elab.async false
set_option maxRecDepth 100000
set_option maxHeartbeats 0
theorem K1.run (w : World) : HandSHeadRun.RunEq K1.R (PySem.W.view K1.R.prog [16]) K1.hk K1.ob 12000 K1.loose w := byRow2 "special-get-raises" (P := fun w => HandSHeadRun.RunEq K1.R (PySem.W.view K1.R.prog [16]) K1.hk K1.ob 12000 K1.loose w) K1.run1 K1.run2 w
theorem PySem.Challenge.cw_tagpicker_k01_errors_holds : PySem.Challenge.rw_tagpicker_k01_errors.Holds := by
  w_on; o_law
  refine HandSHeadRun.head_any (r := OpenLaw.row PySem.Challenge.rw_tagpicker_k01_errors) (q := view (OpenLaw.row PySem.Challenge.rw_tagpicker_k01_errors).prog [16]) (H := K1.hk) (ob := K1.ob) (M := 12000) (loose := K1.loose) (d := HandSHeadRun.topDef (OpenLaw.row PySem.Challenge.rw_tagpicker_k01_errors).prog 16) (kwd := []) K1.ob_eq
    (by kernel_rfl) (fun s => by kernel_rfl) K1.run (by kernel_rfl) (by kernel_rfl) (by kernel_rfl) (by rfl) (by first | assumption | decide +kernel) (by decide +kernel) ⟨rfl, rfl, rfl, rfl, rfl, by decide +kernel⟩ ?hw ?hc
  case hw => w_witness2
  case hc =>
    refine L2.walk_ofE (l := PySem.Challenge.rw_tagpicker_k01_errors) (n := 63) (k := 4) (x := "script") (CX := L2.CX0) rfl (by decide) (by kernel_rfl) ⟨rfl, by decide, by decide⟩ ?F (fun _ _ _ _ z => z)
    intro w mg fa h Y G hmg0
    obtain ⟨K, KX, c⟩ := Y
    have hmg : mg ("law" : PySem.Str) = some (.ref fa) := by
      have e : (HandSHeadRun.topDef (OpenLaw.row PySem.Challenge.rw_tagpicker_k01_errors).prog 16).name = ("law" : PySem.Str) := by kernel_rfl
      rw [← e]
      exact hmg0
    have T := K1.txt_of KX G c
    have F := K1.fns_of KX G c
    have e := hmg.symm.trans F.g_law
    cases e
    obtain ⟨fd, D⟩ := F.d_law
    have hb := L2.FunD.bindsA (ps := ["script"]) D fun _ _ _ _ _ _ us hl => match us, hl with | [_], _ => rfl
    refine ⟨K, fd, AB.cSp K K1.sp_law, KX, fun s v => hb s [v] rfl, AB.law_sp (K1.no_list c) fun ns κ hl hk => ⟨ns, rfl, rfl, hl, hk⟩, fun base _ _ => ?_⟩
    refine K1.chain (P := PySem.Challenge.rw_tagpicker_k01_errors.prog) (w := w) (K := K) (mg := mg) (base := base) T F _ fun fd2 D2 hF => ?_
    have e2 : fd2 = fd := by
      obtain ⟨_, _, _, _, _, _, _, _, _, _, _, l1, _⟩ := D.ex
      obtain ⟨_, _, _, _, _, _, _, _, _, _, _, l2, _⟩ := D2.ex
      rw [l1] at l2
      cases l2
      rfl
    subst e2
    exact hF

end
