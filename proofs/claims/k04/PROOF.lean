import PyProof.Rows.All
import Wide.All
import OpenK.AllK
import Wide.FinOn
import HandS.ForMost
import HandS.Walk
import HandS.Zip
import HandS.TupAny
import HandS.IsInst
import HandS.Wide
import HandS.StrMore
import HandS.Flow
import HandS.Style
import HandS.Small
import HandS.TupMul
import KE.KDictKeyed
import HandS.Deep
import KE.GoesEnumKw
import PyProof.Draws
import KE.GoesMore
import HandS.More
import KE.KUnpackStar
import HandS.Dict
import HandS.Set
import HandS.SetFor
import HandS.Strs
import HandS.SetBool
import PyProof.Rows.SortShellAny
import HandS.Comp
import KE.KDictPairs
import HandS.SortOrd
import HandS.SortRule
import KE.LtSeq
import KE.KDictSum
import PySem.Challenge.RW_sheafbooks_k04_whens_or_not
set_option Elab.async false
set_option linter.all false
set_option maxRecDepth 100000
set_option maxHeartbeats 4000000
-- ZBase
section
namespace Zl
open PySem PySem.Spec PyProof.Rows L2

abbrev D := PyData
abbrev AS := Addr → Prop
abbrev St := L2.St
def keyD : Key → D
  | .inl i => .int i
  | .inr x => .str x

/-- what the readings lean on: the written part, the program, the world -/
structure KW where
  F : PySem.W.Frag
  P : Program
  w : World
instance : Coe KW PySem.W.Frag := ⟨KW.F⟩
abbrev _root_.L2.Cx.KW (X : L2.Cx) : KW := ⟨X.K, X.prog, X.w⟩
/-- a tuple whose object bears no dict -/
def TQ (K : KW) (H : Hp) (a : Addr) (vs : List V) : Prop :=
  (∃ o : Obj, H a = some (.frz o (.tup vs)) ∧ o.cls = .type "tuple" ∧ o.dict = none) ∨
    ∃ (o : Obj) (its : Array Value) (n : Nat), K.F.lookup a = some o ∧ o.cls = .type "tuple" ∧ o.dict = none ∧ o.data = .seq its n ∧ its.size ≤ sizeLine ∧ Vals vs its.toList
theorem TQ.sq {K : KW} {H : Hp} {a : Addr} {vs : List V} (h : TQ K H a vs) : SqT K H a vs :=
  h.elim (fun ⟨o, h, _⟩ => .inl (.inr ⟨o, h⟩)) fun ⟨o, its, n, h1, h2, _, h3, h4, h5⟩ => .inr ⟨o, its, n, h1, h2, h3, h4, h5⟩
theorem TQ.upd {K : KW} {H : Hp} {a D : Addr} {vs : List V} {u : HO} (h : TQ K H a vs) (nD : ∀ o, ¬ H D = some (.frz o (.tup vs))) : TQ K (upd H D u) a vs :=
  h.elim (fun ⟨o, h, c⟩ => .inl ⟨o, by rw [upd_ne (fun z => by subst z; exact nD o h)]; exact h, c⟩) .inr
mutual
/-- data as a dict's key: as == has it -/
def NK : D → Option NestedKey
  | .none => some .none
  | .bool b => some (.num (if b = true then 1 else 0))
  | .int i => some (.num i)
  | .str x => some (.text x)
  | .tuple ds => (NKs ds).map .tup
  | .list _ => none
  | .dict _ => none
def NKs : List D → Option (List NestedKey)
  | [] => some []
  | d :: ds => (NK d).bind fun k => (NKs ds).map fun ks => k :: ks
end
/-- a dict whose keys are tuples, whatever is in these -/
def TupD (P : Program) (w : World) (a : Addr) (xs : List (NestedKey × Addr × V)) : Heap → Prop := fun h => (a == sysModules) = false ∧ xs.length ≤ sizeLine ∧ (xs.map (·.1)).Nodup ∧
  ∃ us : List (NestedKey × Addr × Value), Paired (fun x u => x.1 = u.1 ∧ x.2.1 = u.2.1 ∧ RelV x.2.2 u.2.2) xs us ∧ ∃ o es ep, h.get? a = some o ∧ o.ExactDict ∧ o.data = .dict es ep ∧ es.toList = us.map (entryOfKey (nestedKind P w))
def DtO (K : KW) (a : Addr) (xs : List (NestedKey × Addr × V)) : HO := .ext (TupD K.P K.w a xs)
mutual
def RD (K : KW) (Z : AS) (H : Hp) : D → V → Prop
  | .none, v => v = .non
  | .bool b, v => v = .bl b
  | .int i, v => v = .int i
  | .str x, v => v = .str x
  | .list ds, v => ∃ a vs, v = .ref a ∧ Z a ∧ H a = some (.lst vs) ∧ RDs K Z H ds vs
  | .tuple ds, v => ∃ a vs, v = .ref a ∧ TQ K H a vs ∧ RDs K Z H ds vs
  | .dict ks, v => (∃ a vs, v = .ref a ∧ Z a ∧ H a = some (.dK vs) ∧ RDk K Z H ks vs) ∨ ∃ a xs, v = .ref a ∧ Z a ∧ H a = some (DtO K a xs) ∧ RDt K Z H ks xs ∧ ks ≠ []
def RDs (K : KW) (Z : AS) (H : Hp) : List D → List V → Prop
  | [], vs => vs = []
  | d :: ds, vs => ∃ v r, vs = v :: r ∧ RD K Z H d v ∧ RDs K Z H ds r
def RDk (K : KW) (Z : AS) (H : Hp) : List (D × D) → List (Key × V) → Prop
  | [], vs => vs = []
  | (k, d) :: ds, vs => ∃ key v r, vs = (key, v) :: r ∧ k = keyD key ∧ RD K Z H d v ∧ RDk K Z H ds r
def RDt (K : KW) (Z : AS) (H : Hp) : List (D × D) → List (NestedKey × Addr × V) → Prop
  | [], vs => vs = []
  | (k, d) :: ds, vs => ∃ nk b v r, vs = (nk, b, v) :: r ∧ NK k = some nk ∧ nk.depth ≤ 8 ∧ RD K Z H k (.ref b) ∧ RD K Z H d v ∧ RDt K Z H ds r
end

section
variable {K : KW} {Z Z' : AS} {H H' : Hp}
mutual
theorem RD.mono (hz : ∀ a, Z a → Z' a) (hl : ∀ a o, Z a → H a = some o → H' a = some o) (ht : ∀ a xs, TQ K H a xs → TQ K H' a xs) :
    ∀ (d : D) (v : V), RD K Z H d v → RD K Z' H' d v
  | .none, v, h => by simpa only [RD] using h
  | .bool b, v, h => by simpa only [RD] using h
  | .int i, v, h => by simpa only [RD] using h
  | .str x, v, h => by simpa only [RD] using h
  | .list ds, v, h => by
    simp only [RD] at h ⊢
    obtain ⟨a, vs, e, z, q, r⟩ := h
    exact ⟨a, vs, e, hz a z, hl a _ z q, RDs.mono hz hl ht ds vs r⟩
  | .tuple ds, v, h => by
    simp only [RD] at h ⊢
    obtain ⟨a, vs, e, q, r⟩ := h
    exact ⟨a, vs, e, ht a _ q, RDs.mono hz hl ht ds vs r⟩
  | .dict ks, v, h => by
    simp only [RD] at h ⊢
    rcases h with ⟨a, vs, e, z, q, r⟩ | ⟨a, vs, e, z, q, r⟩
    · exact .inl ⟨a, vs, e, hz a z, hl a _ z q, RDk.mono hz hl ht ks vs r⟩
    · exact .inr ⟨a, vs, e, hz a z, hl a _ z q, RDt.mono hz hl ht ks vs r.1, r.2⟩
theorem RDs.mono (hz : ∀ a, Z a → Z' a) (hl : ∀ a o, Z a → H a = some o → H' a = some o) (ht : ∀ a xs, TQ K H a xs → TQ K H' a xs) :
    ∀ (ds : List D) (vs : List V), RDs K Z H ds vs → RDs K Z' H' ds vs
  | [], vs, h => by simpa only [RDs] using h
  | d :: ds, vs, h => by
    simp only [RDs] at h ⊢
    obtain ⟨v, r, e, h1, h2⟩ := h
    exact ⟨v, r, e, RD.mono hz hl ht d v h1, RDs.mono hz hl ht ds r h2⟩
theorem RDk.mono (hz : ∀ a, Z a → Z' a) (hl : ∀ a o, Z a → H a = some o → H' a = some o) (ht : ∀ a xs, TQ K H a xs → TQ K H' a xs) :
    ∀ (ds : List (D × D)) (vs : List (Key × V)), RDk K Z H ds vs → RDk K Z' H' ds vs
  | [], vs, h => by simpa only [RDk] using h
  | (k, d) :: ds, vs, h => by
    simp only [RDk] at h ⊢
    obtain ⟨key, v, r, e, ek, h1, h2⟩ := h
    exact ⟨key, v, r, e, ek, RD.mono hz hl ht d v h1, RDk.mono hz hl ht ds r h2⟩
theorem RDt.mono (hz : ∀ a, Z a → Z' a) (hl : ∀ a o, Z a → H a = some o → H' a = some o) (ht : ∀ a xs, TQ K H a xs → TQ K H' a xs) :
    ∀ (ds : List (D × D)) (vs : List (NestedKey × Addr × V)), RDt K Z H ds vs → RDt K Z' H' ds vs
  | [], vs, h => by simpa only [RDt] using h
  | (k, d) :: ds, vs, h => by
    simp only [RDt] at h ⊢
    obtain ⟨nk, b, v, r, e, e1, e2, h0, h1, h2⟩ := h
    exact ⟨nk, b, v, r, e, e1, e2, RD.mono hz hl ht k _ h0, RD.mono hz hl ht d v h1, RDt.mono hz hl ht ds r h2⟩
end
end

/-- a container that one slot alone holds -/
inductive O where
  | lst (ds : List D)
  | dct (ks : List (Key × D))
  | dtp (ks : List (D × D))
def dkv (ks : List (Key × D)) : List (D × D) := ks.map fun p => (keyD p.1, p.2)
def O.toD : O → D
  | .lst ds => .list ds
  | .dct ks => .dict (dkv ks)
  | .dtp ks => .dict ks
/-- a slot -/
inductive Sl where
  | no
  | val (d : D)
  | own (b : Bool) (o : O)
  | scr (ns : List Int)
abbrev Rho := List Sl
/-- an expression's value -/
inductive R where
  | val (d : D)
  | own (o : O)
  | bor (i : Nat)
inductive Fl where
  | nx | bk | ct | rt (r : R)

section
variable (K : KW) (Z : AS) (H : Hp)
def RO : O → Addr → Prop
  | .lst ds, a => ∃ vs, H a = some (.lst vs) ∧ RDs K Z H ds vs
  | .dct ks, a => ∃ vs, H a = some (.dK vs) ∧ RDk K Z H (dkv ks) vs
  | .dtp ks, a => ∃ vs, H a = some (DtO K a vs) ∧ RDt K Z H ks vs ∧ ks ≠ []
def Scr (a : Addr) (ns : List Int) : Prop :=
  (∃ o, H a = some (.frz o (.lst (ns.map V.int)))) ∨
    ∃ (o : Obj) (its : Array Value) (n : Nat), K.F.lookup a = some o ∧ o.cls = .type "list" ∧ o.dict = none ∧ o.data = .seq its n ∧ its.size ≤ sizeLine ∧ Vals (ns.map V.int) its.toList
end
/-- what a list or dict of our own looks like -/
def MutO (K : KW) (H : Hp) (a : Addr) : Prop := (∃ vs, H a = some (.lst vs)) ∨ (∃ vs, H a = some (.dK vs)) ∨ ∃ vs, H a = some (DtO K a vs)
theorem MutO.tup {K : KW} {H : Hp} {a : Addr} (h : MutO K H a) {xs : List V} (e : H a = some (.tup xs)) : False := by
  rcases h with ⟨vs, h⟩ | ⟨vs, h⟩ | ⟨vs, h⟩ <;> (rw [e] at h; cases h)
theorem MutO.frz {K : KW} {H : Hp} {a : Addr} (h : MutO K H a) {o : Obj} {u : HO} (e : H a = some (.frz o u)) : False := by
  rcases h with ⟨vs, h⟩ | ⟨vs, h⟩ | ⟨vs, h⟩ <;> (rw [e] at h; cases h)
theorem MutO.live {K : KW} {H : Hp} {a : Addr} (h : MutO K H a) : H a ≠ none := by
  rcases h with ⟨vs, h⟩ | ⟨vs, h⟩ | ⟨vs, h⟩ <;> (rw [h]; exact fun z => nomatch z)
theorem RO.mut {K : KW} {Z : AS} {H : Hp} {o : O} {a : Addr} (h : RO K Z H o a) : MutO K H a := by
  cases o with
  | lst ds => obtain ⟨vs, e, _⟩ := h; exact .inl ⟨vs, e⟩
  | dct ds => obtain ⟨vs, e, _⟩ := h; exact .inr (.inl ⟨vs, e⟩)
  | dtp ds => obtain ⟨vs, e, _⟩ := h; exact .inr (.inr ⟨vs, e⟩)
def Ow (ρ : Rho) (σ : St) (a : Addr) : Prop := ∃ (i : Nat) (b : Bool) (o : O), ρ[i]? = some (Sl.own b o) ∧ σ[i]? = some (some (V.ref a))
structure Fr (K : KW) (Z : AS) (H : Hp) (ρ : Rho) (σ : St) : Prop where
  zl : ∀ a, Z a → H a ≠ none
  len : ρ.length = σ.length
  val : ∀ (i : Nat) (d : D), ρ[i]? = some (Sl.val d) → ∃ v, σ[i]? = some (some v) ∧ RD K Z H d v
  own : ∀ (i : Nat) (b : Bool) (o : O), ρ[i]? = some (Sl.own b o) → ∃ a, σ[i]? = some (some (V.ref a)) ∧ ¬ Z a ∧ RO K Z H o a
  scr : ∀ (i : Nat) (ns : List Int), ρ[i]? = some (Sl.scr ns) → ∃ a, σ[i]? = some (some (V.ref a)) ∧ Scr K H a ns
  apart : ∀ (i j : Nat) (b b' : Bool) (o o' : O) (a : Addr), ρ[i]? = some (Sl.own b o) → ρ[j]? = some (Sl.own b' o') → σ[i]? = some (some (V.ref a)) → σ[j]? = some (some (V.ref a)) → i = j
/-- from one state to another: what is changed -/
structure Stp (Z : AS) (H : Hp) (W : AS) (Z' : AS) (H' : Hp) (W' : AS) : Prop where
  keep : ∀ a o, H a = some o → ¬ W a → H' a = some o
  zm : ∀ a, Z a → Z' a
  zn : ∀ a, Z' a → Z a ∨ H a = none ∨ W a
  wn : ∀ a, W' a → W a ∨ H a = none
  gr : ∀ a, H' a = none → H a = none
theorem Stp.refl (Z : AS) (H : Hp) (W : AS) : Stp Z H W Z H W := ⟨fun _ _ h _ => h, fun _ h => h, fun _ h => .inl h, fun _ h => .inl h, fun _ h => h⟩
theorem Stp.trans {Z : AS} {H : Hp} {W : AS} {Z1 : AS} {H1 : Hp} {W1 : AS} {Z2 : AS} {H2 : Hp} {W2 : AS} (s : Stp Z H W Z1 H1 W1) (t : Stp Z1 H1 W1 Z2 H2 W2) : Stp Z H W Z2 H2 W2 where
  keep := fun a o h w => t.keep a o (s.keep a o h w) fun w1 => (s.wn a w1).elim w fun n => by rw [h] at n; cases n
  zm := fun a h => t.zm a (s.zm a h)
  zn := fun a h => by
    rcases t.zn a h with h | h | h
    · exact s.zn a h
    · exact .inr (.inl (s.gr a h))
    · rcases s.wn a h with h | h
      · exact .inr (.inr h)
      · exact .inr (.inl h)
  wn := fun a h => by
    rcases t.wn a h with h | h
    · exact s.wn a h
    · exact .inr (s.gr a h)
  gr := fun a h => s.gr a (t.gr a h)
structure Go (K : KW) (Z : AS) (H : Hp) (ρ : Rho) (σ : St) (Z' : AS) (H' : Hp) (ρ' : Rho) (σ' : St) : Prop where
  st : Stp Z H (Ow ρ σ) Z' H' (Ow ρ' σ')
  fr : Fr K Z' H' ρ' σ'
  par : ∀ (i : Nat) (o' : O), ρ'[i]? = some (Sl.own true o') → (∃ o, ρ[i]? = some (Sl.own true o)) ∧ σ'[i]? = σ[i]?

section
variable {K : KW} {Z Z1 Z2 Z' : AS} {H H0 H1 H2 H' : Hp} {ρ ρ1 ρ2 ρ' : Rho} {σ σ1 σ2 σ' : St}
theorem Fr.nz (f : Fr K Z H ρ σ) {a : Addr} (w : Ow ρ σ a) : ¬ Z a := by
  obtain ⟨i, b, o, h1, h2⟩ := w
  obtain ⟨a', e, nz, _⟩ := f.own i b o h1
  rw [h2] at e; cases e
  exact nz
theorem Fr.mut (f : Fr K Z H ρ σ) {a : Addr} (w : Ow ρ σ a) : MutO K H a := by
  obtain ⟨i, b, o, h1, h2⟩ := w
  obtain ⟨a', e, _, r⟩ := f.own i b o h1
  rw [h2] at e; cases e
  exact r.mut
theorem sqT_keep {W : AS} (hk : ∀ a o, H a = some o → ¬ W a → H' a = some o) (hw : ∀ a, W a → MutO K H a) :
    ∀ a xs, TQ K H a xs → TQ K H' a xs := fun a xs h => by
  rcases h with ⟨o, h, c⟩ | h
  · exact .inl ⟨o, hk a _ h fun w => (hw a w).frz h, c⟩
  · exact .inr h
theorem Fr.sqT (f : Fr K Z H ρ σ) (s : Stp Z H (Ow ρ σ) Z' H' (Ow ρ' σ')) : ∀ a xs, TQ K H a xs → TQ K H' a xs := sqT_keep s.keep fun _ w => f.mut w
theorem Fr.rd (f : Fr K Z H ρ σ) (s : Stp Z H (Ow ρ σ) Z' H' (Ow ρ' σ')) {d : D} {v : V} (h : RD K Z H d v) : RD K Z' H' d v :=
  RD.mono s.zm (fun a o z e => s.keep a o e fun w => f.nz w z) (f.sqT s) d v h
theorem Fr.rds (f : Fr K Z H ρ σ) (s : Stp Z H (Ow ρ σ) Z' H' (Ow ρ' σ')) {d : List D} {v : List V} (h : RDs K Z H d v) : RDs K Z' H' d v :=
  RDs.mono s.zm (fun a o z e => s.keep a o e fun w => f.nz w z) (f.sqT s) d v h
theorem Fr.rdk (f : Fr K Z H ρ σ) (s : Stp Z H (Ow ρ σ) Z' H' (Ow ρ' σ')) {d : List (D × D)} {v : List (Key × V)} (h : RDk K Z H d v) : RDk K Z' H' d v :=
  RDk.mono s.zm (fun a o z e => s.keep a o e fun w => f.nz w z) (f.sqT s) d v h
theorem Fr.rdt (f : Fr K Z H ρ σ) (s : Stp Z H (Ow ρ σ) Z' H' (Ow ρ' σ')) {d : List (D × D)} {v : List (NestedKey × Addr × V)} (h : RDt K Z H d v) : RDt K Z' H' d v :=
  RDt.mono s.zm (fun a o z e => s.keep a o e fun w => f.nz w z) (f.sqT s) d v h
theorem Fr.ro (f : Fr K Z H ρ σ) (s : Stp Z H (Ow ρ σ) Z' H' (Ow ρ' σ')) {o : O} {a : Addr} (nw : ¬ Ow ρ σ a) (h : RO K Z H o a) : RO K Z' H' o a := by
  cases o with
  | lst ds => obtain ⟨vs, e, r⟩ := h; exact ⟨vs, s.keep a _ e nw, f.rds s r⟩
  | dct ds => obtain ⟨vs, e, r⟩ := h; exact ⟨vs, s.keep a _ e nw, f.rdk s r⟩
  | dtp ds => obtain ⟨vs, e, r⟩ := h; exact ⟨vs, s.keep a _ e nw, f.rdt s r.1, r.2⟩
theorem Go.refl (f : Fr K Z H ρ σ) : Go K Z H ρ σ Z H ρ σ := ⟨.refl _ _ _, f, fun _ o h => ⟨⟨o, h⟩, rfl⟩⟩
theorem Go.trans (a : Go K Z H ρ σ Z1 H1 ρ1 σ1) (b : Go K Z1 H1 ρ1 σ1 Z2 H2 ρ2 σ2) : Go K Z H ρ σ Z2 H2 ρ2 σ2 :=
  ⟨a.st.trans b.st, b.fr, fun i o h => by
    obtain ⟨⟨o1, h1⟩, e1⟩ := b.par i o h
    obtain ⟨h2, e2⟩ := a.par i o1 h1
    exact ⟨h2, e1.trans e2⟩⟩

/-- what a value is, behind an expression that began at H0 -/
def RR (K : KW) (H0 : Hp) (Z : AS) (H : Hp) (ρ : Rho) (σ : St) : R → V → Prop
  | .val d, v => RD K Z H d v
  | .own o, v => ∃ a, v = .ref a ∧ ¬ Z a ∧ ¬ Ow ρ σ a ∧ RO K Z H o a ∧ H0 a = none
  | .bor i, v => σ[i]? = some (some v)
theorem RR.go {r : R} {v : V} (f : Fr K Z1 H1 ρ1 σ) (g : Go K Z1 H1 ρ1 σ Z2 H2 ρ2 σ) (h : RR K H0 Z1 H1 ρ1 σ r v) : RR K H0 Z2 H2 ρ2 σ r v := by
  cases r with
  | val d => exact f.rd g.st h
  | bor i => exact h
  | own o =>
    obtain ⟨a, e, nz, nw, ro, n0⟩ := h
    have hs : H1 a ≠ none := ro.mut.live
    refine ⟨a, e, fun z => ?_, fun w => ?_, f.ro g.st nw ro, n0⟩
    · rcases g.st.zn a z with z | z | z
      · exact nz z
      · exact hs z
      · exact nw z
    · rcases g.st.wn a w with z | z
      · exact nw z
      · exact hs z
/-- a dict, its values data -/
def RDd (K : KW) (Z : AS) (H : Hp) (ks : List (D × D)) (v : V) : Prop := (∃ a vs, v = .ref a ∧ H a = some (.dK vs) ∧ RDk K Z H ks vs) ∨ ∃ a xs, v = .ref a ∧ H a = some (DtO K a xs) ∧ RDt K Z H ks xs ∧ ks ≠ []
/-- a value that is read: a list as it stands (its items are data) -/
def RV (K : KW) (Z : AS) (H : Hp) : D → V → Prop
  | .list ds, v => ∃ a vs, v = .ref a ∧ SqL K H a vs ∧ RDs K Z H ds vs
  | .dict ks, v => RDd K Z H ks v
  | d, v => RD K Z H d v
/-- the same, a tracked list -/
def RT (K : KW) (Z : AS) (H : Hp) : D → V → Prop
  | .list ds, v => ∃ a vs, v = .ref a ∧ H a = some (.lst vs) ∧ RDs K Z H ds vs
  | .dict ks, v => RDd K Z H ks v
  | d, v => RD K Z H d v
theorem RD.rt {d : D} {v : V} (h : RD K Z H d v) : RT K Z H d v := by
  cases d with
  | list ds => simp only [RD] at h; obtain ⟨a, vs, e, _, q, r⟩ := h; exact ⟨a, vs, e, q, r⟩
  | dict ds =>
    simp only [RD] at h
    rcases h with ⟨a, vs, e, _, q, r⟩ | ⟨a, vs, e, _, q, r⟩
    · exact .inl ⟨a, vs, e, q, r⟩
    · exact .inr ⟨a, vs, e, q, r⟩
  | _ => exact h
theorem RT.rv {d : D} {v : V} (h : RT K Z H d v) : RV K Z H d v := by
  cases d with
  | list ds => obtain ⟨a, vs, e, q, r⟩ := h; exact ⟨a, vs, e, .of q, r⟩
  | _ => exact h
theorem RO.rt {o : O} {a : Addr} (h : RO K Z H o a) : RT K Z H o.toD (.ref a) := by
  cases o with
  | lst ds => obtain ⟨vs, q, r⟩ := h; exact ⟨a, vs, rfl, q, r⟩
  | dct ds => obtain ⟨vs, q, r⟩ := h; exact .inl ⟨a, vs, rfl, q, r⟩
  | dtp ds => obtain ⟨vs, q, r⟩ := h; exact .inr ⟨a, vs, rfl, q, r⟩
theorem rds_ints : ∀ ns : List Int, RDs K Z H (ns.map PyData.int) (ns.map V.int)
  | [] => by simp only [List.map_nil, RDs]
  | n :: ns => by
    simp only [List.map_cons, RDs, RD]
    exact ⟨_, _, rfl, rfl, rds_ints ns⟩
theorem Scr.sq {a : Addr} {ns : List Int} (h : Scr K H a ns) : SqL K H a (ns.map V.int) := h.elim (fun ⟨o, h⟩ => .inl (.inr ⟨o, h⟩)) .inr
def rs (ρ : Rho) : R → Option D
  | .val d => some d
  | .own o => some o.toD
  | .bor i => match ρ[i]? with
    | some (.val d) => some d
    | some (.own _ o) => some o.toD
    | some (.scr ns) => some (.list (ns.map PyData.int))
    | _ => none
def rsT (ρ : Rho) : R → Option D
  | .val d => some d
  | .own o => some o.toD
  | .bor i => match ρ[i]? with
    | some (.val d) => some d
    | some (.own _ o) => some o.toD
    | _ => none
theorem rsT_ok {r : R} {v : V} {d : D} (f : Fr K Z H ρ σ) (h : RR K H0 Z H ρ σ r v) (e : rsT ρ r = some d) : RT K Z H d v := by
  cases r with
  | val d => cases e; exact RD.rt h
  | own o => cases e; obtain ⟨a, rfl, _, _, ro, _⟩ := h; exact ro.rt
  | bor i =>
    have hσ : σ[i]? = some (some v) := h
    simp only [rsT] at e
    split at e
    · rename_i d' q
      cases e
      obtain ⟨v', e', r⟩ := f.val i _ q
      rw [hσ] at e'; cases e'
      exact r.rt
    · rename_i b o q
      cases e
      obtain ⟨a, e', _, r⟩ := f.own i _ _ q
      rw [hσ] at e'; cases e'
      exact r.rt
    · cases e
theorem rs_ok {r : R} {v : V} {d : D} (f : Fr K Z H ρ σ) (h : RR K H0 Z H ρ σ r v) (e : rs ρ r = some d) : RV K Z H d v := by
  cases r with
  | val d => cases e; exact (RD.rt h).rv
  | own o => cases e; obtain ⟨a, rfl, _, _, ro, _⟩ := h; exact ro.rt.rv
  | bor i =>
    have hσ : σ[i]? = some (some v) := h
    simp only [rs] at e
    split at e
    · rename_i d' q
      cases e
      obtain ⟨v', e', r⟩ := f.val i _ q
      rw [hσ] at e'; cases e'
      exact r.rt.rv
    · rename_i b o q
      cases e
      obtain ⟨a, e', _, r⟩ := f.own i _ _ q
      rw [hσ] at e'; cases e'
      exact r.rt.rv
    · rename_i ns q
      cases e
      obtain ⟨a, e', r⟩ := f.scr i _ q
      rw [hσ] at e'; cases e'
      exact ⟨a, _, rfl, r.sq, rds_ints ns⟩
    · cases e
end
/-- only new objects -/
structure Nw (Z : AS) (H : Hp) (Z' : AS) (H' : Hp) : Prop where
  keep : ∀ a o, H a = some o → H' a = some o
  zm : ∀ a, Z a → Z' a
  zn : ∀ a, Z' a → Z a ∨ (H a = none ∧ H' a ≠ none)
section
variable {K : KW} {Z Z1 Z2 Z' : AS} {H H0 H1 H2 H' : Hp} {ρ ρ1 ρ2 ρ' : Rho} {σ σ1 σ2 σ' : St}
theorem Nw.refl (Z : AS) (H : Hp) : Nw Z H Z H := ⟨fun _ _ h => h, fun _ h => h, fun _ h => .inl h⟩
theorem Nw.gr (n : Nw Z H Z' H') {a : Addr} (h : H' a = none) : H a = none := by
  cases q : H a with
  | none => rfl
  | some o => rw [n.keep a o q] at h; cases h
theorem Nw.trans (n : Nw Z H Z1 H1) (m : Nw Z1 H1 Z2 H2) : Nw Z H Z2 H2 :=
  ⟨fun a o h => m.keep a o (n.keep a o h), fun a h => m.zm a (n.zm a h), fun a h => (m.zn a h).elim (fun h => (n.zn a h).imp id fun h => ⟨h.1, fun e => h.2 (m.gr e)⟩) fun h => .inr ⟨n.gr h.1, h.2⟩⟩
theorem Nw.upd {p : Addr} {o : HO} (h : H p = none) : Nw Z H Z (L2.upd H p o) :=
  ⟨fun a u e => by rw [upd_ne (ne_of_none e h)]; exact e, fun _ z => z, fun _ z => .inl z⟩
theorem Nw.z {p : Addr} (h : H p = none) (h' : H' p ≠ none) (n : Nw Z H Z' H') : Nw Z H (fun a => Z' a ∨ a = p) H' :=
  ⟨n.keep, fun a z => .inl (n.zm a z), fun a z => z.elim (n.zn a) fun e => by subst e; exact .inr ⟨h, h'⟩⟩
theorem Nw.sqT (n : Nw Z H Z' H') : ∀ a xs, TQ K H a xs → TQ K H' a xs := fun a xs h => by
  rcases h with ⟨o, h, c⟩ | h
  · exact .inl ⟨o, n.keep a _ h, c⟩
  · exact .inr h
theorem Nw.sqL (n : Nw Z H Z' H') : ∀ a xs, SqL K H a xs → SqL K H' a xs := fun a xs h => by
  rcases h with (h | ⟨o, h⟩) | h
  · exact .inl (.inl (n.keep a _ h))
  · exact .inl (.inr ⟨o, n.keep a _ h⟩)
  · exact .inr h
theorem Nw.rd (n : Nw Z H Z' H') {d : D} {v : V} (h : RD K Z H d v) : RD K Z' H' d v := RD.mono n.zm (fun a o _ e => n.keep a o e) n.sqT d v h
theorem Nw.rds (n : Nw Z H Z' H') {d : List D} {v : List V} (h : RDs K Z H d v) : RDs K Z' H' d v := RDs.mono n.zm (fun a o _ e => n.keep a o e) n.sqT d v h
theorem Nw.rdk (n : Nw Z H Z' H') {d : List (D × D)} {v : List (Key × V)} (h : RDk K Z H d v) : RDk K Z' H' d v := RDk.mono n.zm (fun a o _ e => n.keep a o e) n.sqT d v h
theorem Nw.rdt (n : Nw Z H Z' H') {d : List (D × D)} {v : List (NestedKey × Addr × V)} (h : RDt K Z H d v) : RDt K Z' H' d v := RDt.mono n.zm (fun a o _ e => n.keep a o e) n.sqT d v h
theorem Nw.ro (n : Nw Z H Z' H') {o : O} {a : Addr} (h : RO K Z H o a) : RO K Z' H' o a := by
  cases o with
  | lst ds => obtain ⟨vs, e, r⟩ := h; exact ⟨vs, n.keep a _ e, n.rds r⟩
  | dct ds => obtain ⟨vs, e, r⟩ := h; exact ⟨vs, n.keep a _ e, n.rdk r⟩
  | dtp ds => obtain ⟨vs, e, r⟩ := h; exact ⟨vs, n.keep a _ e, n.rdt r.1, r.2⟩
theorem Scr.keep {a : Addr} {ns : List Int} (h : Scr K H a ns) (k : ∀ o, H a = some (.frz o (.lst (ns.map V.int))) → H' a = some (.frz o (.lst (ns.map V.int)))) : Scr K H' a ns :=
  h.elim (fun ⟨o, h⟩ => .inl ⟨o, k o h⟩) .inr
theorem RO.live {o : O} {a : Addr} (h : RO K Z H o a) : H a ≠ none := h.mut.live
theorem Fr.live (f : Fr K Z H ρ σ) {a : Addr} (w : Ow ρ σ a) : H a ≠ none := (f.mut w).live
theorem Nw.fr (n : Nw Z H Z' H') (f : Fr K Z H ρ σ) : Fr K Z' H' ρ σ where
  zl := fun a z => (n.zn a z).elim (fun z e => f.zl a z (n.gr e)) (·.2)
  len := f.len
  val := fun i d h => let ⟨v, e, r⟩ := f.val i d h; ⟨v, e, n.rd r⟩
  own := fun i b o h => let ⟨a, e, nz, r⟩ := f.own i b o h; ⟨a, e, fun z => (n.zn a z).elim nz fun z => r.live z.1, n.ro r⟩
  scr := fun i ns h => let ⟨a, e, r⟩ := f.scr i ns h; ⟨a, e, r.keep fun o q => n.keep a _ q⟩
  apart := f.apart
theorem Nw.go (n : Nw Z H Z' H') (f : Fr K Z H ρ σ) : Go K Z H ρ σ Z' H' ρ σ :=
  ⟨⟨fun a o h _ => n.keep a o h, n.zm, fun a z => (n.zn a z).elim .inl fun h => .inr (.inl h.1), fun a w => .inl w, fun a h => n.gr h⟩, n.fr f, fun i o h => ⟨⟨o, h⟩, rfl⟩⟩
/-- a value made anew from (Z, H) -/
def NR (K : KW) (H : Hp) (Z' : AS) (H' : Hp) : R → V → Prop
  | .val d, v => RD K Z' H' d v
  | .own o, v => ∃ a, v = .ref a ∧ H a = none ∧ ¬ Z' a ∧ RO K Z' H' o a
  | .bor _, _ => False
theorem NR.rr {r : R} {v : V} (g : Go K Z H ρ σ Z1 H1 ρ1 σ) (n : Nw Z1 H1 Z' H') (h : NR K H1 Z' H' r v) : RR K H Z' H' ρ1 σ r v := by
  cases r with
  | val d => exact h
  | bor i => exact h.elim
  | own o =>
    obtain ⟨a, e, n1, nz, ro⟩ := h
    exact ⟨a, e, nz, fun w => g.fr.live w n1, ro, g.st.gr a n1⟩
end
end Zl
end

-- ZTm
section
/-! () * n -/
namespace L2
open PySem PySem.Spec PyProof.Rows
theorem tuple_mulE (l : Addr) (n : Nat) (dd : Option Addr) (sl : Array (Option Value)) (x : Int) (u : Tok) (c0 : (decide (x < -(2 ^ 63)) || decide (x ≥ 2 ^ 63)) = false) :
    Meets (Builtin.«tuple.__mul__» ⟨[.ref l, .int x u], []⟩) (fun _ R s => s.heap.get? l = some { cls := .type "tuple", dict := dd, data := .seq #[] n, slots := sl } ∧ R (.ok (.ret (Value.ref l))) s) :=
  .of_wp fun prog w A R s h => by
    obtain ⟨hp, g, d, tk, os⟩ := s
    obtain ⟨hl, h⟩ := h
    have f1 := AutoSeq1.idx_int
    have c1 : ((#[] : Array Value).isEmpty || x == 1) = true := rfl
    wp_walk using wpAny_loadPart' hl
    repeat (first
      | (refine wpAny_ite_false (decide_eq_false (by rw [c0]; exact Bool.false_ne_true)) ?_; wp_walk using wpAny_loadPart' hl)
      | (refine wpAny_ite_true (decide_eq_true (by rw [c1])) ?_; wp_walk using wpAny_loadPart' hl))
    exact ⟨_, rfl, h⟩
def rRepT0 (K : PySem.W.Frag) : R2 := fun x y H Q => ∃ l k, x = .ref l ∧ y = .int k ∧ SqT K H l [] ∧ 2 ≤ k ∧ k ≤ 1000 ∧ Q (.ref l) H
variable {X : Cx}
theorem op_repT0 : OpR X (binaryOp .Mult) (rRepT0 X.K) := by
  intro pins s σ H x y v u Q I rx ry h
  obtain ⟨l, k, rfl, rfl, hT, h1, h2, q⟩ := h
  cases rx
  obtain ⟨t, rfl⟩ := ry
  obtain ⟨its, r, ⟨⟨cls, dd, data, sl⟩, ho, hc, n, hd⟩, hs⟩ := I.tuple hT
  simp only at hc hd
  subst hc
  subst hd
  have hn : its = [] := List.eq_nil_of_length_eq_zero r.length.symm
  subst hn
  have c0 : (decide (k < -(2 ^ 63)) || decide (k ≥ 2 ^ 63)) = false := by
    rw [decide_eq_false (by omega), decide_eq_false (by omega)] <;> rfl
  refine wpAny_binaryOp_repeat_ref (T := "tuple") (U := "int") (by decide) ⟨_, ho, rfl⟩ (fun s' => typeIs_int s' k t) noFill_tuple_mul F.fills_int_mul F.slot_int_rmul repeat_tuple F.slot_int_index.lookup
    (call_meets F.slot_int_rmul (typeIs_int s k t) F.entry_int_rmul (F.args_int_rmul_2 _ _) (int_rmul_tuple k t l _ n dd sl)
      ⟨ho, rfl, ⟨_, ho, rfl⟩, call_meets F.slot_tuple_mul ⟨_, ho, rfl⟩ F.entry_tuple_mul (F.args_tuple_mul_2 _ _) (tuple_mulE l n dd sl k t c0) ⟨ho, ?_⟩⟩)
  exact ⟨.ref l, H, I, rfl, q⟩
end L2
end

-- ZTup
section
/-! new tuples, whose objects are known to bear no dict -/
namespace Zl
open PySem PySem.Spec PyProof.Rows L2
/-- a tuple made anew: what is asked of it -/
def NewT (xs : List V) (H : Hp) (Q : VK) : Prop := ∀ (p : Addr) (o : Obj), H p = none → o.cls = .type "tuple" → o.dict = none → Q (.ref p) (upd H p (.frz o (.tup xs)))
section
variable {X : Cx} {pins : List (Addr × Obj)} {σ : St} {H : Hp} {s : Shared}
theorem laid_T {xs : List V} {us : List Value} {tk : Nat} (I : Inv X pins σ H s) (r : Vals xs us) (z : xs.length ≤ sizeLine) :
    Inv X pins σ (upd H s.heap.objs.size (.frz { cls := .type "tuple", data := .seq us.toArray } (.tup xs))) { s with heap := s.heap.push { cls := .type "tuple", data := .seq us.toArray }, toks := tk } :=
  I.laid (t' := tk) (fun b u e => Heap.get?_push_of_some _ e) (Nat.le_refl _) ⟨Heap.get?_push_size _ rfl, z, us, r, IsTup.new _ _⟩
theorem ep_T {xs : List V} {us : List Value} {Q : VK} (I : Inv X pins σ H s) (r : Vals xs us) (z : xs.length ≤ sizeLine) (h : NewT xs H Q) :
    EP X pins σ Q (.ref s.heap.objs.size) { s with heap := s.heap.push { cls := .type "tuple", data := .seq us.toArray } } :=
  ⟨.ref s.heap.objs.size, _, laid_T (tk := s.toks) I r z, rfl, h _ _ (I.hok.fresh (Nat.le_refl _)) rfl rfl⟩
/-- (a, b, ..) -/
def tTupN (t : TA) : TE := fun σ H Q => t σ H fun xs H1 => xs.length ≤ sizeLine ∧ NewT xs H1 Q
theorem pe_tupN {es : List Expr} {t : TA} {pos : Pos} {x1} (h : PA X es t) : PE X (.Tuple es x1 pos) (tTupN t) :=
  ⟨fun pins s σ H Q I hq => wpAny_Tuple_spliced (thn (h.run pos pins s σ H _ I hq) fun us s1 ⟨xs, H1, I1, r, z, q⟩ => ⟨by rw [← r.length]; exact z, ep_T I1 r z q⟩)⟩
/-- tuple(x) -/
def rTupOf (K : PySem.W.Frag) : List V → Hp → VK → Prop := fun xs H Q => ∃ p ys, xs = [.ref p] ∧ ((SqL K H p ys ∧ NewT ys H Q) ∨ (SqT K H p ys ∧ Q (.ref p) H))
theorem call_tupN : CallR X (.type "tuple") (rTupOf X.K) := fun pins s σ H xs us Q I r h => by
  obtain ⟨p, ys, e, h⟩ := h
  rcases h with ⟨hq, q⟩ | ⟨hq, q⟩
  · subst e
    obtain ⟨u, e, rx⟩ := vals1 r
    cases rx
    subst e
    obtain ⟨its, rv, pl, hz⟩ := I.list hq
    have hl := rv.length
    refine call_tuple_list pl.isList (fun h1 kp => ep_T (I.kept (t' := s.toks) kp) rv hz q) ?_
    rw [List.size_toArray, ← hl]; exact hz
  · exact call_tupleT pins s σ H xs us Q I r ⟨p, ys, e, hq, q⟩
/-- t + u -/
def rCatN (K : PySem.W.Frag) : R2 := fun x y H Q => ∃ a b xs ys, x = .ref a ∧ y = .ref b ∧ SqT K H a xs ∧ SqT K H b ys ∧ xs.length + ys.length ≤ sizeLine ∧
  (xs = [] → Q (.ref b) H) ∧ (xs ≠ [] → ys = [] → Q (.ref a) H) ∧ (xs ≠ [] → ys ≠ [] → NewT (xs ++ ys) H Q)
theorem op_catN : OpR X (binaryOp .Add) (rCatN X.K) := fun pins s σ H x y v u Q I rx ry h => by
  obtain ⟨a, b, xs, ys, ea, eb, ha, hb, hz, q0, q1, q2⟩ := h
  subst ea eb
  by_cases hx : xs = []
  · subst hx
    exact op_catA pins s σ H _ _ v u Q I rx ry ⟨a, b, [], ys, rfl, rfl, ha, hb, hz, q0, fun z => absurd rfl z, fun z => absurd rfl z⟩
  · by_cases hy : ys = []
    · subst hy
      exact op_catA pins s σ H _ _ v u Q I rx ry ⟨a, b, xs, [], rfl, rfl, ha, hb, hz, fun z => absurd z hx, q1, fun _ z => absurd rfl z⟩
    · cases rx
      cases ry
      obtain ⟨its, r1, p1, _⟩ := I.tuple ha
      obtain ⟨its2, r2, p2, _⟩ := I.tuple hb
      refine HT.cat_tup p1 p2 (fun z => hx (r1.nil_iff.mp z)) (fun z => absurd (r2.nil_iff.mp z) hy) (fun _ => ep_T I (r1.append r2) (by rw [List.length_append]; exact hz) (q2 hx hy)) ?_
      rw [← r1.length, ← r2.length]; exact hz
/-- t[lo:hi] -/
def rSlN (K : PySem.W.Frag) : V → Option Int → Option Int → Hp → VK → Prop := fun x lo hi H Q => ∃ a xs, x = .ref a ∧ SqT K H a xs ∧
  (HT.sIx xs.length 0 lo = 0 ∧ HT.sIx xs.length xs.length hi = xs.length → Q (.ref a) H) ∧ (¬ (HT.sIx xs.length 0 lo = 0 ∧ HT.sIx xs.length xs.length hi = xs.length) → NewT (cutV xs lo hi) H Q)
theorem sl_tupN : SlR X (rSlN X.K) := fun pins s σ H x v vl vu lo hi sl Q I rx hs pl pu h => by
  obtain ⟨a, xs, ea, hx, q1, q2⟩ := h
  subst ea
  by_cases hw : HT.sIx xs.length 0 lo = 0 ∧ HT.sIx xs.length xs.length hi = xs.length
  · exact sl_tupA pins s σ H _ v vl vu lo hi sl Q I rx hs pl pu ⟨a, xs, rfl, hx, q1, fun z => absurd hw z⟩
  · cases rx
    obtain ⟨its, rv, ht, hz⟩ := I.tuple hx
    have hlen : its.toArray.size = xs.length := by rw [List.size_toArray]; exact rv.length.symm
    refine ⟨"tuple", _, PyProof.Rows.slot_tuple_getitem.lookup, ht.typeIs, HT.getItem_tuple_cut ht hs pl pu (by rw [hlen]; exact hw) ?_ (by rw [hlen]; exact hz)⟩
    rw [hlen]
    exact ep_T I ((rv.drop (HT.sIx xs.length 0 lo)).take (HT.sIx xs.length xs.length hi - HT.sIx xs.length 0 lo)) (Nat.le_trans (cutV_length xs lo hi) hz) (q2 hw)
/-- t * k -/
def rRepN (K : PySem.W.Frag) : R2 := fun x y H Q => ∃ l k xs, x = .ref l ∧ y = .int k ∧ SqT K H l xs ∧ xs ≠ [] ∧ 2 ≤ k ∧ k ≤ 1000 ∧ xs.length ≤ 1000 ∧ NewT (List.replicate k.toNat xs).flatten H Q
theorem op_repN : OpR X (binaryOp .Mult) (rRepN X.K) := fun pins s σ H x y v u Q I rx ry h => by
  obtain ⟨l, k, xs, ea, eb, hT, hne, h1, h2, hz, q⟩ := h
  subst ea eb
  cases rx
  obtain ⟨t, eu⟩ := ry
  subst eu
  obtain ⟨its, rv, ⟨⟨cls, dd, data, sl⟩, ho, hc, n, hd⟩, hs⟩ := I.tuple hT
  simp only at hc hd
  subst hc hd
  have hln : its.length = xs.length := rv.length.symm
  have hi : its.toArray.isEmpty = false := by
    cases its with
    | nil => exact absurd (List.eq_nil_of_length_eq_zero hln.symm) hne
    | cons a b => rfl
  have hsz : its.toArray.size = xs.length := by simpa using hln
  have a1 : ((xs.length : Nat) : Int) * k ≤ 1000 * k := Int.mul_le_mul_of_nonneg_right (by omega) (by omega)
  have a2 : k.toNat * xs.length ≤ 1000 * 1000 := Nat.mul_le_mul (by omega) hz
  have fz : (List.replicate k.toNat xs).flatten.length ≤ sizeLine := by rw [PyProof.Rows.lm_len_rep_flat, sizeLine_eq]; omega
  have fv : (List.replicate k.toNat its).flatten.length ≤ sizeLine := by rw [PyProof.Rows.lm_len_rep_flat, hln, sizeLine_eq]; omega
  have d0 : (decide (k < -(2 ^ 63)) || decide (k ≥ 2 ^ 63)) = false := by rw [decide_eq_false (by omega), decide_eq_false (by omega)]; rfl
  have d1 : (its.toArray.isEmpty || k == 1) = false := by rw [hi, Bool.false_or, beq_eq_false_iff_ne]; omega
  have d2 : (decide (k ≤ 0) || its.toArray.isEmpty) = false := by rw [hi, Bool.or_false, decide_eq_false (by omega)]
  have d4 : Builtin.Tuple.tupleTooMany (((its.toArray.size : Nat) : Int) * k) = false := by
    rw [hsz]; unfold Builtin.Tuple.tupleTooMany; rw [sizeLine_eq, decide_eq_false (by omega)]
  have mu := tuple_mulW l its.toArray n dd sl k t d0 d1 d2 (by rw [hsz]; omega) d4 (by rw [size_rep, List.size_toArray]; exact fv)
  rw [size_rep] at mu
  refine wpAny_binaryOp_repeat_ref (T := "tuple") (U := "int") (by decide) ⟨_, ho, rfl⟩ (fun s1 => typeIs_int s1 k t) noFill_tuple_mul F.fills_int_mul F.slot_int_rmul repeat_tuple F.slot_int_index.lookup ?_
  refine call_meets F.slot_int_rmul (typeIs_int s k t) F.entry_int_rmul (F.args_int_rmul_2 _ _) (int_rmul_tuple k t l its.toArray n dd sl) ⟨ho, rfl, ⟨_, ho, rfl⟩, ?_⟩
  exact call_meets F.slot_tuple_mul ⟨_, ho, rfl⟩ F.entry_tuple_mul (F.args_tuple_mul_2 _ _) mu ⟨ho, ep_T I (rv.rep k.toNat) fz q⟩
end
end Zl
end

-- ZExpr
section
namespace Zl
open PySem PySem.Spec PyProof.Rows L2

abbrev ME := Rho → Option (R × Rho)
abbrev MT := Rho → Option (Bool × Rho)
abbrev MA := Rho → Option (List R × Rho)
abbrev MD := Rho → Option (List D × Rho)
abbrev MS := Rho → Option (Fl × Rho)

section
variable (K : KW)
def tE (m : ME) : TE := fun σ H Q => ∃ Z ρ r ρ', Fr K Z H ρ σ ∧ m ρ = some (r, ρ') ∧ ∀ Z' H' v, Go K Z H ρ σ Z' H' ρ' σ → RR K H Z' H' ρ' σ r v → Q v H'
def tT (m : MT) : TT := fun σ H Q => ∃ Z ρ b ρ', Fr K Z H ρ σ ∧ m ρ = some (b, ρ') ∧ ∀ Z' H', Go K Z H ρ σ Z' H' ρ' σ → Q b H'
def RRs (H0 : Hp) (Z : AS) (H : Hp) (ρ : Rho) (σ : St) : List R → List V → Prop := Paired (RR K H0 Z H ρ σ)
def tAR (m : MA) : TA := fun σ H Q => ∃ Z ρ rs ρ', Fr K Z H ρ σ ∧ m ρ = some (rs, ρ') ∧ ∀ Z' H' vs, Go K Z H ρ σ Z' H' ρ' σ → RRs K H Z' H' ρ' σ rs vs → Q vs H'
/-- evaluated to data, one by one -/
def tAD (m : MD) : TA := fun σ H Q => ∃ Z ρ ds ρ', Fr K Z H ρ σ ∧ m ρ = some (ds, ρ') ∧ ∀ Z' H' vs, Go K Z H ρ σ Z' H' ρ' σ → RDs K Z' H' ds vs → Q vs H'
end
def CE (X : Cx) (e : Expr) (m : ME) : Prop := PE X e (tE X.KW m)
def CT (X : Cx) (e : Expr) (m : MT) : Prop := PT X e (tT X.KW m)
def CA (X : Cx) (es : List Expr) (m : MA) : Prop := PA X es (tAR X.KW m)
def CD (X : Cx) (es : List Expr) (m : MD) : Prop := PA X es (tAD X.KW m)

theorem pe_imp {X : Cx} {e : Expr} {t t' : TE} (h : PE X e t) (i : ∀ σ H Q, t' σ H Q → t σ H Q) : PE X e t' := ⟨fun pins s σ H Q I hw => h.run pins s σ H Q I (i σ H Q hw)⟩
theorem pt_imp {X : Cx} {e : Expr} {t t' : TT} (h : PT X e t) (i : ∀ σ H Q, t' σ H Q → t σ H Q) : PT X e t' := ⟨fun pins s σ H Q I hw => h.run pins s σ H Q I (i σ H Q hw)⟩
theorem pw_imp {X : Cx} {e : Expr} {t t' : TT} (h : PW X e t) (i : ∀ σ H Q, t' σ H Q → t σ H Q) : PW X e t' := ⟨fun w pins s σ H Q I hw => h.run w pins s σ H Q I (i σ H Q hw)⟩
theorem pa_imp {X : Cx} {e : List Expr} {t t' : TA} (h : PA X e t) (i : ∀ σ H Q, t' σ H Q → t σ H Q) : PA X e t' := ⟨fun p pins s σ H Q I hw => h.run p pins s σ H Q I (i σ H Q hw)⟩
theorem ps_imp {X : Cx} {e : Stmt} {t t' : TS} (h : PS X e t) (i : ∀ D σ H, t' D σ H → t D σ H) : PS X e t' := ⟨fun pins s σ H D I hw => h.run pins s σ H D I (i D σ H hw)⟩
theorem pss_imp {X : Cx} {e : List Stmt} {t t' : TS} (h : PSs X e t) (i : ∀ D σ H, t' D σ H → t D σ H) : PSs X e t' := ⟨fun pins s σ H D I hw => h.run pins s σ H D I (i D σ H hw)⟩

/-! ### freezing -/
def fz (ρ : Rho) : R → Option (D × Rho)
  | .val d => some (d, ρ)
  | .own o => some (o.toD, ρ)
  | .bor i => match ρ[i]? with
    | some (Sl.val d) => some (d, ρ)
    | some (Sl.own _ o) => some (o.toD, ρ.set i (.val o.toD))
    | _ => none
section
variable {K : KW} {Z Z0 Z1 Z2 Z' : AS} {H H0 H1 H2 H' : Hp} {ρ ρ0 ρ1 ρ2 ρ' : Rho} {σ σ1 σ2 σ' : St}
theorem RO.rd {o : O} {a : Addr} (h : RO K Z H o a) : RD K (fun b => Z b ∨ b = a) H o.toD (.ref a) := by
  have mz : ∀ b, Z b → (fun b => Z b ∨ b = a) b := fun b z => .inl z
  cases o with
  | lst ds =>
    obtain ⟨vs, q, r⟩ := h
    simp only [O.toD, RD]
    exact ⟨a, vs, rfl, .inr rfl, q, RDs.mono mz (fun _ _ _ e => e) (fun _ _ e => e) _ _ r⟩
  | dct ds =>
    obtain ⟨vs, q, r⟩ := h
    simp only [O.toD, RD]
    exact .inl ⟨a, vs, rfl, .inr rfl, q, RDk.mono mz (fun _ _ _ e => e) (fun _ _ e => e) _ _ r⟩
  | dtp ds =>
    obtain ⟨vs, q, r⟩ := h
    simp only [O.toD, RD]
    exact .inr ⟨a, vs, rfl, .inr rfl, q, RDt.mono mz (fun _ _ _ e => e) (fun _ _ e => e) _ _ r.1, r.2⟩
theorem RO.zmono {o : O} {a : Addr} (mz : ∀ b, Z b → Z' b) (h : RO K Z H o a) : RO K Z' H o a := by
  cases o with
  | lst ds =>
    obtain ⟨vs, q, r⟩ := h
    exact ⟨vs, q, RDs.mono mz (fun _ _ _ e => e) (fun _ _ e => e) _ _ r⟩
  | dct ds =>
    obtain ⟨vs, q, r⟩ := h
    exact ⟨vs, q, RDk.mono mz (fun _ _ _ e => e) (fun _ _ e => e) _ _ r⟩
  | dtp ds =>
    obtain ⟨vs, q, r⟩ := h
    exact ⟨vs, q, RDt.mono mz (fun _ _ _ e => e) (fun _ _ e => e) _ _ r.1, r.2⟩
theorem RD.zmono {d : D} {v : V} (mz : ∀ b, Z b → Z' b) (h : RD K Z H d v) : RD K Z' H d v := RD.mono mz (fun _ _ _ e => e) (fun _ _ e => e) _ _ h
theorem RDs.zmono {d : List D} {v : List V} (mz : ∀ b, Z b → Z' b) (h : RDs K Z H d v) : RDs K Z' H d v := RDs.mono mz (fun _ _ _ e => e) (fun _ _ e => e) _ _ h
theorem Fr.ow_of (f : Fr K Z H ρ σ) {i : Nat} {b : Bool} {o : O} {a : Addr} (h : ρ[i]? = some (Sl.own b o)) (e : σ[i]? = some (some (V.ref a))) : Ow ρ σ a := ⟨i, b, o, h, e⟩
theorem set_get {i j : Nat} {s t : Sl} (h : (ρ.set i t)[j]? = some s) : (j = i ∧ s = t ∧ i < ρ.length) ∨ (j ≠ i ∧ ρ[j]? = some s) := by
  by_cases e : i = j
  · subst e
    by_cases l : i < ρ.length
    · rw [List.getElem?_set_self l] at h; cases h; exact .inl ⟨rfl, rfl, l⟩
    · rw [List.getElem?_eq_none (by rw [List.length_set]; omega)] at h; cases h
  · rw [List.getElem?_set_ne e] at h; exact .inr ⟨Ne.symm e, h⟩
/-- a slot's container becomes data -/
theorem Fr.freeze (f : Fr K Z H ρ σ) {i : Nat} {b : Bool} {o : O} {a : Addr} (h : ρ[i]? = some (Sl.own b o)) (e : σ[i]? = some (some (V.ref a))) :
    Fr K (fun b => Z b ∨ b = a) H (ρ.set i (.val o.toD)) σ where
  zl := fun c z => z.elim (f.zl c) fun z => by subst z; exact f.live ⟨i, b, o, h, e⟩
  len := by rw [List.length_set]; exact f.len
  val := fun j d q => by
    rcases set_get q with ⟨rfl, q, _⟩ | ⟨_, q⟩
    · cases q
      obtain ⟨a', e', _, r⟩ := f.own _ _ _ h
      rw [e] at e'; cases e'
      exact ⟨_, e, r.rd⟩
    · obtain ⟨v, e', r⟩ := f.val _ _ q
      exact ⟨v, e', r.zmono fun b z => .inl z⟩
  own := fun j b' o' q => by
    rcases set_get q with ⟨rfl, q, _⟩ | ⟨n, q⟩
    · cases q
    · obtain ⟨a', e', nz, r⟩ := f.own _ _ _ q
      refine ⟨a', e', fun z => z.elim nz fun z => ?_, r.zmono fun b z => .inl z⟩
      subst z
      exact n (f.apart _ _ _ _ _ _ _ q h e' e)
  scr := fun j ns q => by
    rcases set_get q with ⟨rfl, q, _⟩ | ⟨n, q⟩
    · cases q
    · exact f.scr _ _ q
  apart := fun j k b1 b2 o1 o2 a' q1 q2 e1 e2 => by
    rcases set_get q1 with ⟨_, q, _⟩ | ⟨_, q1⟩
    · cases q
    rcases set_get q2 with ⟨_, q, _⟩ | ⟨_, q2⟩
    · cases q
    exact f.apart _ _ _ _ _ _ _ q1 q2 e1 e2
theorem ow_set {i : Nat} {d : D} {a : Addr} (w : Ow (ρ.set i (.val d)) σ a) : Ow ρ σ a := by
  obtain ⟨j, b, o, q, e⟩ := w
  rcases set_get q with ⟨_, q, _⟩ | ⟨_, q⟩
  · cases q
  · exact ⟨j, b, o, q, e⟩
theorem Fr.zmore (f : Fr K Z H ρ σ) {a : Addr} (nw : ¬ Ow ρ σ a) (hl : H a ≠ none) : Fr K (fun b => Z b ∨ b = a) H ρ σ where
  zl := fun c z => z.elim (f.zl c) fun z => by subst z; exact hl
  len := f.len
  val := fun j d q => let ⟨v, e', r⟩ := f.val _ _ q; ⟨v, e', r.zmono fun b z => .inl z⟩
  own := fun j b' o' q => let ⟨a', e', nz, r⟩ := f.own _ _ _ q; ⟨a', e', fun z => z.elim nz fun z => nw (by subst z; exact ⟨j, _, _, q, e'⟩), r.zmono fun b z => .inl z⟩
  scr := f.scr
  apart := f.apart
theorem fz_ok {r : R} {v : V} {d : D} (g : Go K Z0 H0 ρ0 σ Z H ρ σ) (h : RR K H0 Z H ρ σ r v) (e : fz ρ r = some (d, ρ')) :
    ∃ Z', (∀ a, Z a → Z' a) ∧ Go K Z0 H0 ρ0 σ Z' H ρ' σ ∧ RD K Z' H d v := by
  cases r with
  | val d' => cases e; exact ⟨Z, fun _ z => z, g, h⟩
  | own o =>
    cases e
    obtain ⟨a, rfl, nz, nw, ro, n0⟩ := h
    exact ⟨_, fun _ z => .inl z, ⟨⟨g.st.keep, fun b z => .inl (g.st.zm b z), fun b z => z.elim (g.st.zn b) fun z => by subst z; exact .inr (.inl n0), g.st.wn, g.st.gr⟩, g.fr.zmore nw ro.live, g.par⟩, ro.rd⟩
  | bor i =>
    have hσ : σ[i]? = some (some v) := h
    simp only [fz] at e
    split at e
    · rename_i d' q
      cases e
      obtain ⟨v', e', r⟩ := g.fr.val i _ q
      rw [hσ] at e'; cases e'
      exact ⟨Z, fun _ z => z, g, r⟩
    · rename_i b o q
      cases e
      obtain ⟨a, e', nz, r⟩ := g.fr.own i _ _ q
      rw [hσ] at e'; cases e'
      refine ⟨_, fun _ z => .inl z, ⟨⟨g.st.keep, fun b z => .inl (g.st.zm b z), fun b z => z.elim (g.st.zn b) fun z => ?_, fun b w => g.st.wn b (ow_set w), g.st.gr⟩, g.fr.freeze q hσ, fun j o' q' => ?_⟩, r.rd⟩
      · rcases set_get q' with ⟨_, q', _⟩ | ⟨_, q'⟩
        · cases q'
        · exact g.par _ _ q'
      · subst z
        rcases g.st.wn _ ⟨i, _, _, q, hσ⟩ with w | w
        · exact .inr (.inr w)
        · exact .inr (.inl w)
    · cases e
end

/-! ### expressions -/
section
variable {X : Cx} {a b c e : Expr} {es : List Expr} {ma mb mc m : ME} {pos : Pos}
def mC (d : D) : ME := fun ρ => some (.val d, ρ)
def mV (i : Nat) : ME := fun ρ => match ρ[i]? with
  | some (Sl.val d) => some (.val d, ρ)
  | some (Sl.own _ _) => some (.bor i, ρ)
  | some (Sl.scr _) => some (.bor i, ρ)
  | _ => none
theorem tE_C {K : KW} {d : D} {v : V} (h : ∀ Z H, RD K Z H d v) : ∀ σ H Q, tE K (mC d) σ H Q → tC v σ H Q := fun σ H Q ⟨Z, ρ, r, ρ', f, e, k⟩ => by
  cases e
  exact k Z H v (.refl f) (h Z H)
theorem ce_int {i j pos} : CE X (.Constant (.int i) j pos) (mC (.int i)) := pe_imp pe_int (tE_C fun _ _ => by simp only [RD])
theorem ce_bl {b j pos} : CE X (.Constant (.bool b) j pos) (mC (.bool b)) := pe_imp pe_bl (tE_C fun _ _ => by simp only [RD])
theorem ce_non {j pos} : CE X (.Constant .none j pos) (mC .none) := pe_imp pe_non (tE_C fun _ _ => by simp only [RD])
theorem ce_str {x j pos} : CE X (.Constant (.str x) j pos) (mC (.str x)) := pe_imp pe_str (tE_C fun _ _ => by simp only [RD])
theorem ce_glob {x : Str} {v : V} {u : Value} {d : D} {pos : Pos} (hg : Gl X x) (hm : X.mg x = some u) (r : RelV v u) (h : ∀ Z H, RD X.KW Z H d v) (hd : (x == ("__debug__" : Str)) = false := by decide) : CE X (.Name x pos) (mC d) :=
  pe_imp (pe_glob hg hm r hd) (tE_C h)
theorem ce_gint {x : Str} {i : Int} {pos : Pos} (hg : Gl X x) (hm : ∃ t, X.mg x = some (.int i t)) (hd : (x == ("__debug__" : Str)) = false := by decide) : CE X (.Name x pos) (mC (.int i)) :=
  let ⟨t, hm⟩ := hm; ce_glob (v := .int i) hg hm ⟨t, rfl⟩ (fun _ _ => by simp only [RD]) hd
theorem ce_gstr {x : Str} {i : Str} {pos : Pos} (hg : Gl X x) (hm : ∃ t, X.mg x = some (.str i t)) (hd : (x == ("__debug__" : Str)) = false := by decide) : CE X (.Name x pos) (mC (.str i)) :=
  let ⟨t, hm⟩ := hm; ce_glob (v := .str i) hg hm ⟨t, rfl⟩ (fun _ _ => by simp only [RD]) hd
theorem tE_V {K : KW} {i : Nat} : ∀ σ H Q, tE K (mV i) σ H Q → tVar i σ H Q := fun σ H Q ⟨Z, ρ, r, ρ', f, e, k⟩ => by
  simp only [mV] at e
  split at e
  · rename_i d q
    cases e
    obtain ⟨v, e', r⟩ := f.val i _ q
    exact ⟨v, e', k Z H v (.refl f) r⟩
  · rename_i b o q
    cases e
    obtain ⟨a, e', _⟩ := f.own i _ _ q
    exact ⟨_, e', k Z H _ (.refl f) e'⟩
  · rename_i b q
    cases e
    obtain ⟨a, e', _⟩ := f.scr i _ q
    exact ⟨_, e', k Z H _ (.refl f) e'⟩
  · cases e
theorem cv (i : Nat) {x : Str} {pos : Pos} (hN : X.N[i]? = some x := by rfl) (hv : Vis X.env.scope x := by first | exact Or.inl rfl | exact Or.inr (Or.inl rfl) | exact Or.inr (Or.inr rfl)) (hd : (x == ("__debug__" : Str)) = false := by decide)
    (hcd : (x == ("__classdict__" : Str)) = false := by decide) : CE X (.Name x pos) (mV i) := pe_imp (pe_var hN hv hd hcd) tE_V

/-- two in a row -/
def mOp (f : D → D → Option R) (ma mb : ME) : ME := fun ρ => (ma ρ).bind fun p => (mb p.2).bind fun q => (rsT q.2 p.1).bind fun x => (rsT q.2 q.1).bind fun y => (f x y).map fun r => (r, q.2)
/-- an operation by values, from tracked operands -/
def OpD (K : KW) (f : D → D → Option R) (r2 : R2) : Prop := ∀ (Z : AS) (H : Hp) (x y : V) (d e : D) (r : R) (Q : VK), (∀ a, Z a → H a ≠ none) → RT K Z H d x → RT K Z H e y → f d e = some r → (∀ Z' H' v, Nw Z H Z' H' → NR K H Z' H' r v → Q v H') → r2 x y H Q
/-- the same, lists that are only read -/
def OpV (K : KW) (f : D → D → Option R) (r2 : R2) : Prop := ∀ (Z : AS) (H : Hp) (x y : V) (d e : D) (r : R) (Q : VK), (∀ a, Z a → H a ≠ none) → RV K Z H d x → RV K Z H e y → f d e = some r → (∀ Z' H' v, Nw Z H Z' H' → NR K H Z' H' r v → Q v H') → r2 x y H Q
theorem bnd {α β : Type} {x : Option α} {f : α → Option β} {y : β} (h : x.bind f = some y) : ∃ a, x = some a ∧ f a = some y := Option.bind_eq_some_iff.mp h
theorem tE_Op {K : KW} {f : D → D → Option R} {r2 : R2} (o : OpD K f r2) : ∀ σ H Q, tE K (mOp f ma mb) σ H Q → tOp r2 (tE K ma) (tE K mb) σ H Q := fun σ H Q ⟨Z, ρ, r, ρ', fr, e, k⟩ => by
  obtain ⟨⟨r1, ρ1⟩, e1, e⟩ := bnd e
  obtain ⟨⟨r2, ρ2⟩, e2, e⟩ := bnd e
  obtain ⟨d1, ex, e⟩ := bnd e
  obtain ⟨d2, ey, e⟩ := bnd e
  obtain ⟨r', er, e⟩ := Option.map_eq_some_iff.mp e
  cases e
  refine ⟨Z, ρ, r1, ρ1, fr, e1, fun Z1 H1 x g1 h1 => ⟨Z1, ρ1, r2, ρ2, g1.fr, e2, fun Z2 H2 y g2 h2 => ?_⟩⟩
  have h1' := h1.go g1.fr g2
  have g := g1.trans g2
  refine o Z2 H2 x y d1 d2 r Q g2.fr.zl (rsT_ok g2.fr h1' ex) (rsT_ok g2.fr h2 ey) er fun Z3 H3 v n3 nr => ?_
  exact k Z3 H3 v (g.trans (n3.go g.fr)) (nr.rr g n3)
theorem ce_op {op : Operator} {f : D → D → Option R} {r2 : R2} (ho : OpR X (binaryOp op) r2) (o : OpD X.KW f r2) (ha : CE X a ma) (hb : CE X b mb) : CE X (.BinOp a op b pos) (mOp f ma mb) :=
  pe_imp (pe_op ho ha hb) (tE_Op o)
def mOpV (f : D → D → Option R) (ma mb : ME) : ME := fun ρ => (ma ρ).bind fun p => (mb p.2).bind fun q => (rs q.2 p.1).bind fun x => (rs q.2 q.1).bind fun y => (f x y).map fun r => (r, q.2)
theorem tE_OpV {K : KW} {f : D → D → Option R} {r2 : R2} (o : OpV K f r2) : ∀ σ H Q, tE K (mOpV f ma mb) σ H Q → tOp r2 (tE K ma) (tE K mb) σ H Q := fun σ H Q ⟨Z, ρ, r, ρ', fr, e, k⟩ => by
  obtain ⟨⟨r1, ρ1⟩, e1, e⟩ := bnd e
  obtain ⟨⟨r2, ρ2⟩, e2, e⟩ := bnd e
  obtain ⟨d1, ex, e⟩ := bnd e
  obtain ⟨d2, ey, e⟩ := bnd e
  obtain ⟨r', er, e⟩ := Option.map_eq_some_iff.mp e
  cases e
  refine ⟨Z, ρ, r1, ρ1, fr, e1, fun Z1 H1 x g1 h1 => ⟨Z1, ρ1, r2, ρ2, g1.fr, e2, fun Z2 H2 y g2 h2 => ?_⟩⟩
  have h1' := h1.go g1.fr g2
  have g := g1.trans g2
  refine o Z2 H2 x y d1 d2 r Q g2.fr.zl (rs_ok g2.fr h1' ex) (rs_ok g2.fr h2 ey) er fun Z3 H3 v n3 nr => ?_
  exact k Z3 H3 v (g.trans (n3.go g.fr)) (nr.rr g n3)
theorem ce_cmp {op : CmpOp} {f : D → D → Option R} {r2 : R2} (ho : OpR X (compareOp op) r2) (o : OpV X.KW f r2) (ha : CE X a ma) (hb : CE X b mb) (hm : behindInMarks op b = false := by first | exact nobehind _ (by decide) (by decide) | rfl) : CE X (.Compare a [op] [b] pos) (mOpV f ma mb) :=
  pe_imp (pe_cmpR ho ha hb hm) (tE_OpV o)
/-- a value that must be a bool, as a test -/
def mB (m : ME) : MT := fun ρ => (m ρ).bind fun p => match p.1 with
  | .val (.bool b) => some (b, p.2)
  | _ => none
theorem tT_B {K : KW} : ∀ σ H Q, tT K (mB m) σ H Q → tE K m σ H fun x H' => ∃ k, x = .bl k ∧ Q k H' := fun σ H Q ⟨Z, ρ, b, ρ', fr, e, k⟩ => by
  obtain ⟨⟨r1, ρ1⟩, e1, e⟩ := bnd e
  refine ⟨Z, ρ, r1, ρ1, fr, e1, fun Z1 H1 x g1 h1 => ?_⟩
  simp only at e
  split at e
  · cases e
    simp only [RR, RD] at h1
    exact ⟨_, h1, k Z1 H1 g1⟩
  · cases e
theorem ct_cmp {op : CmpOp} {f : D → D → Option R} {r2 : R2} (ho : OpR X (compareOp op) r2) (o : OpV X.KW f r2) (ha : CE X a ma) (hb : CE X b mb) (hm : behindInMarks op b = false := by first | exact nobehind _ (by decide) (by decide) | rfl) : CT X (.Compare a [op] [b] pos) (mB (mOpV f ma mb)) :=
  pt_imp (pt_cmpR ho ha hb hm) fun σ H Q h => by
    have h' := tT_B _ _ _ h
    exact tE_OpV o _ _ _ h'
theorem ct_val {e : Expr} (h : CE X e m) (he : ∀ whole, isTrue e X.env whole = (do let v ← whole; standAt e.pos; holding [v] (truthy v)) := by intro _; rfl) : CT X e (mB m) :=
  pt_imp (pt_val h he) fun σ H Q h => tT_B _ _ _ h
/-! tests -/
variable {ta tb : MT} {rest : List Expr}
def mAnd (ta tb : MT) : MT := fun ρ => (ta ρ).bind fun p => if p.1 = true then tb p.2 else some (false, p.2)
def mOr (ta tb : MT) : MT := fun ρ => (ta ρ).bind fun p => if p.1 = true then some (true, p.2) else tb p.2
def mNot (ta : MT) : MT := fun ρ => (ta ρ).bind fun p => some (!p.1, p.2)
def CW (X : Cx) (e : Expr) (m : MT) : Prop := PW X e (tT X.KW m)
theorem cw_and1 (ha : CT X a ta) : CW X (.BoolOp .And [a] pos) ta := pw_and1 ha
theorem cw_or1 (ha : CT X a ta) : CW X (.BoolOp .Or [a] pos) ta := pw_or1 ha
theorem cw_and (ha : CT X a ta) (hb : CW X (.BoolOp .And (b :: rest) pos) tb) : CW X (.BoolOp .And (a :: b :: rest) pos) (mAnd ta tb) :=
  pw_imp (pw_and ha hb) fun σ H Q ⟨Z, ρ, k, ρ', fr, e, q⟩ => by
    obtain ⟨⟨k1, ρ1⟩, e1, e⟩ := bnd e
    refine ⟨Z, ρ, k1, ρ1, fr, e1, fun Z1 H1 g1 => ?_⟩
    simp only at e
    split at e
    · rename_i hk; rw [if_pos hk]; exact ⟨Z1, ρ1, k, ρ', g1.fr, e, fun Z2 H2 g2 => q Z2 H2 (g1.trans g2)⟩
    · rename_i hk; rw [if_neg hk]; cases e; exact q Z1 H1 g1
theorem cw_or (ha : CT X a ta) (hb : CW X (.BoolOp .Or (b :: rest) pos) tb) : CW X (.BoolOp .Or (a :: b :: rest) pos) (mOr ta tb) :=
  pw_imp (pw_or ha hb) fun σ H Q ⟨Z, ρ, k, ρ', fr, e, q⟩ => by
    obtain ⟨⟨k1, ρ1⟩, e1, e⟩ := bnd e
    refine ⟨Z, ρ, k1, ρ1, fr, e1, fun Z1 H1 g1 => ?_⟩
    simp only at e
    split at e
    · rename_i hk; rw [if_pos hk]; cases e; exact q Z1 H1 g1
    · rename_i hk; rw [if_neg hk]; exact ⟨Z1, ρ1, k, ρ', g1.fr, e, fun Z2 H2 g2 => q Z2 H2 (g1.trans g2)⟩
theorem ct_w (h : CW X e ta) : CT X e ta := PW.pt h
theorem ct_not (ha : CT X a ta) : CT X (.UnaryOp .Not a pos) (mNot ta) :=
  pt_imp (pt_not ha) fun σ H Q ⟨Z, ρ, k, ρ', fr, e, q⟩ => by
    obtain ⟨⟨k1, ρ1⟩, e1, e⟩ := bnd e
    cases e
    exact ⟨Z, ρ, k1, ρ1, fr, e1, q⟩
/-! as values: bools -/
def mAndV (ma mb : ME) : ME := fun ρ => (ma ρ).bind fun p => match p.1 with
  | .val (.bool true) => mb p.2
  | .val (.bool false) => some (.val (.bool false), p.2)
  | _ => none
def mOrV (ma mb : ME) : ME := fun ρ => (ma ρ).bind fun p => match p.1 with
  | .val (.bool false) => mb p.2
  | .val (.bool true) => some (.val (.bool true), p.2)
  | _ => none
def mNotV (ma : ME) : ME := fun ρ => (ma ρ).bind fun p => match p.1 with
  | .val (.bool b) => some (.val (.bool !b), p.2)
  | _ => none
theorem RR.at0 {K : KW} {Z Z1 Z' : AS} {H H1 H' : Hp} {ρ ρ1 ρ' : Rho} {σ : St} {r : R} {v : V} (g : Go K Z H ρ σ Z1 H1 ρ1 σ) (h : RR K H1 Z' H' ρ' σ r v) : RR K H Z' H' ρ' σ r v := by
  cases r with
  | own o => obtain ⟨a, e, nz, nw, ro, n⟩ := h; exact ⟨a, e, nz, nw, ro, g.st.gr a n⟩
  | _ => exact h
theorem ce_one {op} (h : CE X a m) : CE X (.BoolOp op [a] pos) m := pe_one h
theorem ce_and (ha : CE X a ma) (hb : CE X (.BoolOp .And (b :: rest) pos) mb) : CE X (.BoolOp .And (a :: b :: rest) pos) (mAndV ma mb) :=
  pe_imp (pe_and ha hb) fun σ H Q ⟨Z, ρ, r, ρ', fr, e, q⟩ => by
    obtain ⟨⟨k1, ρ1⟩, e1, e⟩ := bnd e
    refine ⟨Z, ρ, k1, ρ1, fr, e1, fun Z1 H1 x g1 h1 => ?_⟩
    simp only at e
    split at e
    · simp only [RR, RD] at h1
      exact ⟨true, h1, by rw [if_pos rfl]; exact ⟨Z1, ρ1, r, ρ', g1.fr, e, fun Z2 H2 v g2 h2 => q Z2 H2 v (g1.trans g2) (h2.at0 g1)⟩⟩
    · cases e
      have h1' := h1
      simp only [RR, RD] at h1
      subst h1
      exact ⟨false, rfl, by rw [if_neg (by decide)]; exact q Z1 H1 _ g1 h1'⟩
    · cases e
theorem ce_or (ha : CE X a ma) (hb : CE X (.BoolOp .Or (b :: rest) pos) mb) : CE X (.BoolOp .Or (a :: b :: rest) pos) (mOrV ma mb) :=
  pe_imp (pe_or ha hb) fun σ H Q ⟨Z, ρ, r, ρ', fr, e, q⟩ => by
    obtain ⟨⟨k1, ρ1⟩, e1, e⟩ := bnd e
    refine ⟨Z, ρ, k1, ρ1, fr, e1, fun Z1 H1 x g1 h1 => ?_⟩
    simp only at e
    split at e
    · simp only [RR, RD] at h1
      exact ⟨false, h1, by rw [if_neg (by decide)]; exact ⟨Z1, ρ1, r, ρ', g1.fr, e, fun Z2 H2 v g2 h2 => q Z2 H2 v (g1.trans g2) (h2.at0 g1)⟩⟩
    · cases e
      have h1' := h1
      simp only [RR, RD] at h1
      subst h1
      exact ⟨true, rfl, by rw [if_pos rfl]; exact q Z1 H1 _ g1 h1'⟩
    · cases e
theorem ce_not (ha : CE X a ma) : CE X (.UnaryOp .Not a pos) (mNotV ma) :=
  pe_imp (pe_not ha) fun σ H Q ⟨Z, ρ, r, ρ', fr, e, q⟩ => by
    obtain ⟨⟨k1, ρ1⟩, e1, e⟩ := bnd e
    refine ⟨Z, ρ, k1, ρ1, fr, e1, fun Z1 H1 x g1 h1 => ?_⟩
    simp only at e
    split at e
    · cases e
      simp only [RR, RD] at h1
      exact ⟨_, h1, q Z1 H1 _ g1 (by simp only [RR, RD])⟩
    · cases e
/-- a if t else b -/
def mIf (t : MT) (ma mb : ME) : ME := fun ρ => (t ρ).bind fun p => if p.1 = true then ma p.2 else mb p.2
theorem ce_if {t : MT} (hc : CT X c t) (ha : CE X a ma) (hb : CE X b mb) : CE X (.IfExp c a b pos) (mIf t ma mb) :=
  pe_imp (pe_ifExp hc ha hb) fun σ H Q ⟨Z, ρ, r, ρ', fr, e, q⟩ => by
    obtain ⟨⟨k1, ρ1⟩, e1, e⟩ := bnd e
    refine ⟨Z, ρ, k1, ρ1, fr, e1, fun Z1 H1 g1 => ?_⟩
    simp only at e
    split at e
    · rename_i hk; rw [if_pos hk]; exact ⟨Z1, ρ1, r, ρ', g1.fr, e, fun Z2 H2 v g2 h2 => q Z2 H2 v (g1.trans g2) (h2.at0 g1)⟩
    · rename_i hk; rw [if_neg hk]; exact ⟨Z1, ρ1, r, ρ', g1.fr, e, fun Z2 H2 v g2 h2 => q Z2 H2 v (g1.trans g2) (h2.at0 g1)⟩
/-! ### argument lists -/
def mA0 : MA := fun ρ => some ([], ρ)
def mA1 (m : ME) (ms : MA) : MA := fun ρ => (m ρ).bind fun p => (ms p.2).bind fun q => some (p.1 :: q.1, q.2)
variable {ms : MA} {md : MD}
theorem ca_nil : CA X [] mA0 := pa_imp pa_nil fun σ H Q ⟨Z, ρ, r, ρ', fr, e, q⟩ => by cases e; exact q Z H _ (.refl fr) .nil
theorem ca_cons (h : CE X e m) (hs : CA X es ms) (he : starEach (e :: es) X.env = (false, eval e X.env) :: starEach es X.env := by rfl) : CA X (e :: es) (mA1 m ms) :=
  pa_imp (pa_cons h hs he) fun σ H Q ⟨Z, ρ, r, ρ', fr, e, q⟩ => by
    obtain ⟨⟨k1, ρ1⟩, e1, e⟩ := bnd e
    obtain ⟨⟨k2, ρ2⟩, e2, e⟩ := bnd e
    cases e
    refine ⟨Z, ρ, k1, ρ1, fr, e1, fun Z1 H1 x g1 h1 => ⟨Z1, ρ1, k2, ρ2, g1.fr, e2, fun Z2 H2 y g2 h2 => ?_⟩⟩
    exact q Z2 H2 _ (g1.trans g2) (.cons (h1.go g1.fr g2) (Paired.mapP h2 fun _ _ h => h.at0 g1))
def mD0 : MD := fun ρ => some ([], ρ)
def mD1 (m : ME) (ms : MD) : MD := fun ρ => (m ρ).bind fun p => (fz p.2 p.1).bind fun d => (ms d.2).bind fun q => some (d.1 :: q.1, q.2)
theorem cd_nil : CD X [] mD0 := pa_imp pa_nil fun σ H Q ⟨Z, ρ, r, ρ', fr, e, q⟩ => by cases e; exact q Z H _ (.refl fr) (by simp only [RDs])
theorem cd_cons (h : CE X e m) (hs : CD X es md) (he : starEach (e :: es) X.env = (false, eval e X.env) :: starEach es X.env := by rfl) : CD X (e :: es) (mD1 m md) :=
  pa_imp (pa_cons h hs he) fun σ H Q ⟨Z, ρ, r, ρ', fr, e, q⟩ => by
    obtain ⟨⟨k1, ρ1⟩, e1, e⟩ := bnd e
    obtain ⟨⟨d1, ρ2⟩, e2, e⟩ := bnd e
    obtain ⟨⟨k2, ρ3⟩, e3, e⟩ := bnd e
    cases e
    refine ⟨Z, ρ, k1, ρ1, fr, e1, fun Z1 H1 x g1 h1 => ?_⟩
    obtain ⟨Z2, _, g2, rd⟩ := fz_ok g1 h1 e2
    refine ⟨Z2, ρ2, k2, ρ3, g2.fr, e3, fun Z3 H3 ys g3 h3 => ?_⟩
    exact q Z3 H3 _ (g2.trans g3) (by simp only [RDs]; exact ⟨_, _, rfl, g2.fr.rd g3.st rd, h3⟩)
/-! ### displays -/
def mTup (ms : MD) : ME := fun ρ => (ms ρ).bind fun p => if p.1.length ≤ sizeLine then some (.val (.tuple p.1), p.2) else none
def mLst (ms : MD) : ME := fun ρ => (ms ρ).bind fun p => if p.1.length ≤ sizeLine then some (.own (.lst p.1), p.2) else none
theorem rds_len {K : KW} {Z : AS} {H : Hp} : ∀ {ds : List D} {vs : List V}, RDs K Z H ds vs → vs.length = ds.length
  | [], vs, h => by simp only [RDs] at h; subst h; rfl
  | d :: ds, vs, h => by
    simp only [RDs] at h
    obtain ⟨v, r, rfl, _, h⟩ := h
    simp only [List.length_cons, rds_len h]
theorem new_tup {K : KW} {Z : AS} {H : Hp} {ds : List D} {vs : List V} {p : Addr} {o : Obj} (hp : H p = none) (c1 : o.cls = .type "tuple") (c2 : o.dict = none) (h : RDs K Z H ds vs) :
    Nw Z H Z (upd H p (.frz o (.tup vs))) ∧ NR K H Z (upd H p (.frz o (.tup vs))) (.val (.tuple ds)) (.ref p) := by
  have n : Nw Z H Z (upd H p (.frz o (.tup vs))) := .upd hp
  refine ⟨n, ?_⟩
  simp only [NR, RD]
  exact ⟨p, vs, rfl, .inl ⟨o, upd_same, c1, c2⟩, n.rds h⟩
theorem new_lst {K : KW} {Z : AS} {H : Hp} {ds : List D} {vs : List V} {p : Addr} (hp : H p = none) (hz : ¬ Z p) (h : RDs K Z H ds vs) :
    Nw Z H Z (upd H p (.lst vs)) ∧ NR K H Z (upd H p (.lst vs)) (.own (.lst ds)) (.ref p) := by
  have n : Nw Z H Z (upd H p (.lst vs)) := .upd hp
  exact ⟨n, p, rfl, hp, hz, vs, upd_same, n.rds h⟩
end
end Zl
end

-- ZOps
section
namespace Zl
open PySem PySem.Spec PyProof.Rows L2

/-! ### operators -/
def addD : D → D → Option R
  | .int i, .int j => some (.val (.int (i + j)))
  | .str x, .str y => if x.length + y.length ≤ sizeLine then some (.val (.str (x ++ y))) else none
  | .tuple xs, .tuple ys => if xs.length + ys.length ≤ sizeLine then some (.val (.tuple (xs ++ ys))) else none
  | .list xs, .list ys => if xs.length + ys.length ≤ sizeLine then some (.own (.lst (xs ++ ys))) else none
  | _, _ => none
def subD : D → D → Option R
  | .int i, .int j => some (.val (.int (i - j)))
  | _, _ => none
def mulOk (i j : Int) : Bool := decide (i.natAbs < 2 ^ 64) || decide (j.natAbs < 2 ^ 64) || decide (i.natAbs.log2 + j.natAbs.log2 < 1000000)
def repS (x : Str) (n : Nat) : Str := ⟨(List.replicate n x.cps.toList).flatten.toArray⟩
def mulD : D → D → Option R
  | .int i, .int j => if mulOk i j = true then some (.val (.int (i * j))) else none
  | .str x, .int n => if 0 ≤ n ∧ n ≤ 1000 ∧ x.length ≤ 10000 then some (.val (.str (repS x n.toNat))) else none
  | .list xs, .int n => if 0 ≤ n ∧ n ≤ 1000 ∧ xs.length ≤ 10000 then some (.own (.lst (List.replicate n.toNat xs).flatten)) else none
  | .tuple xs, .int n => if 2 ≤ n ∧ n ≤ 1000 ∧ xs.length ≤ 1000 then some (.val (.tuple (List.replicate n.toNat xs).flatten)) else none
  | _, _ => none
def fdivD : D → D → Option R
  | .int i, .int j => if 0 < j ∧ j.natAbs.log2 < 9000 then some (.val (.int (i / j))) else none
  | _, _ => none
def modD : D → D → Option R
  | .int i, .int j => if 0 < j then some (.val (.int (i % j))) else none
  | _, _ => none
def powD : D → D → Option R
  | .int i, .int j => if 0 ≤ j ∧ j ≤ 1000000 ∧ i.natAbs < 2 ^ 64 then some (.val (.int (i ^ j.toNat))) else none
  | _, _ => none

section
variable {K : KW} {Z Z' : AS} {H H' : Hp} {x y v : V} {d e : D} {ds es : List D} {vs ws : List V}
theorem rt_int {i : Int} (h : RT K Z H (.int i) x) : x = .int i := by simpa only [RT, RD] using h
theorem rt_str {i : Str} (h : RT K Z H (.str i) x) : x = .str i := by simpa only [RT, RD] using h
theorem rt_bool {i : Bool} (h : RT K Z H (.bool i) x) : x = .bl i := by simpa only [RT, RD] using h
theorem rt_none (h : RT K Z H .none x) : x = .non := by simpa only [RT, RD] using h
theorem rt_tup (h : RT K Z H (.tuple ds) x) : ∃ a vs, x = .ref a ∧ TQ K H a vs ∧ RDs K Z H ds vs := by simpa only [RT, RD] using h
theorem rv_int {i : Int} (h : RV K Z H (.int i) x) : x = .int i := by simpa only [RV, RD] using h
theorem rv_str {i : Str} (h : RV K Z H (.str i) x) : x = .str i := by simpa only [RV, RD] using h
theorem rv_bool {i : Bool} (h : RV K Z H (.bool i) x) : x = .bl i := by simpa only [RV, RD] using h
theorem rv_none (h : RV K Z H .none x) : x = .non := by simpa only [RV, RD] using h
theorem rv_tup (h : RV K Z H (.tuple ds) x) : ∃ a vs, x = .ref a ∧ TQ K H a vs ∧ RDs K Z H ds vs := by simpa only [RV, RD] using h
theorem rd_int {i : Int} : RD K Z H (.int i) (.int i) := by simp only [RD]
theorem rd_str {i : Str} : RD K Z H (.str i) (.str i) := by simp only [RD]
theorem rd_bool {i : Bool} : RD K Z H (.bool i) (.bl i) := by simp only [RD]
theorem rd_none : RD K Z H .none .non := by simp only [RD]
theorem rds_nil : RDs K Z H [] [] := by simp only [RDs]
theorem rds_cons (h : RD K Z H d v) (hs : RDs K Z H ds vs) : RDs K Z H (d :: ds) (v :: vs) := by simp only [RDs]; exact ⟨_, _, rfl, h, hs⟩
theorem rds_app : ∀ {ds es : List D} {vs ws : List V}, RDs K Z H ds vs → RDs K Z H es ws → RDs K Z H (ds ++ es) (vs ++ ws)
  | [], _, _, _, h, h' => by simp only [RDs] at h; subst h; exact h'
  | d :: ds, _, _, _, h, h' => by
    simp only [RDs] at h
    obtain ⟨v, r, rfl, h1, h2⟩ := h
    exact rds_cons h1 (rds_app h2 h')
theorem rds_get : ∀ {ds : List D} {vs : List V} {i : Nat} {d : D}, RDs K Z H ds vs → ds[i]? = some d → ∃ v, vs[i]? = some v ∧ RD K Z H d v
  | [], _, _, _, _, h => by simp at h
  | d :: ds, _, 0, _, h, h' => by
    simp only [RDs] at h
    obtain ⟨v, r, rfl, h1, h2⟩ := h
    simp at h'; subst h'
    exact ⟨v, rfl, h1⟩
  | d :: ds, _, i + 1, _, h, h' => by
    simp only [RDs] at h
    obtain ⟨v, r, rfl, h1, h2⟩ := h
    obtain ⟨w, e, q⟩ := rds_get (i := i) h2 (by simpa using h')
    exact ⟨w, by simpa using e, q⟩
theorem rds_drop : ∀ {ds : List D} {vs : List V} (n : Nat), RDs K Z H ds vs → RDs K Z H (ds.drop n) (vs.drop n)
  | _, _, 0, h => by simpa using h
  | [], _, n + 1, h => by simp only [RDs] at h; subst h; simpa using rds_nil
  | d :: ds, _, n + 1, h => by
    simp only [RDs] at h
    obtain ⟨v, r, rfl, h1, h2⟩ := h
    simpa using rds_drop n h2
theorem rds_take : ∀ {ds : List D} {vs : List V} (n : Nat), RDs K Z H ds vs → RDs K Z H (ds.take n) (vs.take n)
  | _, _, 0, h => by simpa using rds_nil
  | [], _, n + 1, h => by simp only [RDs] at h; subst h; simpa using rds_nil
  | d :: ds, _, n + 1, h => by
    simp only [RDs] at h
    obtain ⟨v, r, rfl, h1, h2⟩ := h
    simpa using rds_cons h1 (rds_take n h2)
theorem rds_rev {ds : List D} {vs : List V} (h : RDs K Z H ds vs) : RDs K Z H ds.reverse vs.reverse := by
  induction ds generalizing vs with
  | nil => simp only [RDs] at h; subst h; exact rds_nil
  | cons d ds ih =>
    simp only [RDs] at h
    obtain ⟨v, r, rfl, h1, h2⟩ := h
    rw [List.reverse_cons, List.reverse_cons]
    exact rds_app (ih h2) (rds_cons h1 rds_nil)
theorem rds_rep {n : Nat} (h : RDs K Z H ds vs) : RDs K Z H (List.replicate n ds).flatten (List.replicate n vs).flatten := by
  induction n with
  | zero => exact rds_nil
  | succ n ih => rw [List.replicate_succ, List.replicate_succ, List.flatten_cons, List.flatten_cons]; exact rds_app h ih
theorem rds_set : ∀ {ds : List D} {vs : List V} (n : Nat), RDs K Z H ds vs → RD K Z H d v → RDs K Z H (ds.set n d) (vs.set n v)
  | [], _, n, h, _ => by simp only [RDs] at h; subst h; simpa using rds_nil
  | e :: ds, _, 0, h, h' => by
    simp only [RDs] at h
    obtain ⟨w, r, rfl, h1, h2⟩ := h
    exact rds_cons h' h2
  | e :: ds, _, n + 1, h, h' => by
    simp only [RDs] at h
    obtain ⟨w, r, rfl, h1, h2⟩ := h
    exact rds_cons h1 (rds_set n h2 h')
theorem rds_nil_iff (h : RDs K Z H ds vs) : vs = [] ↔ ds = [] := by
  have := rds_len h
  cases ds <;> cases vs <;> simp_all
theorem nr_int {i : Int} : NR K H Z' H' (.val (.int i)) (.int i) := by simp only [NR, RD]
theorem nr_str {i : Str} : NR K H Z' H' (.val (.str i)) (.str i) := by simp only [NR, RD]
theorem nr_bool {i : Bool} : NR K H Z' H' (.val (.bool i)) (.bl i) := by simp only [NR, RD]
theorem nr_none : NR K H Z' H' (.val .none) .non := by simp only [NR, RD]
theorem nr_val (h : RD K Z' H' d v) : NR K H Z' H' (.val d) v := h
/-- a new tuple, a new list: what a rule's «∀ p, H p = none → ..» asks -/
theorem q_tup {Q : VK} (h : RDs K Z H ds vs) (k : ∀ Z' H' v, Nw Z H Z' H' → NR K H Z' H' (.val (.tuple ds)) v → Q v H') : NewT vs H Q := fun p o hp c1 c2 =>
  let ⟨n, r⟩ := new_tup hp c1 c2 h; k _ _ _ n r
theorem q_lst {Q : VK} (zl : ∀ a, Z a → H a ≠ none) (h : RDs K Z H ds vs) (k : ∀ Z' H' v, Nw Z H Z' H' → NR K H Z' H' (.own (.lst ds)) v → Q v H') (p : Addr) (hp : H p = none) : Q (.ref p) (upd H p (.lst vs)) :=
  let ⟨n, r⟩ := new_lst hp (fun z => zl p z hp) h; k _ _ _ n r
end
end Zl
end

-- ZOps2
section
namespace Zl
open PySem PySem.Spec PyProof.Rows L2

section
variable {X : Cx}
/-! ### a text times an int -/
theorem repS_eq (x : Str) (n : Nat) : (⟨(List.replicate n x.cps).foldl (· ++ ·) #[]⟩ : Str) = repS x n := by
  unfold repS
  congr 1
  have h : ∀ (l : List (Array Nat)) (acc : Array Nat), l.foldl (· ++ ·) acc = acc ++ (l.map Array.toList).flatten.toArray := by
    intro l
    induction l with
    | nil => intro acc; simp
    | cons a l ih => intro acc; rw [List.foldl_cons, ih]; apply Array.ext'; simp
  rw [h, List.map_replicate]
  simp
theorem repS_len (x : Str) (n : Nat) : (repS x n).length = n * x.length := by
  unfold repS Str.length
  simp [List.length_flatten]
def rRepS : R2 := fun x y H Q => ∃ z n, x = .str z ∧ y = .int n ∧ (0 ≤ n ∧ n ≤ 1000 ∧ z.length ≤ 10000) ∧ Q (.str (repS z n.toNat)) H
theorem op_repS : OpR X (binaryOp .Mult) rRepS := by
  intro pins s σ H x y v u Q I rx ry h
  obtain ⟨z, n, rfl, rfl, ⟨h0, h1, h2⟩, q⟩ := h
  obtain ⟨t, rfl⟩ := rx
  obtain ⟨t', rfl⟩ := ry
  have hn : n.toNat ≤ 1000 := by omega
  have hz : z.length * n.toNat ≤ 10000 * 1000 := Nat.mul_le_mul h2 hn
  refine PySem.P.mul_str (by rw [decide_eq_false (by omega), decide_eq_false (by omega)]; rfl) (fun a _ b => ?_) (fun _ _ => ?_) ?_
  · have h3 : (2 ^ 63 - 1 : Int) / n ≥ (2 ^ 63 - 1) / 1000 := by
      have hp : 0 < n := by omega
      rw [ge_iff_le, Int.le_ediv_iff_mul_le hp]
      have : (2 ^ 63 - 1 : Int) / 1000 * n ≤ (2 ^ 63 - 1 : Int) / 1000 * 1000 := Int.mul_le_mul_of_nonneg_left h1 (by decide)
      refine Int.le_trans this (by decide)
    have h4 : ((2 ^ 63 - 1 : Int) / 1000) = 9223372036854775 := by decide
    rw [h4] at h3
    omega
  · show decide _ = false
    exact decide_eq_false (by
      show ¬ (z.length * n.toNat > sizeLine)
      have : sizeLine = 16777216 := by decide
      omega)
  · by_cases c1 : n < 1
    · rw [if_pos c1]
      have e : n = 0 := by omega
      subst e
      refine ⟨by decide, .str Str.empty, H, I.tok _, ⟨_, rfl⟩, ?_⟩
      have : repS z (Int.toNat 0) = Str.empty := by
        unfold repS
        simp
        rfl
      rw [← this]; exact q
    · rw [if_neg c1]
      by_cases c2 : (n == 1 || z.length == 0) = true
      · rw [if_pos c2]
        refine ⟨.str z, H, I, ⟨_, rfl⟩, ?_⟩
        have : repS z n.toNat = z := by
          simp only [Bool.or_eq_true, beq_iff_eq] at c2
          rcases c2 with c2 | c2
          · subst c2
            unfold repS
            simp
          · unfold repS
            have hz0 : z.cps = #[] := by
              have : z.cps.size = 0 := c2
              exact Array.eq_empty_of_size_eq_zero this
            obtain ⟨cps⟩ := z
            simp only at hz0
            subst hz0
            simp
        rw [← this]; exact q
      · rw [if_neg c2]
        refine ⟨?_, .str _, H, I.tok _, ⟨_, rfl⟩, by rw [repS_eq]; exact q⟩
        rw [repS_eq]
        rw [repS_len]
        have : sizeLine = 16777216 := by decide
        rw [Nat.mul_comm]
        omega

variable {a b e : Expr} {ma mb : ME} {pos : Pos}
def rAddA (K : KW) : R2 := fun x y H Q => ((rI0 fun i j => .int (i + j)) x y H Q ∨ (∃ i j, x = .str i ∧ y = .str j ∧ i.length + j.length ≤ sizeLine ∧ Q (.str (i ++ j)) H)) ∨ (rCatN K x y H Q ∨ rCat x y H Q)
theorem op_addA : OpR X (binaryOp .Add) (rAddA X.KW) := OpR.or (OpR.or op_add op_add_str) (OpR.or op_catN op_cat)
theorem o_add {K : KW} : OpD K addD (rAddA K) := fun Z H x y d e r Q zl hx hy er k => by
  unfold addD at er
  split at er
  · cases er
    cases rt_int hx; cases rt_int hy
    exact .inl (.inl ⟨_, _, rfl, rfl, k Z H _ (.refl _ _) nr_int⟩)
  · split at er
    · rename_i hl; cases er
      cases rt_str hx; cases rt_str hy
      exact .inl (.inr ⟨_, _, rfl, rfl, hl, k Z H _ (.refl _ _) nr_str⟩)
    · cases er
  · split at er
    · rename_i xs ys hl; cases er
      obtain ⟨p, vs, rfl, hp, r1⟩ := rt_tup hx
      obtain ⟨q, ws, rfl, hq, r2⟩ := rt_tup hy
      refine .inr (.inl ⟨p, q, vs, ws, rfl, rfl, hp.sq, hq.sq, by rw [rds_len r1, rds_len r2]; exact hl, fun h0 => ?_, fun _ h0 => ?_, fun _ _ => q_tup (rds_app r1 r2) k⟩)
      · have := (rds_nil_iff r1).mp h0
        subst this
        exact k Z H _ (.refl _ _) (by simp only [NR, RD, List.nil_append]; exact ⟨_, _, rfl, hq, r2⟩)
      · have := (rds_nil_iff r2).mp h0
        subst this
        exact k Z H _ (.refl _ _) (by simp only [NR, RD, List.append_nil]; exact ⟨_, _, rfl, hp, r1⟩)
    · cases er
  · split at er
    · rename_i xs ys hl; cases er
      obtain ⟨p, vs, rfl, hp, r1⟩ := hx
      obtain ⟨q, ws, rfl, hq, r2⟩ := hy
      exact .inr (.inr ⟨p, q, vs, ws, rfl, rfl, hp, hq, by rw [rds_len r1, rds_len r2]; exact hl, q_lst zl (rds_app r1 r2) k⟩)
    · cases er
  · cases er
theorem ce_add (ha : CE X a ma) (hb : CE X b mb) : CE X (.BinOp a .Add b pos) (mOp addD ma mb) := ce_op op_addA o_add ha hb
theorem o_sub {K : KW} : OpD K subD (rI0 fun i j => .int (i - j)) := fun Z H x y d e r Q zl hx hy er k => by
  unfold subD at er
  split at er
  · cases er
    cases rt_int hx; cases rt_int hy
    exact ⟨_, _, rfl, rfl, k Z H _ (.refl _ _) nr_int⟩
  · cases er
theorem ce_sub (ha : CE X a ma) (hb : CE X b mb) : CE X (.BinOp a .Sub b pos) (mOp subD ma mb) := ce_op op_sub o_sub ha hb
theorem mulOk_i {i j : Int} (h : mulOk i j = true) : CMul i j ∨ CMulW i j := by
  unfold mulOk at h
  simp only [Bool.or_eq_true, decide_eq_true_eq] at h
  rcases h with (h | h) | h
  · exact .inl (.inl (by omega))
  · exact .inl (.inr (by omega))
  · exact .inr h
theorem o_mul {K : KW} : OpD K mulD (fun x y H Q => (((rI CMul fun i j => .int (i * j)) x y H Q ∨ (rI CMulW fun i j => .int (i * j)) x y H Q) ∨ (rRepS x y H Q ∨ rRep x y H Q)) ∨ (rRepN K x y H Q ∨ rRepT0 K x y H Q)) := fun Z H x y d e r Q zl hx hy er k => by
  unfold mulD at er
  split at er
  · split at er
    · rename_i h; cases er
      cases rt_int hx; cases rt_int hy
      rcases mulOk_i h with h | h
      · exact .inl (.inl (.inl ⟨_, _, rfl, rfl, h, k Z H _ (.refl _ _) nr_int⟩))
      · exact .inl (.inl (.inr ⟨_, _, rfl, rfl, h, k Z H _ (.refl _ _) nr_int⟩))
    · cases er
  · split at er
    · rename_i h; cases er
      cases rt_str hx; cases rt_int hy
      exact .inl (.inr (.inl ⟨_, _, rfl, rfl, h, k Z H _ (.refl _ _) nr_str⟩))
    · cases er
  · split at er
    · rename_i xs n h; cases er
      obtain ⟨p, vs, rfl, hp, r1⟩ := hx
      cases rt_int hy
      have h5 : xs.length * n.toNat ≤ 10000 * 1000 := Nat.mul_le_mul h.2.2 (by omega)
      refine .inl (.inr (.inr ⟨p, _, vs, rfl, rfl, hp, by omega, by omega, ?_, q_lst zl (rds_rep r1) k⟩))
      rw [rds_len r1]
      have : sizeLine = 16777216 := by decide
      omega
    · cases er
  · split at er
    · rename_i xs n h; cases er
      obtain ⟨p, vs, rfl, hp, r1⟩ := rt_tup hx
      cases rt_int hy
      have hl := rds_len r1
      cases xs with
      | nil =>
        have : vs = [] := List.eq_nil_of_length_eq_zero (by rw [hl]; rfl)
        subst this
        have e0 : (List.replicate n.toNat ([] : List D)).flatten = [] := List.flatten_eq_nil_iff.mpr fun l hl => (List.mem_replicate.mp hl).2
        refine .inr (.inr ⟨p, _, rfl, rfl, hp.sq, h.1, h.2.1, k Z H _ (.refl _ _) ?_⟩)
        rw [e0]
        simp only [NR, RD]
        exact ⟨p, [], rfl, hp, rds_nil⟩
      | cons x xs =>
        refine .inr (.inl ⟨p, _, vs, rfl, rfl, hp.sq, fun e => ?_, h.1, h.2.1, by omega, q_tup (rds_rep r1) k⟩)
        subst e
        simp at hl
    · cases er
  · cases er
theorem ce_mul (ha : CE X a ma) (hb : CE X b mb) : CE X (.BinOp a .Mult b pos) (mOp mulD ma mb) := ce_op (OpR.or (OpR.or (OpR.or op_mul op_mulW) (OpR.or op_repS op_rep)) (OpR.or op_repN op_repT0)) o_mul ha hb
theorem o_fdiv {K : KW} : OpD K fdivD (rI CDivW fun i j => .int (i / j)) := fun Z H x y d e r Q zl hx hy er k => by
  unfold fdivD at er
  split at er
  · split at er
    · rename_i h; cases er
      cases rt_int hx; cases rt_int hy
      exact ⟨_, _, rfl, rfl, h, k Z H _ (.refl _ _) nr_int⟩
    · cases er
  · cases er
theorem ce_fdiv (ha : CE X a ma) (hb : CE X b mb) : CE X (.BinOp a .FloorDiv b pos) (mOp fdivD ma mb) := ce_op op_fdivW o_fdiv ha hb
theorem o_mod {K : KW} : OpD K modD (rI (fun _ j => 0 < j) fun i j => .int (i % j)) := fun Z H x y d e r Q zl hx hy er k => by
  unfold modD at er
  split at er
  · split at er
    · rename_i h; cases er
      cases rt_int hx; cases rt_int hy
      exact ⟨_, _, rfl, rfl, h, k Z H _ (.refl _ _) nr_int⟩
    · cases er
  · cases er
theorem ce_mod (ha : CE X a ma) (hb : CE X b mb) : CE X (.BinOp a .Mod b pos) (mOp modD ma mb) := ce_op op_mod o_mod ha hb
theorem o_pow {K : KW} : OpD K powD (rI CPow fun i j => .int (i ^ j.toNat)) := fun Z H x y d e r Q zl hx hy er k => by
  unfold powD at er
  split at er
  · split at er
    · rename_i h; cases er
      cases rt_int hx; cases rt_int hy
      exact ⟨_, _, rfl, rfl, h, k Z H _ (.refl _ _) nr_int⟩
    · cases er
  · cases er
theorem ce_pow (ha : CE X a ma) (hb : CE X b mb) : CE X (.BinOp a .Pow b pos) (mOp powD ma mb) := ce_op op_pow o_pow ha hb
/-! ### unary minus -/
def mUn (f : D → Option R) (m : ME) : ME := fun ρ => (m ρ).bind fun p => (rs p.2 p.1).bind fun x => (f x).map fun r => (r, p.2)
def Op1 (K : KW) (f : D → Option R) (r1 : V → Hp → VK → Prop) : Prop := ∀ (Z : AS) (H : Hp) (x : V) (d : D) (r : R) (Q : VK), (∀ a, Z a → H a ≠ none) → RV K Z H d x → f d = some r → (∀ Z' H' v, Nw Z H Z' H' → NR K H Z' H' r v → Q v H') → r1 x H Q
theorem tE_Un {K : KW} {f : D → Option R} {r1 : V → Hp → VK → Prop} {m : ME} (o : Op1 K f r1) : ∀ σ H Q, tE K (mUn f m) σ H Q → tUn r1 (tE K m) σ H Q := fun σ H Q ⟨Z, ρ, r, ρ', fr, e, k⟩ => by
  obtain ⟨⟨r1, ρ1⟩, e1, e⟩ := bnd e
  obtain ⟨d1, ex, e⟩ := bnd e
  obtain ⟨r', er, e⟩ := Option.map_eq_some_iff.mp e
  cases e
  refine ⟨Z, ρ, r1, ρ1, fr, e1, fun Z1 H1 x g1 h1 => ?_⟩
  exact o Z1 H1 x d1 r Q g1.fr.zl (rs_ok g1.fr h1 ex) er fun Z3 H3 v n3 nr => k Z3 H3 v (g1.trans (n3.go g1.fr)) (nr.rr g1 n3)
def negD : D → Option R
  | .int i => some (.val (.int (-i)))
  | _ => none
theorem o_neg {K : KW} : Op1 K negD (rU fun i => .int (-i)) := fun Z H x d r Q zl hx er k => by
  unfold negD at er
  split at er
  · cases er
    cases rv_int hx
    exact ⟨_, rfl, k Z H _ (.refl _ _) nr_int⟩
  · cases er
theorem ce_neg {m : ME} (h : CE X a m) : CE X (.UnaryOp .USub a pos) (mUn negD m) := pe_imp (pe_un un_neg h) (tE_Un o_neg)

/-! ### comparisons -/
mutual
theorem dp_of {K : KW} {Z : AS} {H : Hp} : ∀ {d : D} {v : V}, RD K Z H d v → d.canLay0 = true → Dp K H v d
  | .none, v, h, _ => by cases (show v = _ by simpa only [RD] using h); exact .non
  | .bool b, v, h, _ => by cases (show v = _ by simpa only [RD] using h); exact .bl b
  | .int b, v, h, _ => by cases (show v = _ by simpa only [RD] using h); exact .int b
  | .str b, v, h, _ => by cases (show v = _ by simpa only [RD] using h); exact .str b
  | .list ds, v, h, c => by
    simp only [RD] at h
    obtain ⟨a, vs, rfl, _, q, r⟩ := h
    exact .lst (.of q) (dpAll_of r (by simpa [PyData.canLay0] using c))
  | .tuple ds, v, h, c => by
    simp only [RD] at h
    obtain ⟨a, vs, rfl, q, r⟩ := h
    exact .tup q.sq (dpAll_of r (by simpa [PyData.canLay0] using c))
  | .dict ks, v, _, c => by simp [PyData.canLay0] at c
theorem dpAll_of {K : KW} {Z : AS} {H : Hp} : ∀ {ds : List D} {vs : List V}, RDs K Z H ds vs → PyData.canLayAll0 ds = true → DpAll K H vs ds
  | [], vs, h, _ => by simp only [RDs] at h; subst h; exact .nil
  | d :: ds, vs, h, c => by
    simp only [RDs] at h
    obtain ⟨v, r, rfl, h1, h2⟩ := h
    have c' : d.canLay0 = true ∧ PyData.canLayAll0 ds = true := by simpa [PyData.canLayAll0] using c
    exact .cons (dp_of h1 c'.1) (dpAll_of h2 c'.2)
end
theorem dp_rv {K : KW} {Z : AS} {H : Hp} {d : D} {v : V} (h : RV K Z H d v) (c : d.canLay0 = true) : Dp K H v d := by
  cases d with
  | list ds => obtain ⟨a, vs, rfl, q, r⟩ := h; exact .lst q (dpAll_of r (by simpa [PyData.canLay0] using c))
  | dict ks => simp [PyData.canLay0] at c
  | _ => exact dp_of (Z := Z) h c
def eqB : D → D → Option Bool
  | .str x, .str y => some (decide (x = y))
  | .int x, .int y => some (decide (x = y))
  | d, e => if SeqAt.shaped d && SeqAt.shaped e then some (PyData.eqv d e) else none
def eqD (d e : D) : Option R := (eqB d e).map fun b => .val (.bool b)
def neD (d e : D) : Option R := (eqB d e).map fun b => .val (.bool !b)
theorem shaped_lay {d : D} (h : SeqAt.shaped d = true) : d.canLay0 = true := SeqAt.canLay_of_shaped h
theorem o_eq {K : KW} : OpV K eqD (fun x y H Q => rEq x y H Q ∨ rEqD K x y H Q) := fun Z H x y d e r Q zl hx hy er k => by
  obtain ⟨b, eb, er⟩ := Option.map_eq_some_iff.mp er
  cases er
  have fin : ∀ c, c = b → Q (.bl c) H := fun c hc => by subst hc; exact k Z H _ (.refl _ _) nr_bool
  unfold eqB at eb
  split at eb
  · cases eb; cases rv_str hx; cases rv_str hy
    exact .inl ⟨rfl, fin _ (by simp)⟩
  · cases eb; cases rv_int hx; cases rv_int hy
    exact .inl ⟨rfl, fin _ (by simp)⟩
  · split at eb
    · rename_i h; cases eb
      simp only [Bool.and_eq_true] at h
      exact .inr ⟨d, e, dp_rv hx (shaped_lay h.1), dp_rv hy (shaped_lay h.2), h.1, h.2, fin _ rfl⟩
    · cases eb
theorem o_ne {K : KW} : OpV K neD (fun x y H Q => rNe x y H Q ∨ rNeD K x y H Q) := fun Z H x y d e r Q zl hx hy er k => by
  obtain ⟨b, eb, er⟩ := Option.map_eq_some_iff.mp er
  cases er
  have fin : ∀ c, c = b → Q (.bl !c) H := fun c hc => by subst hc; exact k Z H _ (.refl _ _) nr_bool
  unfold eqB at eb
  split at eb
  · cases eb; cases rv_str hx; cases rv_str hy
    exact .inl ⟨rfl, fin _ (by simp)⟩
  · cases eb; cases rv_int hx; cases rv_int hy
    exact .inl ⟨rfl, fin _ (by simp)⟩
  · split at eb
    · rename_i h; cases eb
      simp only [Bool.and_eq_true] at h
      exact .inr ⟨d, e, dp_rv hx (shaped_lay h.1), dp_rv hy (shaped_lay h.2), h.1, h.2, fin _ rfl⟩
    · cases eb
variable {k : Nat} (hr : Room k X.A)
include hr
theorem ce_eq (ha : CE X a ma) (hb : CE X b mb) : CE X (.Compare a [.Eq] [b] pos) (mOpV eqD ma mb) := ce_cmp (OpR.or op_eq (op_eqD hr.units)) o_eq ha hb
theorem ce_ne (ha : CE X a ma) (hb : CE X b mb) : CE X (.Compare a [.NotEq] [b] pos) (mOpV neD ma mb) := ce_cmp (OpR.or op_ne (op_neD hr.units)) o_ne ha hb
theorem ct_eq (ha : CE X a ma) (hb : CE X b mb) : CT X (.Compare a [.Eq] [b] pos) (mB (mOpV eqD ma mb)) := ct_cmp (OpR.or op_eq (op_eqD hr.units)) o_eq ha hb
theorem ct_ne (ha : CE X a ma) (hb : CE X b mb) : CT X (.Compare a [.NotEq] [b] pos) (mB (mOpV neD ma mb)) := ct_cmp (OpR.or op_ne (op_neD hr.units)) o_ne ha hb
omit hr
def cmpD (p : Int → Int → Bool) : D → D → Option R
  | .int i, .int j => some (.val (.bool (p i j)))
  | _, _ => none
theorem o_cmp {K : KW} {p : Int → Int → Bool} : OpV K (cmpD p) (rI0 fun i j => .bl (p i j)) := fun Z H x y d e r Q zl hx hy er k => by
  unfold cmpD at er
  split at er
  · cases er
    cases rv_int hx; cases rv_int hy
    exact ⟨_, _, rfl, rfl, k Z H _ (.refl _ _) nr_bool⟩
  · cases er
abbrev ltD := cmpD fun i j => decide (i < j)
abbrev leD := cmpD fun i j => decide (i ≤ j)
abbrev gtD := cmpD fun i j => decide (j < i)
abbrev geD := cmpD fun i j => decide (j ≤ i)
theorem ce_lt (ha : CE X a ma) (hb : CE X b mb) : CE X (.Compare a [.Lt] [b] pos) (mOpV ltD ma mb) := ce_cmp op_lt o_cmp ha hb
theorem ce_le (ha : CE X a ma) (hb : CE X b mb) : CE X (.Compare a [.LtE] [b] pos) (mOpV leD ma mb) := ce_cmp op_le o_cmp ha hb
theorem ce_gt (ha : CE X a ma) (hb : CE X b mb) : CE X (.Compare a [.Gt] [b] pos) (mOpV gtD ma mb) := ce_cmp op_gt o_cmp ha hb
theorem ce_ge (ha : CE X a ma) (hb : CE X b mb) : CE X (.Compare a [.GtE] [b] pos) (mOpV geD ma mb) := ce_cmp op_ge o_cmp ha hb
theorem ct_lt (ha : CE X a ma) (hb : CE X b mb) : CT X (.Compare a [.Lt] [b] pos) (mB (mOpV ltD ma mb)) := ct_cmp op_lt o_cmp ha hb
theorem ct_le (ha : CE X a ma) (hb : CE X b mb) : CT X (.Compare a [.LtE] [b] pos) (mB (mOpV leD ma mb)) := ct_cmp op_le o_cmp ha hb
theorem ct_gt (ha : CE X a ma) (hb : CE X b mb) : CT X (.Compare a [.Gt] [b] pos) (mB (mOpV gtD ma mb)) := ct_cmp op_gt o_cmp ha hb
theorem ct_ge (ha : CE X a ma) (hb : CE X b mb) : CT X (.Compare a [.GtE] [b] pos) (mB (mOpV geD ma mb)) := ct_cmp op_ge o_cmp ha hb
/-! x in y -/
def flatD : D → Bool
  | .none | .bool _ | .int _ | .str _ => true
  | _ => false
def inL (d : D) (ds : List D) : Option Bool :=
  if flatD d && ds.all flatD then some (ds.any fun z => PyData.eqv z d) else if SeqAt.shaped d && SeqAt.shaped (.list ds) then some (ds.any fun z => PyData.eqv z d) else none
def inB : D → D → Option Bool
  | .str x, .str y => some (!(Builtin.Str.occurrences y x 0 y.length 1).isEmpty)
  | d, .list ds => inL d ds
  | d, .tuple ds => inL d ds
  | _, _ => none
def inD (d e : D) : Option R := (inB d e).map fun b => .val (.bool b)
def ninD (d e : D) : Option R := (inB d e).map fun b => .val (.bool !b)
def rInT (K : KW) (neg : Bool) : R2 := fun x y H Q => ∃ d ds, Dp K H x d ∧ Dp K H y (.tuple ds) ∧ SeqAt.shaped d = true ∧ SeqAt.shaped (.list ds) = true ∧ Q (.bl (if neg then !ds.any fun z => PyData.eqv z d else ds.any fun z => PyData.eqv z d)) H
theorem shaped_lt {ds : List D} (h : SeqAt.shaped (.list ds) = true) : SeqAt.shaped (.tuple ds) = true := by
  unfold SeqAt.shaped at h ⊢
  simp only [Bool.and_eq_true, decide_eq_true_eq, PyData.canLay0, PyData.depth] at h ⊢
  exact h
theorem op_inT (hu : X.A.units + 65 < cLine) : OpR X (compareOp .In) (rInT X.KW false) := by
  intro pins s σ H x y v u Q I rx ry h
  obtain ⟨d, ds, hd, he, sd, se, q⟩ := h
  obtain ⟨as, r1⟩ := Dp.reads I d x v hd rx
  obtain ⟨bs, r2⟩ := Dp.reads I (.tuple ds) y u he ry
  exact SeqAt.in_tuple_reads r2 r1 (SeqAt.canLay_of_shaped se) (SeqAt.canLay_of_shaped sd) (room_in_shaped sd hu) ⟨.bl _, H, I, rfl, q⟩
theorem op_ninT (hu : X.A.units + 65 < cLine) : OpR X (compareOp .NotIn) (rInT X.KW true) := by
  intro pins s σ H x y v u Q I rx ry h
  obtain ⟨d, ds, hd, he, sd, se, q⟩ := h
  obtain ⟨as, r1⟩ := Dp.reads I d x v hd rx
  obtain ⟨bs, r2⟩ := Dp.reads I (.tuple ds) y u he ry
  exact SeqAt.notIn_tuple_reads r2 r1 (SeqAt.canLay_of_shaped se) (SeqAt.canLay_of_shaped sd) (room_in_shaped sd hu) ⟨.bl _, H, I, rfl, q⟩
theorem flat_rd {K : KW} {Z : AS} {H : Hp} {d : D} {v : V} (h : RD K Z H d v) (f : flatD d = true) : flatV v = true := by
  cases d with
  | list ds => cases f
  | tuple ds => cases f
  | dict ds => cases f
  | none => cases (show v = _ by simpa only [RD] using h); rfl
  | bool b => cases (show v = _ by simpa only [RD] using h); rfl
  | int b => cases (show v = _ by simpa only [RD] using h); rfl
  | str b => cases (show v = _ by simpa only [RD] using h); rfl
theorem flat_eq {K : KW} {Z : AS} {H : Hp} {d e : D} {v w : V} (h : RD K Z H d v) (h' : RD K Z H e w) (f : flatD d = true) (f' : flatD e = true) : eqV v w = PyData.eqv d e := by
  cases d with
  | list ds => cases f
  | tuple ds => cases f
  | dict ds => cases f
  | none => cases (show v = _ by simpa only [RD] using h); cases e with
    | list ds => cases f'
    | tuple ds => cases f'
    | dict ds => cases f'
    | none => cases (show w = _ by simpa only [RD] using h'); simp only [eqV, PyData.eqv]
    | bool b => cases (show w = _ by simpa only [RD] using h'); simp only [eqV, PyData.eqv]
    | int b => cases (show w = _ by simpa only [RD] using h'); simp only [eqV, PyData.eqv]
    | str b => cases (show w = _ by simpa only [RD] using h'); simp only [eqV, PyData.eqv]
  | bool b => cases (show v = _ by simpa only [RD] using h); cases e with
    | list ds => cases f'
    | tuple ds => cases f'
    | dict ds => cases f'
    | none => cases (show w = _ by simpa only [RD] using h'); simp only [eqV, PyData.eqv]
    | bool b => cases (show w = _ by simpa only [RD] using h'); simp only [eqV, PyData.eqv]
    | int b => cases (show w = _ by simpa only [RD] using h'); simp only [eqV, PyData.eqv]
    | str b => cases (show w = _ by simpa only [RD] using h'); simp only [eqV, PyData.eqv]
  | int b => cases (show v = _ by simpa only [RD] using h); cases e with
    | list ds => cases f'
    | tuple ds => cases f'
    | dict ds => cases f'
    | none => cases (show w = _ by simpa only [RD] using h'); simp only [eqV, PyData.eqv]
    | bool b => cases (show w = _ by simpa only [RD] using h'); simp only [eqV, PyData.eqv]
    | int b => cases (show w = _ by simpa only [RD] using h'); simp only [eqV, PyData.eqv]
    | str b => cases (show w = _ by simpa only [RD] using h'); simp only [eqV, PyData.eqv]
  | str b => cases (show v = _ by simpa only [RD] using h); cases e with
    | list ds => cases f'
    | tuple ds => cases f'
    | dict ds => cases f'
    | none => cases (show w = _ by simpa only [RD] using h'); simp only [eqV, PyData.eqv]
    | bool b => cases (show w = _ by simpa only [RD] using h'); simp only [eqV, PyData.eqv]
    | int b => cases (show w = _ by simpa only [RD] using h'); simp only [eqV, PyData.eqv]
    | str b => cases (show w = _ by simpa only [RD] using h'); simp only [eqV, PyData.eqv]
theorem flats {K : KW} {Z : AS} {H : Hp} {d : D} {v : V} (h' : RD K Z H d v) (f' : flatD d = true) : ∀ {ds : List D} {vs : List V}, RDs K Z H ds vs → ds.all flatD = true → vs.all flatV = true ∧ inV v vs = ds.any fun z => PyData.eqv z d
  | [], _, h, _ => by simp only [RDs] at h; subst h; exact ⟨rfl, rfl⟩
  | e :: ds, _, h, f => by
    simp only [RDs] at h
    obtain ⟨w, r, rfl, h1, h2⟩ := h
    simp only [List.all_cons, Bool.and_eq_true] at f
    obtain ⟨q1, q2⟩ := flats h' f' h2 f.2
    refine ⟨by simp only [List.all_cons, Bool.and_eq_true]; exact ⟨flat_rd h1 f.1, q1⟩, ?_⟩
    unfold inV at q2 ⊢
    rw [List.any_cons, List.any_cons, q2, flat_eq h1 h' f.1 f']
theorem rv_flat {K : KW} {Z : AS} {H : Hp} {d : D} {v : V} (h : RV K Z H d v) (f : flatD d = true) : RD K Z H d v := by
  cases d with
  | list ds => cases f
  | tuple ds => cases f
  | dict ds => cases f
  | _ => exact h
def rInA (K : KW) (neg : Bool) : R2 := fun x y H Q => (∃ i j, x = .str i ∧ y = .str j ∧ Q (.bl (if neg then (!(!(Builtin.Str.occurrences j i 0 j.length 1).isEmpty)) else (!(Builtin.Str.occurrences j i 0 j.length 1).isEmpty))) H) ∨
  (rIn K neg x y H Q ∨ ((if neg then rNotInD K x y H Q else rInD K x y H Q) ∨ rInT K neg x y H Q))
theorem in_sem {K : KW} {neg : Bool} {Z : AS} {H : Hp} {x y : V} {d e : D} {b : Bool} {Q : VK} (hx : RV K Z H d x) (hy : RV K Z H e y) (eb : inB d e = some b) (q : Q (.bl (if neg then !b else b)) H) : rInA K neg x y H Q := by
  unfold inB at eb
  have lst : ∀ {p : Addr} {vs : List V} {ds : List D}, y = .ref p → RDs K Z H ds vs → (SqL K H p vs ∨ SqT K H p vs) → inL d ds = some b → rInA K neg x y H Q := fun {p vs ds} ey hd hq eb => by
    subst ey
    unfold inL at eb
    split at eb
    · rename_i hf
      simp only [Bool.and_eq_true] at hf
      have e := Option.some.inj eb
      obtain ⟨q1, q2⟩ := flats (rv_flat hx hf.1) hf.1 hd hf.2
      refine .inr (.inl ⟨p, vs, rfl, hq, flat_rd (rv_flat hx hf.1) hf.1, q1, ?_⟩)
      rw [q2, e]
      exact q
    · split at eb
      · rename_i hf
        simp only [Bool.and_eq_true] at hf
        have e := Option.some.inj eb
        have hl : PyData.canLayAll0 ds = true := by have := shaped_lay hf.2; simpa [PyData.canLay0] using this
        rcases hq with hq | hq
        · refine .inr (.inr (.inl ?_))
          cases neg with
          | true =>
            rw [if_pos rfl] at q ⊢
            exact ⟨d, ds, dp_rv hx (shaped_lay hf.1), .lst hq (dpAll_of hd hl), hf.1, hf.2, by rw [e]; exact q⟩
          | false =>
            rw [if_neg (by decide)] at q ⊢
            exact ⟨d, ds, dp_rv hx (shaped_lay hf.1), .lst hq (dpAll_of hd hl), hf.1, hf.2, by rw [e]; exact q⟩
        · exact .inr (.inr (.inr ⟨d, ds, dp_rv hx (shaped_lay hf.1), .tup hq (dpAll_of hd hl), hf.1, hf.2, by rw [e]; exact q⟩))
      · cases eb
  split at eb
  · cases rv_str hx; cases rv_str hy
    have e := Option.some.inj eb
    refine .inl ⟨_, _, rfl, rfl, ?_⟩
    rw [e]; exact q
  · obtain ⟨p, vs, ey, hq, hd⟩ := hy
    exact lst ey hd (.inl hq) eb
  · obtain ⟨p, vs, ey, hq, hd⟩ := rv_tup hy
    exact lst ey hd (.inr hq.sq) eb
  · cases eb
theorem o_in {K : KW} : OpV K inD (rInA K false) := fun Z H x y d e r Q zl hx hy er k => by
  obtain ⟨b, eb, er⟩ := Option.map_eq_some_iff.mp er
  cases er
  exact in_sem hx hy eb (k Z H _ (.refl _ _) nr_bool)
theorem o_nin {K : KW} : OpV K ninD (rInA K true) := fun Z H x y d e r Q zl hx hy er k => by
  obtain ⟨b, eb, er⟩ := Option.map_eq_some_iff.mp er
  cases er
  exact in_sem hx hy eb (k Z H _ (.refl _ _) nr_bool)
include hr
theorem op_inA : OpR X (compareOp .In) (rInA X.KW false) := OpR.or op_in_str (OpR.or op_in_seq (OpR.or (op_inD (by have := hr.un; omega)) (op_inT (by have := hr.un; omega))))
theorem op_ninA : OpR X (compareOp .NotIn) (rInA X.KW true) := OpR.or op_notin_str (OpR.or op_notIn_seq (OpR.or (op_notInD (by have := hr.un; omega)) (op_ninT (by have := hr.un; omega))))
theorem ce_in (ha : CE X a ma) (hb : CE X b mb) (hm : behindInMarks .In b = false := by rfl) : CE X (.Compare a [.In] [b] pos) (mOpV inD ma mb) := ce_cmp (op_inA hr) o_in ha hb hm
theorem ce_nin (ha : CE X a ma) (hb : CE X b mb) (hm : behindInMarks .NotIn b = false := by rfl) : CE X (.Compare a [.NotIn] [b] pos) (mOpV ninD ma mb) := ce_cmp (op_ninA hr) o_nin ha hb hm
theorem ct_in (ha : CE X a ma) (hb : CE X b mb) (hm : behindInMarks .In b = false := by rfl) : CT X (.Compare a [.In] [b] pos) (mB (mOpV inD ma mb)) := ct_cmp (op_inA hr) o_in ha hb hm
theorem ct_nin (ha : CE X a ma) (hb : CE X b mb) (hm : behindInMarks .NotIn b = false := by rfl) : CT X (.Compare a [.NotIn] [b] pos) (mB (mOpV ninD ma mb)) := ct_cmp (op_ninA hr) o_nin ha hb hm
omit hr
/-! is None -/
def isND (neg : Bool) : D → Bool
  | .none => !neg
  | _ => neg
def mIsN (neg : Bool) (m : ME) : ME := fun ρ => (m ρ).bind fun p => (rs p.2 p.1).bind fun d => some (.val (.bool (isND neg d)), p.2)
theorem isn_rv {K : KW} {Z : AS} {H : Hp} {d : D} {v : V} (h : RV K Z H d v) (neg : Bool) : (if neg then !decide (v = .non) else decide (v = .non)) = isND neg d := by
  cases d with
  | none => cases rv_none h; cases neg <;> rfl
  | bool b => cases rv_bool h; cases neg <;> rfl
  | int b => cases rv_int h; cases neg <;> rfl
  | str b => cases rv_str h; cases neg <;> rfl
  | list ds => obtain ⟨a, vs, rfl, _⟩ := h; cases neg <;> rfl
  | tuple ds => obtain ⟨a, vs, rfl, _⟩ := rv_tup h; cases neg <;> rfl
  | dict ds =>
    rcases (show RDd K Z H ds v from h) with ⟨a, vs, rfl, _⟩ | ⟨a, vs, rfl, _⟩ <;> (cases neg <;> rfl)
theorem tE_isN {K : KW} {neg : Bool} {m : ME} : ∀ σ H Q, tE K (mIsN neg m) σ H Q → tE K m σ H fun x H1 => Q (.bl (if neg then !decide (x = .non) else decide (x = .non))) H1 := fun σ H Q ⟨Z, ρ, r, ρ', fr, e, k⟩ => by
  obtain ⟨⟨r1, ρ1⟩, e1, e⟩ := bnd e
  obtain ⟨d1, ex, e⟩ := bnd e
  cases e
  refine ⟨Z, ρ, r1, ρ1, fr, e1, fun Z1 H1 x g1 h1 => ?_⟩
  show Q (V.bl (if neg = true then !decide (x = V.non) else decide (x = V.non))) H1
  rw [isn_rv (rs_ok g1.fr h1 ex) neg]
  exact k Z1 H1 _ g1 (by simp only [RR, RD])
theorem ce_isN {j pos'} {m : ME} (h : CE X a m) : CE X (.Compare a [.Is] [.Constant .none j pos'] pos) (mIsN false m) := pe_imp (pe_cmp (pc_isN h)) fun σ H Q q => tE_isN _ _ _ q
theorem ce_notN {j pos'} {m : ME} (h : CE X a m) : CE X (.Compare a [.IsNot] [.Constant .none j pos'] pos) (mIsN true m) := pe_imp (pe_cmp (pc_notN h)) fun σ H Q q => tE_isN _ _ _ q
theorem ct_isN {j pos'} {m : ME} (h : CE X a m) : CT X (.Compare a [.Is] [.Constant .none j pos'] pos) (mB (mIsN false m)) := pt_imp (pt_cmp (pc_isN h)) fun σ H Q q => tE_isN _ _ _ (tT_B _ _ _ q)
theorem ct_notN {j pos'} {m : ME} (h : CE X a m) : CT X (.Compare a [.IsNot] [.Constant .none j pos'] pos) (mB (mIsN true m)) := pt_imp (pt_cmp (pc_notN h)) fun σ H Q q => tE_isN _ _ _ (tT_B _ _ _ q)
end
end Zl
end

-- ZDtp
section
/-! dicts whose keys are tuples of anything that may be a key -/
namespace Zl
open PySem PySem.Spec PyProof.Rows L2
/-- the key k stands as a tuple at b -/
def KeyT (K : KW) (Z : AS) (H : Hp) (k : NestedKey) (b : Addr) : Prop := k.depth ≤ 8 ∧ ∃ d, NK d = some k ∧ RD K Z H d (.ref b)
abbrev Xs := List (NestedKey × Addr × V)
/-- a dict with tuple keys, maybe bare -/
def DtAt (K : KW) (Z : AS) (H : Hp) (a : Addr) (xs : Xs) : Prop := (H a = some (DtO K a xs) ∨ (xs = [] ∧ H a = some (.dK []))) ∧ ∀ x ∈ xs, KeyT K Z H x.1 x.2.1
def atV (xs : Xs) (k : NestedKey) : Option V := (xs.find? fun x => decide (x.1 = k)).map (·.2.2)
def storedV (xs : Xs) (k : NestedKey) (b : Addr) (v : V) : Xs := if (atV xs k).isSome then xs.map (fun x => if x.1 = k then (x.1, x.2.1, v) else x) else xs ++ [(k, b, v)]
abbrev XsR (xs : Xs) (us : List (NestedKey × Addr × Value)) : Prop := Paired (fun x u => x.1 = u.1 ∧ x.2.1 = u.2.1 ∧ RelV x.2.2 u.2.2) xs us
theorem XsR.at {k : NestedKey} : ∀ {xs : Xs} {us : List (NestedKey × Addr × Value)}, XsR xs us → RelO (atV xs k) ((atKey us k).map (·.2))
  | _, _, .nil => trivial
  | _, _, .cons (a := x) (b := u) r t => by
    by_cases c : x.1 = k
    · have c' : u.1 = k := r.1.symm.trans c
      simp only [atV, atKey, List.find?_cons, c, c', decide_true, Option.map_some]
      exact r.2.2
    · have c' : ¬ u.1 = k := fun e => c (r.1.trans e)
      have := XsR.at (k := k) t
      simpa only [atV, atKey, List.find?_cons, c, c', decide_false] using this
theorem XsR.len {xs : Xs} {us : List (NestedKey × Addr × Value)} (r : XsR xs us) : xs.length = us.length := Paired.length r
theorem XsR.keys : ∀ {xs : Xs} {us : List (NestedKey × Addr × Value)}, XsR xs us → xs.map (·.1) = us.map (·.1)
  | _, _, .nil => rfl
  | _, _, .cons r t => by rw [List.map_cons, List.map_cons, r.1, XsR.keys t]
theorem XsR.mem : ∀ {xs : Xs} {us : List (NestedKey × Addr × Value)} {u}, XsR xs us → u ∈ us → ∃ x ∈ xs, x.1 = u.1 ∧ x.2.1 = u.2.1
  | _, _, u, .cons (a := x) r t, h => by
    rcases List.mem_cons.mp h with e | h
    · rw [e]; exact ⟨x, List.mem_cons_self, r.1, r.2.1⟩
    · obtain ⟨y, hy, e⟩ := XsR.mem t h
      exact ⟨y, List.mem_cons_of_mem _ hy, e⟩
theorem RelO.isS {o : Option V} {u : Option Value} (r : RelO o u) : o.isSome = u.isSome := by
  cases o <;> cases u <;> first | rfl | exact r.elim
theorem XsR.stored {k : NestedKey} {b : Addr} {v : V} {u : Value} {xs : Xs} {us : List (NestedKey × Addr × Value)} (r : XsR xs us) (rv : RelV v u) : XsR (storedV xs k b v) (storedH us k b u) := by
  have e := RelO.isS (r.at (k := k))
  rw [Option.isSome_map] at e
  have app : ∀ {l : Xs} {m : List (NestedKey × Addr × Value)}, XsR l m → XsR (l ++ [(k, b, v)]) (m ++ [(k, b, u)]) := by
    intro l m h
    induction h with
    | nil => exact .cons ⟨rfl, rfl, rv⟩ .nil
    | cons r t ih => exact .cons r ih
  have mp : ∀ {l : Xs} {m : List (NestedKey × Addr × Value)}, XsR l m → XsR (l.map fun x => if x.1 = k then (x.1, x.2.1, v) else x) (m.map (putAt k u)) := by
    intro l m h
    induction h with
    | nil => exact .nil
    | @cons x y l m r t ih =>
      refine .cons ?_ ih
      have h1 := r.1
      by_cases c : x.1 = k
      · have c' : y.1 = k := h1.symm.trans c
        simp only [c, putAt, c', if_true]
        exact ⟨trivial, r.2.1, rv⟩
      · have c' : ¬ y.1 = k := fun e => c (h1.trans e)
        simp only [c, putAt, c', if_false]
        exact r
  unfold storedV storedH
  rw [e]
  split
  · exact mp r
  · exact app r
theorem mem_storedV {xs : Xs} {k : NestedKey} {b : Addr} {v : V} {x : NestedKey × Addr × V} (h : x ∈ storedV xs k b v) : (∃ y ∈ xs, y.1 = x.1 ∧ y.2.1 = x.2.1) ∨ (x.1 = k ∧ x.2.1 = b) := by
  unfold storedV at h
  split at h
  · obtain ⟨y, hy, e⟩ := List.mem_map.mp h
    split at e
    · subst e; exact .inl ⟨y, hy, rfl, rfl⟩
    · subst e; exact .inl ⟨y, hy, rfl, rfl⟩
  · rcases List.mem_append.mp h with h | h
    · exact .inl ⟨x, h, rfl, rfl⟩
    · rw [List.mem_singleton.mp h]; exact .inr ⟨rfl, rfl⟩
section
variable {X : Cx} {pins : List (Addr × Obj)} {σ : St} {H : Hp} {Z : AS} {s : Shared} {a : Addr} {xs : Xs}
mutual
theorem rd_nested (I : Inv X pins σ H s) : ∀ (d : D) (v : V) (u : Value) (k : NestedKey), RD X.KW Z H d v → NK d = some k → RelV v u → NestedIs s.heap k u
  | .none, v, u, k, h, e, r => by simp only [RD] at h; subst h; cases e; cases r; exact .none
  | .bool b, v, u, k, h, e, r => by simp only [RD] at h; subst h; cases e; cases r; exact .bool rfl
  | .int i, v, u, k, h, e, r => by simp only [RD] at h; subst h; cases e; obtain ⟨t, rfl⟩ := r; exact .int _ _
  | .str x, v, u, k, h, e, r => by simp only [RD] at h; subst h; cases e; obtain ⟨t, rfl⟩ := r; exact .text _ _
  | .list _, v, u, k, h, e, r => by cases e
  | .dict _, v, u, k, h, e, r => by cases e
  | .tuple ds, v, u, k, h, e, r => by
    simp only [RD] at h
    obtain ⟨a, vs, rfl, hq, h⟩ := h
    cases r
    obtain ⟨ks, e1, e2⟩ := Option.map_eq_some_iff.mp (show (NKs ds).map NestedKey.tup = some k from e)
    subst e2
    obtain ⟨its, rv, ⟨o, ho, hc, n, hd⟩, _⟩ := I.tuple hq.sq
    exact .tup ho hc hd (rds_nested I ds vs its ks h e1 rv)
theorem rds_nested (I : Inv X pins σ H s) : ∀ (ds : List D) (vs : List V) (us : List Value) (ks : List NestedKey), RDs X.KW Z H ds vs → NKs ds = some ks → Vals vs us → NestedAll s.heap ks us
  | [], vs, us, ks, h, e, r => by simp only [RDs] at h; subst h; cases e; cases r; exact .nil
  | d :: ds, vs, us, ks, h, e, r => by
    simp only [RDs] at h
    obtain ⟨v, vr, rfl, h1, h2⟩ := h
    simp only [NKs] at e
    obtain ⟨k, e1, e⟩ := bnd e
    obtain ⟨ks', e2, rfl⟩ := Option.map_eq_some_iff.mp e
    cases r with
    | cons r t => exact .cons (rd_nested I d v _ k h1 e1 r) (rds_nested I ds vr _ ks' h2 e2 t)
end
theorem KeyT.is (I : Inv X pins σ H s) {k : NestedKey} {b : Addr} (h : KeyT X.KW Z H k b) : (nestedKind X.prog X.w).is s.heap k b :=
  let ⟨dp, d, e, r⟩ := h; ⟨rd_nested I d _ _ k r e rfl, dp⟩
theorem DtAt.obj (I : Inv X pins σ H s) (h : DtAt X.KW Z H a xs) : (a == sysModules) = false ∧ xs.length ≤ sizeLine ∧ (xs.map (·.1)).Nodup ∧ ∃ us, XsR xs us ∧ s.heap.DictOfH (nestedKind X.prog X.w) a us := by
  obtain ⟨h | ⟨rfl, h⟩, hk⟩ := h
  · obtain ⟨⟨c1, c2, c3, us, r, o, es, ep, ho, hx, hd, he⟩, _⟩ := I.hok a _ h
    refine ⟨c1, c2, c3, us, r, o, es, ep, ho, hx, hd, he, fun u hu => ?_, by rw [← XsR.keys r]; exact c3⟩
    obtain ⟨x, hx, e1, e2⟩ := XsR.mem r hu
    have := (hk x hx).is I
    rw [e1, e2] at this
    exact this
  · obtain ⟨c1, c2, vs, r, o, es, ep, ho, hx, hd, he⟩ := I.hok a _ h
    cases r
    refine ⟨c2, Nat.zero_le _, List.nodup_nil, [], .nil, o, es, ep, ho, hx, hd, ?_, (fun _ z => nomatch z), List.nodup_nil⟩
    have hp := he.2.1
    cases q : es.toList with
    | nil => rfl
    | cons x l => rw [q] at hp; exact (nomatch hp)
theorem dtO_new {P : Program} {w : World} {H' : Hp} {h' : Heap} {us : List (NestedKey × Addr × Value)} {K : KW} (eP : K.P = P) (ew : K.w = w) (c1 : (a == sysModules) = false) (c2 : xs.length ≤ sizeLine) (r : XsR xs us) (hm : h'.DictOfH (nestedKind P w) a us) : ObjOk P w H' h' a (DtO K a xs) := by
  subst eP ew
  obtain ⟨o, es, ep, ho, hx, hd, he, _, hn⟩ := hm
  refine ⟨⟨c1, c2, by rw [r.keys]; exact hn, us, r, o, es, ep, ho, hx, hd, he⟩, ⟨o, ho⟩, fun h1 h2 ⟨d1, d2, d3, us', r', o', es', ep', ho', hx', hd', he'⟩ k => ⟨d1, d2, d3, us', r', o', es', ep', k _ ho', hx', hd', he'⟩⟩
def Room8 (A : Around) : Prop := A.units + 12 < cLine
theorem Room8.in1 {A : Around} (h : Room8 A) : (nestedKind X.prog X.w).room A.in1 := by
  show A.in1.units + 8 < cLine
  have : A.in1.units ≤ A.units + 1 := by simp [Around.in1]
  unfold Room8 at h
  omega
variable {A : Around} {E : Value → Shared → Prop} {k : NestedKey} {b : Addr}
theorem dt_in {Q : Value → Shared → Prop} (hu : Room8 A) (I : Inv X pins σ H s) (h : DtAt X.KW Z H a xs) (hk : KeyT X.KW Z H k b) (q : ∀ s', Inv X pins σ H s' → Q (.bool (atV xs k).isSome) s') :
    wpAny (model X.prog X.w) A (compareOp .In (.ref b) (.ref a)) Q E s := by
  obtain ⟨c1, _, _, us, r, hm⟩ := h.obj I
  refine wpAny_in_heap hu.in1 (hk.is I) c1 hm ?_
  have e := RelO.isS (r.at (k := k))
  rw [Option.isSome_map] at e
  rw [← e]
  exact q _ (I.tok _)
theorem dt_nin {Q : Value → Shared → Prop} (hu : Room8 A) (I : Inv X pins σ H s) (h : DtAt X.KW Z H a xs) (hk : KeyT X.KW Z H k b) (q : ∀ s', Inv X pins σ H s' → Q (.bool (!(atV xs k).isSome)) s') :
    wpAny (model X.prog X.w) A (compareOp .NotIn (.ref b) (.ref a)) Q E s := by
  obtain ⟨c1, _, _, us, r, hm⟩ := h.obj I
  refine wpAny_notIn_heap hu.in1 (hk.is I) c1 hm ?_
  have e := RelO.isS (r.at (k := k))
  rw [Option.isSome_map] at e
  rw [← e]
  exact q _ (I.tok _)
theorem dt_get {v : V} {Q : Value → Shared → Prop} (hu : Room8 A) (I : Inv X pins σ H s) (h : DtAt X.KW Z H a xs) (hk : KeyT X.KW Z H k b) (hv : atV xs k = some v) (q : ∀ u s', Inv X pins σ H s' → RelV v u → Q u s') :
    wpAny (model X.prog X.w) A (getItem (.ref a) (.ref b)) Q E s := by
  obtain ⟨c1, _, _, us, r, hm⟩ := h.obj I
  obtain ⟨u, e, ru⟩ := RelO.some_of (v := v) (o := (atKey us k).map (·.2)) (by rw [← hv]; exact r.at)
  obtain ⟨p, hp, rfl⟩ := Option.map_eq_some_iff.mp e
  exact wpAny_getItem_heap hu.in1 (hk.is I) hm hp (q _ _ (I.tok _) ru)
theorem dt_getD {d : V} {x : Value} {Q : Value → Shared → Prop} (hu : Room8 A) (I : Inv X pins σ H s) (h : DtAt X.KW Z H a xs) (hk : KeyT X.KW Z H k b) (rd : RelV d x) (q : ∀ u s', Inv X pins σ H s' → RelV ((atV xs k).getD d) u → Q u s') :
    wpAny (model X.prog X.w) A (call (.builtin "dict.get") [.ref a, .ref b, x]) Q E s := by
  obtain ⟨c1, _, _, us, r, hm⟩ := h.obj I
  refine getOr_keyed hu.in1 (hk.is I) c1 ⟨us, hm, rfl⟩ ?_
  rw [valueAt_pairsH]
  exact q _ _ (I.tok _) (RelO.getD r.at rd)
theorem DtAt.typeIs (I : Inv X pins σ H s) (h : DtAt X.KW Z H a xs) : s.TypeIs (.ref a) "dict" := let ⟨_, _, _, _, _, hm⟩ := h.obj I; hm.typeIs
theorem dt_set {v : V} {u : Value} {Q : Unit → Shared → Prop} (hu : Room8 A) (I : Inv X pins σ H s) (h : DtAt X.KW Z H a xs) (hk : KeyT X.KW Z H k b) (hl : xs.length < sizeLine) (rv : RelV v u)
    (q : ∀ s', Inv X pins σ (upd H a (DtO X.KW a (storedV xs k b v))) s' → Q () s') : wpAny (model X.prog X.w) A (setItem (.ref a) (.ref b) u) Q E s := by
  obtain ⟨c1, c2, _, us, r, hm⟩ := h.obj I
  refine wpAny_setItem_heap hu.in1 (hk.is I) hm (fun h' hm' hs => ?_) (by rw [← r.len]; exact c2)
  have he : ∃ z, h'.get? a = some z := let ⟨z, _, _, hz, _⟩ := hm'; ⟨z, hz⟩
  have sz : (storedV xs k b v).length ≤ sizeLine := by
    unfold storedV
    split
    · rw [List.length_map]; exact c2
    · rw [List.length_append]; exact hl
  refine q _ (d_write I ?_ hs he (dtO_new rfl rfl c1 sz (r.stored rv) hm'))
  rcases h.1 with e | ⟨_, e⟩ <;> (rw [e]; exact True.intro)
theorem dt_len {Q : Value → Shared → Prop} (I : Inv X pins σ H s) (h : DtAt X.KW Z H a xs) (q : ∀ t s', Inv X pins σ H s' → Q (.int xs.length t) s') : wpAny (model X.prog X.w) A (call (.builtin "len") [.ref a]) Q E s := by
  obtain ⟨c1, c2, _, us, r, hm⟩ := h.obj I
  have hk : s.heap.DictKeyed (nestedKind X.prog X.w) a (pairsH us) := ⟨us, hm, rfl⟩
  have hl : (pairsH us).length = xs.length := by rw [pairsH_length, r.len]
  refine PyProof.Rows.call_len_slot (n := (pairsH us).length) hk.typeIs F.slot_dict_len (fun Q' hq => len_keyed c1 hk hq) (by omega) (by rw [hl]; rw [sizeLine_eq] at c2; omega) ?_
  rw [hl]
  exact q _ _ (I.tok _)
end
end Zl
end

-- ZOps3
section
namespace Zl
open PySem PySem.Spec PyProof.Rows L2

section
variable {X : Cx} {a b e o : Expr} {es : List Expr} {ma mb m mo : ME} {ms : MA} {md : MD} {pos : Pos}
/-! ### displays -/
theorem ce_tup {x1} (h : CD X es md) : CE X (.Tuple es x1 pos) (mTup md) :=
  pe_imp (pe_tupN h) fun σ H Q ⟨Z, ρ, r, ρ', fr, e, k⟩ => by
    obtain ⟨⟨ds, ρ1⟩, e1, e⟩ := bnd e
    simp only at e
    split at e
    · rename_i hl; cases e
      refine ⟨Z, ρ, ds, _, fr, e1, fun Z1 H1 vs g1 h1 => ⟨by rw [rds_len h1]; exact hl, ?_⟩⟩
      exact q_tup h1 fun Z' H' v n nr => k Z' H' v (g1.trans (n.go g1.fr)) (nr.rr g1 n)
    · cases e
theorem ce_lst (h : CD X es md) : CE X (.List es pos) (mLst md) :=
  pe_imp (pe_lst h) fun σ H Q ⟨Z, ρ, r, ρ', fr, e, k⟩ => by
    obtain ⟨⟨ds, ρ1⟩, e1, e⟩ := bnd e
    simp only at e
    split at e
    · rename_i hl; cases e
      refine ⟨Z, ρ, ds, _, fr, e1, fun Z1 H1 vs g1 h1 => ⟨by rw [rds_len h1]; exact hl, ?_⟩⟩
      exact q_lst g1.fr.zl h1 fun Z' H' v n nr => k Z' H' v (g1.trans (n.go g1.fr)) (nr.rr g1 n)
    · cases e
/-! ### subscripts -/
def ixD : D → D → Option R
  | .list ds, .int i => (atI ds i).map R.val
  | .tuple ds, .int i => (atI ds i).map R.val
  | .str z, .int i => if z.length ≤ sizeLine then (atI z.cps.toList i).map fun c => R.val (.str ⟨#[c]⟩) else none
  | _, _ => none
theorem rds_at {K : KW} {Z : AS} {H : Hp} {ds : List D} {vs : List V} {i : Int} {d : D} (h : RDs K Z H ds vs) (e : atI ds i = some d) : ∃ v, atI vs i = some v ∧ RD K Z H d v := by
  unfold atI at e ⊢
  rw [rds_len h]
  cases q : ixN ds.length i with
  | none => rw [q] at e; cases e
  | some j => rw [q] at e; exact rds_get h e
theorem o_ix {K : KW} : OpV K ixD (fun x y H Q => rIxL K x y H Q ∨ (rIxT K x y H Q ∨ rIxS x y H Q)) := fun Z H x y d e r Q zl hx hy er k => by
  unfold ixD at er
  split at er
  · obtain ⟨d, ed, er⟩ := Option.map_eq_some_iff.mp er
    cases er
    obtain ⟨p, vs, rfl, hq, hd⟩ := hx
    cases rv_int hy
    obtain ⟨v, ev, rd⟩ := rds_at hd ed
    exact .inl ⟨p, vs, _, v, rfl, rfl, hq, ev, k Z H v (.refl _ _) rd⟩
  · obtain ⟨d, ed, er⟩ := Option.map_eq_some_iff.mp er
    cases er
    obtain ⟨p, vs, rfl, hq, hd⟩ := rv_tup hx
    cases rv_int hy
    obtain ⟨v, ev, rd⟩ := rds_at hd ed
    exact .inr (.inl ⟨p, vs, _, v, rfl, rfl, hq.sq, ev, k Z H v (.refl _ _) rd⟩)
  · split at er
    · rename_i hl
      obtain ⟨d, ed, er⟩ := Option.map_eq_some_iff.mp er
      cases er
      cases rv_str hx; cases rv_int hy
      exact .inr (.inr ⟨_, _, _, rfl, rfl, hl, ed, k Z H _ (.refl _ _) nr_str⟩)
    · cases er
  · cases er
theorem ce_ix (ha : CE X a ma) (hb : CE X b mb) (hs : PlainIx b := by exact fun _ _ => rfl) : CE X (.Subscript a b pos) (mOpV ixD ma mb) :=
  pe_imp (pe_ix (IxR.or ix_list (IxR.or ix_tup ix_str)) ha hb hs) (tE_OpV o_ix)
/-! ### slices -/
abbrev MO := Rho → Option (Option Int × Rho)
def tO (K : KW) (m : MO) : St → Hp → (Option Int → Hp → Prop) → Prop := fun σ H Q => ∃ Z ρ o ρ', Fr K Z H ρ σ ∧ m ρ = some (o, ρ') ∧ ∀ Z' H', Go K Z H ρ σ Z' H' ρ' σ → Q o H'
def CO (X : Cx) (e : Option Expr) (m : MO) : Prop := PO X e (tO X.KW m)
theorem po_imp {e : Option Expr} {t t' : St → Hp → (Option Int → Hp → Prop) → Prop} (h : PO X e t) (i : ∀ σ H Q, t' σ H Q → t σ H Q) : PO X e t' := ⟨fun pins s σ H Q I hw => h.run pins s σ H Q I (i σ H Q hw)⟩
def mO0 : MO := fun ρ => some (none, ρ)
def mO1 (m : ME) : MO := fun ρ => (m ρ).bind fun p => match p.1 with
  | .val (.int i) => some (some i, p.2)
  | _ => none
theorem co_none : CO X none mO0 := po_imp po_none fun σ H Q ⟨Z, ρ, r, ρ', fr, e, k⟩ => by cases e; exact k Z H (.refl fr)
theorem co_some (h : CE X e m) : CO X (some e) (mO1 m) := po_imp (po_some h) fun σ H Q ⟨Z, ρ, r, ρ', fr, e, k⟩ => by
  obtain ⟨⟨r1, ρ1⟩, e1, e⟩ := bnd e
  refine ⟨Z, ρ, r1, ρ1, fr, e1, fun Z1 H1 x g1 h1 => ?_⟩
  simp only at e
  split at e
  · cases e
    simp only [RR, RD] at h1
    exact ⟨_, h1, k Z1 H1 g1⟩
  · cases e
def cutL {α : Type} (xs : List α) (lo hi : Option Int) : List α := (xs.drop (HT.sIx xs.length 0 lo)).take (HT.sIx xs.length xs.length hi - HT.sIx xs.length 0 lo)
theorem rds_cut {K : KW} {Z : AS} {H : Hp} {ds : List D} {vs : List V} {lo hi : Option Int} (h : RDs K Z H ds vs) : RDs K Z H (cutL ds lo hi) (cutV vs lo hi) := by
  unfold cutL cutV
  rw [rds_len h]
  exact rds_take _ (rds_drop _ h)
theorem cut_all {α : Type} {xs : List α} {lo hi : Option Int} (h : HT.sIx xs.length 0 lo = 0 ∧ HT.sIx xs.length xs.length hi = xs.length) : cutL xs lo hi = xs := by
  unfold cutL
  rw [h.1, h.2]
  simp
def slD (d : D) (lo hi : Option Int) : Option R := match d with
  | .list ds => some (.own (.lst (cutL ds lo hi)))
  | .tuple ds => some (.val (.tuple (cutL ds lo hi)))
  | .str z => if z.length ≤ sizeLine then some (.val (.str (cutS z lo hi))) else none
  | _ => none
def mSl (m : ME) (ml mh : MO) : ME := fun ρ => (m ρ).bind fun p => (ml p.2).bind fun q => (mh q.2).bind fun s => (rs s.2 p.1).bind fun d => (slD d q.1 s.1).map fun r => (r, s.2)
theorem sl_sem {K : KW} {Z : AS} {H : Hp} {x : V} {d : D} {lo hi : Option Int} {r : R} {Q : VK} (zl : ∀ a, Z a → H a ≠ none) (hx : RV K Z H d x) (er : slD d lo hi = some r) (k : ∀ Z' H' v, Nw Z H Z' H' → NR K H Z' H' r v → Q v H') :
    rSlL K x lo hi H Q ∨ (rSlN K x lo hi H Q ∨ rSlS x lo hi H Q) := by
  unfold slD at er
  split at er
  · cases er
    obtain ⟨p, vs, rfl, hq, hd⟩ := hx
    exact .inl ⟨p, vs, rfl, hq, q_lst zl (rds_cut hd) k⟩
  · cases er
    obtain ⟨p, vs, rfl, hq, hd⟩ := rv_tup hx
    refine .inr (.inl ⟨p, vs, rfl, hq.sq, fun w => ?_, fun _ => q_tup (rds_cut hd) k⟩)
    rw [rds_len hd] at w
    exact k Z H _ (.refl _ _) (by simp only [NR, RD, cut_all w]; exact ⟨p, vs, rfl, hq, hd⟩)
  · split at er
    · rename_i hl; cases er
      cases rv_str hx
      exact .inr (.inr ⟨_, rfl, hl, k Z H _ (.refl _ _) nr_str⟩)
    · cases er
  · cases er
theorem ce_sl {lo hi : Option Expr} {ml mh : MO} {p2 : Pos} (he : CE X e m) (hl : CO X lo ml) (hu : CO X hi mh) : CE X (.Subscript e (.Slice lo hi none p2) pos) (mSl m ml mh) :=
  pe_imp (pe_slice (SlR.or sl_list (SlR.or sl_tupN sl_str)) he hl hu) fun σ H Q ⟨Z, ρ, r, ρ', fr, e, k⟩ => by
    obtain ⟨⟨r1, ρ1⟩, e1, e⟩ := bnd e
    obtain ⟨⟨o1, ρ2⟩, e2, e⟩ := bnd e
    obtain ⟨⟨o2, ρ3⟩, e3, e⟩ := bnd e
    obtain ⟨d1, ex, e⟩ := bnd e
    obtain ⟨r', er, e⟩ := Option.map_eq_some_iff.mp e
    cases e
    refine ⟨Z, ρ, r1, ρ1, fr, e1, fun Z1 H1 x g1 h1 => ⟨Z1, ρ1, o1, ρ2, g1.fr, e2, fun Z2 H2 g2 => ⟨Z2, ρ2, o2, ρ3, g2.fr, e3, fun Z3 H3 g3 => ?_⟩⟩⟩
    have h1' := h1.go g1.fr (g2.trans g3)
    have g := (g1.trans g2).trans g3
    exact sl_sem g.fr.zl (rs_ok g.fr h1' ex) er fun Z' H' v n nr => k Z' H' v (g.trans (n.go g.fr)) (nr.rr g n)
/-! ### built-in functions -/
def rsL (ρ : Rho) : List R → Option (List D)
  | [] => some []
  | r :: rr => (rs ρ r).bind fun d => (rsL ρ rr).map fun ds => d :: ds
def RVs (K : KW) (Z : AS) (H : Hp) : List D → List V → Prop := Paired (RV K Z H)
theorem rsL_ok {K : KW} {Z : AS} {H H0 : Hp} {ρ : Rho} {σ : St} (f : Fr K Z H ρ σ) : ∀ {rr : List R} {vs : List V} {ds : List D}, RRs K H0 Z H ρ σ rr vs → rsL ρ rr = some ds → RVs K Z H ds vs
  | [], _, _, h, e => by cases e; cases h; exact .nil
  | r :: rr, _, _, h, e => by
    cases h with
    | cons h1 h2 =>
      obtain ⟨d, e1, e⟩ := bnd e
      obtain ⟨ds, e2, e⟩ := Option.map_eq_some_iff.mp e
      cases e
      exact .cons (rs_ok f h1 e1) (rsL_ok f h2 e2)
def mCB (f : List D → Option R) (ms : MA) : ME := fun ρ => (ms ρ).bind fun p => (rsL p.2 p.1).bind fun ds => (f ds).map fun r => (r, p.2)
def OpL (K : KW) (f : List D → Option R) (rr : List V → Hp → VK → Prop) : Prop := ∀ (Z : AS) (H : Hp) (vs : List V) (ds : List D) (r : R) (Q : VK), (∀ a, Z a → H a ≠ none) → RVs K Z H ds vs → f ds = some r → (∀ Z' H' v, Nw Z H Z' H' → NR K H Z' H' r v → Q v H') → rr vs H Q
theorem tE_CB {K : KW} {f : List D → Option R} {rr : List V → Hp → VK → Prop} (o : OpL K f rr) : ∀ σ H Q, tE K (mCB f ms) σ H Q → tCB rr (tAR K ms) σ H Q := fun σ H Q ⟨Z, ρ, r, ρ', fr, e, k⟩ => by
  obtain ⟨⟨r1, ρ1⟩, e1, e⟩ := bnd e
  obtain ⟨ds, ex, e⟩ := bnd e
  obtain ⟨r', er, e⟩ := Option.map_eq_some_iff.mp e
  cases e
  refine ⟨Z, ρ, r1, ρ1, fr, e1, fun Z1 H1 vs g1 h1 => ?_⟩
  exact o Z1 H1 vs ds r Q g1.fr.zl (rsL_ok g1.fr h1 ex) er fun Z' H' v n nr => k Z' H' v (g1.trans (n.go g1.fr)) (nr.rr g1 n)
theorem ce_callB {x : Str} {p : Pos} {id : String} {f : List D → Option R} {rr : List V → Hp → VK → Prop} (hc : CallR X (.builtin id) rr) (o : OpL X.KW f rr) (hv : bootBuiltins x = some (.builtin id)) (hg : Gl X x) (hm : X.mg x = none) (ha : CA X (e :: es) ms) (hn : x ≠ "__name__" := by decide) (hdb : (x == ("__debug__" : Str)) = false := by decide)
    (he : starEach (e :: es) X.env = (false, eval e X.env) :: starEach es X.env := by rfl) (hpl : (backTo pos (starEach es X.env)).any (·.1) = false := by rfl) : CE X (.Call (.Name x p) (e :: es) [] pos) (mCB f ms) :=
  pe_imp (pe_callB hc hg hm hv ha hn hdb he hpl) (tE_CB o)
theorem ce_callTy {x : Str} {p : Pos} {id : String} {f : List D → Option R} {rr : List V → Hp → VK → Prop} (hc : CallR X (.type id) rr) (o : OpL X.KW f rr) (hv : bootBuiltins x = some (.type id)) (hg : Gl X x) (hm : X.mg x = none) (ha : CA X (e :: es) ms) (hn : x ≠ "__name__" := by decide) (hdb : (x == ("__debug__" : Str)) = false := by decide)
    (he : starEach (e :: es) X.env = (false, eval e X.env) :: starEach es X.env := by rfl) (hpl : (backTo pos (starEach es X.env)).any (·.1) = false := by rfl) : CE X (.Call (.Name x p) (e :: es) [] pos) (mCB f ms) :=
  pe_imp (pe_callTy hc hg hm hv ha hn hdb he hpl) (tE_CB o)
theorem rvs1 {K : KW} {Z : AS} {H : Hp} {d : D} {vs : List V} (h : RVs K Z H [d] vs) : ∃ v, vs = [v] ∧ RV K Z H d v := by
  cases h with
  | cons h h' => cases h'; exact ⟨_, rfl, h⟩
theorem rvs2 {K : KW} {Z : AS} {H : Hp} {d d' : D} {vs : List V} (h : RVs K Z H [d, d'] vs) : ∃ v v', vs = [v, v'] ∧ RV K Z H d v ∧ RV K Z H d' v' := by
  cases h with
  | cons h h' => obtain ⟨v', rfl, q⟩ := rvs1 h'; exact ⟨_, _, rfl, h, q⟩
/-- len -/
def lenF : List D → Option R
  | [.list ds] => some (.val (.int ds.length))
  | [.tuple ds] => some (.val (.int ds.length))
  | [.str z] => if z.length ≤ sizeLine then some (.val (.int z.length)) else none
  | [.dict ks] => some (.val (.int ks.length))
  | _ => none
theorem rdk_len {K : KW} {Z : AS} {H : Hp} : ∀ {ds : List (D × D)} {vs : List (Key × V)}, RDk K Z H ds vs → vs.length = ds.length
  | [], vs, h => by simp only [RDk] at h; subst h; rfl
  | (k, d) :: ds, vs, h => by
    simp only [RDk] at h
    obtain ⟨key, v, r, rfl, _, _, h⟩ := h
    simp only [List.length_cons, rdk_len h]
theorem rdt_len {K : KW} {Z : AS} {H : Hp} : ∀ {ks : List (D × D)} {xs : Xs}, RDt K Z H ks xs → xs.length = ks.length
  | [], xs, h => by simp only [RDt] at h; subst h; rfl
  | (k, d) :: ks, xs, h => by
    simp only [RDt] at h
    obtain ⟨nk, b, v, r, rfl, _, _, _, _, h⟩ := h
    simp only [List.length_cons, rdt_len h]
theorem rdt_keys {K : KW} {Z : AS} {H : Hp} : ∀ {ks : List (D × D)} {xs : Xs}, RDt K Z H ks xs → ∀ x ∈ xs, KeyT K Z H x.1 x.2.1
  | [], xs, h => by simp only [RDt] at h; subst h; exact fun _ z => nomatch z
  | (k, d) :: ks, xs, h => fun x hx => by
    simp only [RDt] at h
    obtain ⟨nk, b, v, r, rfl, e1, e2, r1, _, h⟩ := h
    rcases List.mem_cons.mp hx with rfl | hx
    · exact ⟨e2, k, e1, r1⟩
    · exact rdt_keys h x hx
theorem rdt_at {K : KW} {Z : AS} {H : Hp} {a : Addr} {ks : List (D × D)} {xs : Xs} (hq : H a = some (DtO K a xs)) (h : RDt K Z H ks xs) : DtAt K Z H a xs := ⟨.inl hq, rdt_keys h⟩
theorem call_lenT : CallR X (.builtin "len") (fun xs H Q => ∃ Z a ks, xs = [V.ref a] ∧ DtAt X.KW Z H a ks ∧ Q (.int ks.length) H) := fun pins s σ H xs us Q I r ⟨Z, a, ks, e, h, q⟩ => by
  subst e
  obtain ⟨u, rfl, ru⟩ := vals1 r
  cases ru
  exact dt_len I h fun t s' I' => ⟨.int ks.length, H, I', ⟨t, rfl⟩, q⟩
abbrev rLen (K : KW) : List V → Hp → VK → Prop := fun xs H Q => (∃ p ys, xs = [.ref p] ∧ (SqL K H p ys ∨ SqT K H p ys) ∧ Q (.int ys.length) H) ∨ ((∃ z, xs = [.str z] ∧ z.length ≤ sizeLine ∧ Q (.int z.length) H) ∨ ((∃ a kvs, xs = [V.ref a] ∧ H a = some (.dK kvs) ∧ Q (.int kvs.length) H) ∨ ∃ Z a ks, xs = [V.ref a] ∧ DtAt K Z H a ks ∧ Q (.int ks.length) H))
theorem o_len {K : KW} : OpL K lenF (rLen K) := fun Z H vs ds r Q zl hx er k => by
  unfold lenF at er
  split at er
  · cases er
    obtain ⟨v, rfl, p, vs, rfl, hq, hd⟩ := rvs1 hx
    exact .inl ⟨p, vs, rfl, .inl hq, by rw [rds_len hd]; exact k Z H _ (.refl _ _) nr_int⟩
  · cases er
    obtain ⟨v, rfl, hx'⟩ := rvs1 hx
    obtain ⟨p, vs, rfl, hq, hd⟩ := rv_tup hx'
    exact .inl ⟨p, vs, rfl, .inr hq.sq, by rw [rds_len hd]; exact k Z H _ (.refl _ _) nr_int⟩
  · split at er
    · rename_i hl; cases er
      obtain ⟨v, rfl, hx'⟩ := rvs1 hx
      cases rv_str hx'
      exact .inr (.inl ⟨_, rfl, hl, k Z H _ (.refl _ _) nr_int⟩)
    · cases er
  · cases er
    obtain ⟨v, rfl, h | ⟨p, vs, rfl, hq, hd⟩⟩ := rvs1 hx
    · obtain ⟨p, vs, rfl, hq, hd⟩ := h
      exact .inr (.inr (.inl ⟨p, vs, rfl, hq, by rw [rdk_len hd]; exact k Z H _ (.refl _ _) nr_int⟩))
    · exact .inr (.inr (.inr ⟨Z, p, vs, rfl, rdt_at hq hd.1, by rw [rdt_len hd.1]; exact k Z H _ (.refl _ _) nr_int⟩))
  · cases er
theorem cr_len : CallR X (.builtin "len") (rLen X.KW) := CallR.or call_len_seq (CallR.or call_len_str (CallR.or call_lenD call_lenT))
theorem ce_len {p : Pos} (hg : Gl X "len") (hm : X.mg "len" = none) (ha : CA X [e] ms) (he : starEach [e] X.env = (false, eval e X.env) :: starEach [] X.env := by rfl) : CE X (.Call (.Name "len" p) [e] [] pos) (mCB lenF ms) :=
  ce_callB cr_len o_len PySem.boot_len hg hm ha (he := he)
/-- list, tuple -/
def listF : List D → Option R
  | [.list ds] => some (.own (.lst ds))
  | [.tuple ds] => some (.own (.lst ds))
  | _ => none
theorem o_list {K : KW} : OpL K listF (fun xs H Q => ∃ p ys, xs = [.ref p] ∧ (SqL K H p ys ∨ SqT K H p ys) ∧ ∀ l, H l = none → Q (.ref l) (upd H l (.lst ys))) := fun Z H vs ds r Q zl hx er k => by
  unfold listF at er
  split at er
  · cases er
    obtain ⟨v, rfl, p, vs, rfl, hq, hd⟩ := rvs1 hx
    exact ⟨p, vs, rfl, .inl hq, q_lst zl hd k⟩
  · cases er
    obtain ⟨v, rfl, hx'⟩ := rvs1 hx
    obtain ⟨p, vs, rfl, hq, hd⟩ := rv_tup hx'
    exact ⟨p, vs, rfl, .inr hq.sq, q_lst zl hd k⟩
  · cases er
theorem ce_list {p : Pos} (hg : Gl X "list") (hm : X.mg "list" = none) (ha : CA X [e] ms) (he : starEach [e] X.env = (false, eval e X.env) :: starEach [] X.env := by rfl) : CE X (.Call (.Name "list" p) [e] [] pos) (mCB listF ms) :=
  ce_callTy call_list_of o_list PyProof.Rows.boot_list hg hm ha (he := he)
def tupF : List D → Option R
  | [.list ds] => some (.val (.tuple ds))
  | [.tuple ds] => some (.val (.tuple ds))
  | _ => none
theorem o_tuple {K : KW} : OpL K tupF (rTupOf K) := fun Z H vs ds r Q zl hx er k => by
  unfold tupF at er
  split at er
  · cases er
    obtain ⟨v, rfl, p, vs, rfl, hq, hd⟩ := rvs1 hx
    exact ⟨p, vs, rfl, .inl ⟨hq, q_tup hd k⟩⟩
  · cases er
    obtain ⟨v, rfl, hx'⟩ := rvs1 hx
    obtain ⟨p, vs, rfl, hq, hd⟩ := rv_tup hx'
    exact ⟨p, vs, rfl, .inr ⟨hq.sq, k Z H _ (.refl _ _) (by simp only [NR, RD]; exact ⟨p, vs, rfl, hq, hd⟩)⟩⟩
  · cases er
theorem ce_tuple {p : Pos} (hg : Gl X "tuple") (hm : X.mg "tuple" = none) (ha : CA X [e] ms) (he : starEach [e] X.env = (false, eval e X.env) :: starEach [] X.env := by rfl) : CE X (.Call (.Name "tuple" p) [e] [] pos) (mCB tupF ms) :=
  ce_callTy call_tupN o_tuple PyProof.Rows.boot_tuple hg hm ha (he := he)
/-- all, any, sum -/
def boolsOf : List D → Option (List Bool)
  | [] => some []
  | .bool b :: r => (boolsOf r).map (b :: ·)
  | _ => none
def intsOf : List D → Option (List Int)
  | [] => some []
  | .int b :: r => (intsOf r).map (b :: ·)
  | _ => none
def strsOf : List D → Option (List Str)
  | [] => some []
  | .str b :: r => (strsOf r).map (b :: ·)
  | _ => none
theorem bools_vs {K : KW} {Z : AS} {H : Hp} : ∀ {ds : List D} {vs : List V} {bs : List Bool}, RDs K Z H ds vs → boolsOf ds = some bs → vs = bs.map V.bl
  | [], _, _, h, e => by simp only [RDs] at h; subst h; cases e; rfl
  | .bool b :: r, _, _, h, e => by
    simp only [RDs, RD] at h
    obtain ⟨v, r', rfl, rfl, h2⟩ := h
    obtain ⟨bs, e1, e⟩ := Option.map_eq_some_iff.mp e
    cases e
    rw [bools_vs h2 e1]; rfl
  | .none :: _, _, _, _, e | .int _ :: _, _, _, _, e | .str _ :: _, _, _, _, e | .list _ :: _, _, _, _, e | .tuple _ :: _, _, _, _, e | .dict _ :: _, _, _, _, e => by cases e
theorem ints_vs {K : KW} {Z : AS} {H : Hp} : ∀ {ds : List D} {vs : List V} {bs : List Int}, RDs K Z H ds vs → intsOf ds = some bs → vs = bs.map V.int
  | [], _, _, h, e => by simp only [RDs] at h; subst h; cases e; rfl
  | .int b :: r, _, _, h, e => by
    simp only [RDs, RD] at h
    obtain ⟨v, r', rfl, rfl, h2⟩ := h
    obtain ⟨bs, e1, e⟩ := Option.map_eq_some_iff.mp e
    cases e
    rw [ints_vs h2 e1]; rfl
  | .none :: _, _, _, _, e | .bool _ :: _, _, _, _, e | .str _ :: _, _, _, _, e | .list _ :: _, _, _, _, e | .tuple _ :: _, _, _, _, e | .dict _ :: _, _, _, _, e => by cases e
theorem strs_vs {K : KW} {Z : AS} {H : Hp} : ∀ {ds : List D} {vs : List V} {bs : List Str}, RDs K Z H ds vs → strsOf ds = some bs → vs = bs.map V.str
  | [], _, _, h, e => by simp only [RDs] at h; subst h; cases e; rfl
  | .str b :: r, _, _, h, e => by
    simp only [RDs, RD] at h
    obtain ⟨v, r', rfl, rfl, h2⟩ := h
    obtain ⟨bs, e1, e⟩ := Option.map_eq_some_iff.mp e
    cases e
    rw [strs_vs h2 e1]; rfl
  | .none :: _, _, _, _, e | .bool _ :: _, _, _, _, e | .int _ :: _, _, _, _, e | .list _ :: _, _, _, _, e | .tuple _ :: _, _, _, _, e | .dict _ :: _, _, _, _, e => by cases e
def allF : List D → Option R
  | [.list ds] => (boolsOf ds).map fun bs => .val (.bool (bs.all id))
  | _ => none
def anyF : List D → Option R
  | [.list ds] => (boolsOf ds).map fun bs => .val (.bool (bs.any id))
  | _ => none
def sumF : List D → Option R
  | [.list ds] => (intsOf ds).map fun bs => .val (.int bs.sum)
  | _ => none
theorem o_all {K : KW} : OpL K allF (rAll K) := fun Z H vs ds r Q zl hx er k => by
  unfold allF at er
  split at er
  · obtain ⟨bs, eb, er⟩ := Option.map_eq_some_iff.mp er
    cases er
    obtain ⟨v, rfl, p, vs, rfl, hq, hd⟩ := rvs1 hx
    cases bools_vs hd eb
    exact ⟨p, bs, rfl, hq, k Z H _ (.refl _ _) nr_bool⟩
  · cases er
theorem o_any {K : KW} : OpL K anyF (rAny K) := fun Z H vs ds r Q zl hx er k => by
  unfold anyF at er
  split at er
  · obtain ⟨bs, eb, er⟩ := Option.map_eq_some_iff.mp er
    cases er
    obtain ⟨v, rfl, p, vs, rfl, hq, hd⟩ := rvs1 hx
    cases bools_vs hd eb
    exact ⟨p, bs, rfl, hq, k Z H _ (.refl _ _) nr_bool⟩
  · cases er
theorem o_sum {K : KW} : OpL K sumF (rSum K) := fun Z H vs ds r Q zl hx er k => by
  unfold sumF at er
  split at er
  · obtain ⟨bs, eb, er⟩ := Option.map_eq_some_iff.mp er
    cases er
    obtain ⟨v, rfl, p, vs, rfl, hq, hd⟩ := rvs1 hx
    cases ints_vs hd eb
    exact ⟨p, bs, rfl, hq, k Z H _ (.refl _ _) nr_int⟩
  · cases er
theorem ce_all {p : Pos} (hc : X.calm = true) (hg : Gl X "all") (hm : X.mg "all" = none) (ha : CA X [e] ms) (he : starEach [e] X.env = (false, eval e X.env) :: starEach [] X.env := by rfl) : CE X (.Call (.Name "all" p) [e] [] pos) (mCB allF ms) :=
  ce_callB (cr_all hc) o_all PyProof.Rows.boot_all hg hm ha (he := he)
theorem ce_any {p : Pos} (hc : X.calm = true) (hg : Gl X "any") (hm : X.mg "any" = none) (ha : CA X [e] ms) (he : starEach [e] X.env = (false, eval e X.env) :: starEach [] X.env := by rfl) : CE X (.Call (.Name "any" p) [e] [] pos) (mCB anyF ms) :=
  ce_callB (cr_any hc) o_any PyProof.Rows.boot_any hg hm ha (he := he)
theorem ce_sum {p : Pos} (hc : X.calm = true) (hg : Gl X "sum") (hm : X.mg "sum" = none) (ha : CA X [e] ms) (he : starEach [e] X.env = (false, eval e X.env) :: starEach [] X.env := by rfl) : CE X (.Call (.Name "sum" p) [e] [] pos) (mCB sumF ms) :=
  ce_callB (cr_sum hc) o_sum PyProof.Rows.boot_sum hg hm ha (he := he)
/-- abs, int, max, min -/
def absF : List D → Option R
  | [.int i] => some (.val (.int (if i < 0 then -i else i)))
  | _ => none
def intF : List D → Option R
  | [.int i] => some (.val (.int i))
  | [.bool b] => some (.val (.int (if b then 1 else 0)))
  | _ => none
def maxF : List D → Option R
  | [.int i, .int j] => some (.val (.int (if j > i then j else i)))
  | _ => none
def minF : List D → Option R
  | [.int i, .int j] => some (.val (.int (if j < i then j else i)))
  | _ => none
theorem o_abs {K : KW} : OpL K absF (fun xs H Q => ∃ i, xs = [.int i] ∧ Q (.int (if i < 0 then -i else i)) H) := fun Z H vs ds r Q zl hx er k => by
  unfold absF at er
  split at er
  · cases er
    obtain ⟨v, rfl, hx'⟩ := rvs1 hx
    cases rv_int hx'
    exact ⟨_, rfl, k Z H _ (.refl _ _) nr_int⟩
  · cases er
theorem o_int {K : KW} : OpL K intF (fun xs H Q => (∃ i, xs = [.int i] ∧ Q (.int i) H) ∨ ∃ k, xs = [.bl k] ∧ Q (.int (if k then 1 else 0)) H) := fun Z H vs ds r Q zl hx er k => by
  unfold intF at er
  split at er
  · cases er
    obtain ⟨v, rfl, hx'⟩ := rvs1 hx
    cases rv_int hx'
    exact .inl ⟨_, rfl, k Z H _ (.refl _ _) nr_int⟩
  · cases er
    obtain ⟨v, rfl, hx'⟩ := rvs1 hx
    cases rv_bool hx'
    exact .inr ⟨_, rfl, k Z H _ (.refl _ _) nr_int⟩
  · cases er
theorem o_max {K : KW} : OpL K maxF (fun xs H Q => ∃ i j, xs = [.int i, .int j] ∧ Q (.int (if j > i then j else i)) H) := fun Z H vs ds r Q zl hx er k => by
  unfold maxF at er
  split at er
  · cases er
    obtain ⟨v, w, rfl, hx', hy⟩ := rvs2 hx
    cases rv_int hx'; cases rv_int hy
    exact ⟨_, _, rfl, k Z H _ (.refl _ _) nr_int⟩
  · cases er
theorem o_min {K : KW} : OpL K minF (fun xs H Q => ∃ i j, xs = [.int i, .int j] ∧ Q (.int (if j < i then j else i)) H) := fun Z H vs ds r Q zl hx er k => by
  unfold minF at er
  split at er
  · cases er
    obtain ⟨v, w, rfl, hx', hy⟩ := rvs2 hx
    cases rv_int hx'; cases rv_int hy
    exact ⟨_, _, rfl, k Z H _ (.refl _ _) nr_int⟩
  · cases er
theorem ce_abs {p : Pos} (hg : Gl X "abs") (hm : X.mg "abs" = none) (ha : CA X [e] ms) (he : starEach [e] X.env = (false, eval e X.env) :: starEach [] X.env := by rfl) : CE X (.Call (.Name "abs" p) [e] [] pos) (mCB absF ms) :=
  ce_callB call_abs o_abs PyProof.Rows.boot_abs hg hm ha (he := he)
theorem ce_intc {p : Pos} (hg : Gl X "int") (hm : X.mg "int" = none) (ha : CA X [e] ms) (he : starEach [e] X.env = (false, eval e X.env) :: starEach [] X.env := by rfl) : CE X (.Call (.Name "int" p) [e] [] pos) (mCB intF ms) :=
  ce_callTy call_int1 o_int PyProof.Rows.boot_int hg hm ha (he := he)
theorem ce_max2 {e2 : Expr} {p : Pos} (hc : X.calm = true) (hg : Gl X "max") (hm : X.mg "max" = none) (ha : CA X [e, e2] ms) (he : starEach [e, e2] X.env = (false, eval e X.env) :: starEach [e2] X.env := by rfl) (hpl : (backTo pos (starEach [e2] X.env)).any (·.1) = false := by rfl) : CE X (.Call (.Name "max" p) [e, e2] [] pos) (mCB maxF ms) :=
  ce_callB (call_max2 hc) o_max PyProof.Rows.boot_max hg hm ha (he := he) (hpl := hpl)
theorem ce_min2 {e2 : Expr} {p : Pos} (hc : X.calm = true) (hg : Gl X "min") (hm : X.mg "min" = none) (ha : CA X [e, e2] ms) (he : starEach [e, e2] X.env = (false, eval e X.env) :: starEach [e2] X.env := by rfl) (hpl : (backTo pos (starEach [e2] X.env)).any (·.1) = false := by rfl) : CE X (.Call (.Name "min" p) [e, e2] [] pos) (mCB minF ms) :=
  ce_callB (call_min2 hc) o_min PyProof.Rows.boot_min hg hm ha (he := he) (hpl := hpl)
/-! ### isinstance -/
def tyN : D → String
  | .none => "NoneType"
  | .bool _ => "bool"
  | .int _ => "int"
  | .str _ => "str"
  | .list _ => "list"
  | .tuple _ => "tuple"
  | .dict _ => "dict"
def isB (T : String) (d : D) : Bool := tyN d == T || (T == "int" && tyN d == "bool")
def tyOk (T : String) : Bool := ["NoneType", "bool", "int", "str", "list", "tuple", "dict"].all fun t => kitB t T == some (t == T || (T == "int" && t == "bool"))
theorem kit_d {K : KW} {T : String} (h : tyOk T = true) (d : D) : PySem.W.kitOne K (.type (tyN d)) (.type T) = some (isB T d) := by
  refine kit_ty ?_
  unfold tyOk at h
  rw [List.all_eq_true] at h
  have := h (tyN d) (by cases d <;> simp [tyN])
  exact eq_of_beq this
def isDct : D → Bool
  | .dict _ => true
  | _ => false
theorem tyx_d {K : KW} {Z : AS} {H : Hp} {d : D} {v : V} (h : RV K Z H d v) (nd : isDct d = false) : TyX K H v (.type (tyN d)) := by
  cases d with
  | none => cases rv_none h; exact .base .non
  | bool b => cases rv_bool h; exact .base (.bl b)
  | int b => cases rv_int h; exact .base (.int b)
  | str b => cases rv_str h; exact .base (.str b)
  | list ds =>
    obtain ⟨p, vs, rfl, hq, _⟩ := h
    rcases hq with (hq | ⟨o, hq⟩) | ⟨o, its, n, hk, hc, _⟩
    · exact .base (.lst hq)
    · exact .base (.frz hq)
    · exact .kList hk hc
  | tuple ds =>
    obtain ⟨p, vs, rfl, hq, _⟩ := rv_tup h
    rcases hq.sq with (hq | ⟨o, hq⟩) | ⟨o, its, n, hk, hc, _⟩
    · exact .base (.tup hq)
    · exact .fTuple hq
    · exact .kTuple hk hc
  | dict ds => cases nd
def mIs (ts : List String) (m : ME) : ME := fun ρ => (m ρ).bind fun p => (rs p.2 p.1).bind fun d => if isDct d = false then some (.val (.bool (ts.any fun T => isB T d)), p.2) else none
theorem kit_any {K : KW} {d : D} : ∀ {ts : List String}, ts.all tyOk = true → PySem.W.kitAny K (.type (tyN d)) (ts.map Value.type) = some (ts.any fun T => isB T d)
  | [], _ => kitAny_nil
  | T :: ts, h => by
    simp only [List.all_cons, Bool.and_eq_true] at h
    refine kitAny_cons (kit_d h.1 d) (fun hb => ?_) (fun hb => ?_)
    · rw [kit_any h.2, List.any_cons, hb, Bool.false_or]
    · rw [List.any_cons, hb, Bool.true_or]
theorem cls_all : ∀ ts : List String, Paired ClsV (ts.map V.ty) (ts.map Value.type)
  | [] => .nil
  | T :: ts => .cons (.ty T) (cls_all ts)
theorem ite_some {α : Type} {c : Prop} [Decidable c] {x : Option α} {y : α} (h : (if c then x else none) = some y) : c ∧ x = some y := by
  split at h
  · rename_i hc; exact ⟨hc, h⟩
  · cases h
theorem ce_is1 {T : Str} {Ts : String} {p p1 : Pos} (hg : Gl X "isinstance") (hm : X.mg "isinstance" = none) (he : CE X e m) (hgT : Gl X T) (hmT : X.mg T = none) (hv : bootBuiltins T = some (.type Ts)) (ok : tyOk Ts = true) (hn : T ≠ "__name__" := by decide) (hdT : (T == ("__debug__" : Str)) = false := by decide)
    (h0 : starEach [e, .Name T p1] X.env = (false, eval e X.env) :: starEach [.Name T p1] X.env := by rfl) (hpl : (backTo pos (starEach [.Name T p1] X.env)).any (·.1) = false := by rfl) :
    CE X (.Call (.Name "isinstance" p) [e, .Name T p1] [] pos) (mIs [Ts] m) :=
  pe_imp (pe_callB call_isi hg hm PyProof.Rows.boot_isinstance (pa_cons he (pa_cons (pe_bltn (v := .ty Ts) hgT hmT hv rfl hn hdT) pa_nil) h0) (he := h0) (hpl := hpl)) fun σ H Q ⟨Z, ρ, r, ρ', fr, e, k⟩ => by
    obtain ⟨⟨r1, ρ1⟩, e1, e⟩ := bnd e
    obtain ⟨d1, ex, e⟩ := bnd e
    obtain ⟨nd, e⟩ := ite_some e
    cases e
    refine ⟨Z, ρ, r1, ρ1, fr, e1, fun Z1 H1 x g1 h1 => ?_⟩
    have hv := rs_ok g1.fr h1 ex
    refine ⟨x, .ty Ts, _, _, isB Ts d1, rfl, .ty Ts, tyx_d hv nd, kit_d (K := X.KW) ok d1, k Z1 H1 _ g1 ?_⟩
    simp only [RR, List.any_cons, List.any_nil, Bool.or_false, RD]
/-- a tuple of built-in types, as written -/
inductive Tys (X : Cx) : List Expr → List String → Prop
  | nil : Tys X [] []
  | cons {T : Str} {Ts : String} {p1 : Pos} {es : List Expr} {ts : List String} (hgT : Gl X T) (hmT : X.mg T = none) (hv : bootBuiltins T = some (.type Ts)) (hn : T ≠ "__name__") (hdT : (T == ("__debug__" : Str)) = false)
      (h0 : starEach (.Name T p1 :: es) X.env = (false, eval (.Name T p1) X.env) :: starEach es X.env) (h : Tys X es ts) : Tys X (.Name T p1 :: es) (Ts :: ts)
theorem Tys.pa {X : Cx} : ∀ {es : List Expr} {ts : List String}, Tys X es ts → PA X es (fun _ H Q => Q (ts.map V.ty) H)
  | _, _, .nil => pa_imp pa_nil fun _ _ _ h => h
  | _, _, .cons hg hm hv hn hd h0 h => pa_imp (pa_cons (pe_bltn (v := .ty _) hg hm hv rfl hn hd) h.pa h0) fun _ _ _ h => h
theorem ce_isT {ts : List String} {k0} {p p1 : Pos} (hg : Gl X "isinstance") (hm : X.mg "isinstance" = none) (he : CE X e m) (ht : Tys X es ts) (ok : ts.all tyOk = true) (hl : ts.length ≤ 20)
    (h0 : starEach [e, .Tuple es k0 p1] X.env = (false, eval e X.env) :: starEach [.Tuple es k0 p1] X.env := by rfl) (h1 : starEach [.Tuple es k0 p1] X.env = (false, eval (.Tuple es k0 p1) X.env) :: starEach [] X.env := by rfl) (hpl : (backTo pos (starEach [.Tuple es k0 p1] X.env)).any (·.1) = false := by rfl) :
    CE X (.Call (.Name "isinstance" p) [e, .Tuple es k0 p1] [] pos) (mIs ts m) :=
  pe_imp (pe_callB call_isiT hg hm PyProof.Rows.boot_isinstance (pa_cons he (pa_cons (pe_tup ht.pa) pa_nil h1) h0) (he := h0) (hpl := hpl)) fun σ H Q ⟨Z, ρ, r, ρ', fr, e, k⟩ => by
    obtain ⟨⟨r1, ρ1⟩, e1, e⟩ := bnd e
    obtain ⟨d1, ex, e⟩ := bnd e
    obtain ⟨nd, e⟩ := ite_some e
    cases e
    refine ⟨Z, ρ, r1, ρ1, fr, e1, fun Z1 H1 x g1 h1 => ⟨by rw [List.length_map]; exact Nat.le_trans hl (by decide), fun q hq => ?_⟩⟩
    have n : Nw Z1 H1 Z1 (upd H1 q (.tup (ts.map V.ty))) := .upd hq
    have g2 := g1.trans (n.go g1.fr)
    have hv := rs_ok g2.fr (h1.go g1.fr (n.go g1.fr)) ex
    exact ⟨x, q, ts.map V.ty, _, _, _, rfl, upd_same, cls_all ts, tyx_d hv nd, kit_any (K := X.KW) ok, k Z1 _ _ g2 (by simp only [RR, RD])⟩
end
end Zl
end

-- ZLst
section
/-! a, b = xs: xs a list -/
namespace Zl
open PySem PySem.Spec PyProof.Rows L2
section
variable {prog : Program} {w : World} {A : Around} {E : Value → Shared → Prop} {s : Shared}
theorem draw_list {it t : Addr} {items : Array Value} (hne : t ≠ it) : ∀ (n i : Nat) (s : Shared) (Q : List Value → Shared → Prop), s.heap.IsListIter it t i → s.heap.IsList t items → i + n ≤ items.size →
    (∀ h', h'.IsListIter it t (i + n) → Heap.SameBut it s.heap h' → Q ((items.toList.drop i).take n) { s with heap := h' }) → wpAny (model prog w) A (draw (.ref it) n) Q E s
  | 0, i, s, Q, hit, _, _, hQ => by
    show wpAny _ _ (pure []) Q E s
    exact wpAny_pure (by simpa using hQ s.heap hit (Heap.SameBut.refl ..))
  | n + 1, i, s, Q, hit, ht, hle, hQ => by
    have hlt : i < items.size := by omega
    show wpAny _ _ (pyNext (.ref it) >>= _) Q E s
    refine wpAny_bind (wpAny_pyNext_list_item hit ht (x := items[i]) (by simp [hlt]) fun h₁ hit₁ hs₁ => ?_)
    refine wpAny_bind (wpAny_holding (draw_list hne n (i + 1) _ _ hit₁ (ht.extBut hs₁.extBut hne) (by omega) fun h₂ hit₂ hs₂ => wpAny_pure ?_))
    have hd : items.toList.drop i = items[i] :: items.toList.drop (i + 1) := by simp [List.drop_eq_getElem_cons, hlt]
    have := hQ h₂ (by rw [show i + (n + 1) = i + 1 + n by omega]; exact hit₂) (hs₁.trans hs₂)
    rw [hd, List.take_succ_cons] at this
    exact this
theorem unpackItems_list {t : Addr} {items : Array Value} {Q : List Value → Shared → Prop} (hh : A.handled = none) (ht : s.heap.IsList t items)
    (hQ : ∀ h', Heap.ExtBut s.heap.objs.size s.heap h' → Q items.toList { s with heap := h' }) : wpAny (model prog w) A (unpackItems (.ref t) items.size none) Q E s := by
  have hlt : t ≠ s.heap.objs.size := by obtain ⟨o, ho, _⟩ := ht; exact Nat.ne_of_lt (Heap.lt_size ho)
  unfold unpackItems
  refine wpAny_bind ?_
  · unfold notIterableAtAll
    refine wpAny_bind (wpAny_specialOf ht.typeIs slot_list_iter.lookup ?_)
    refine wpAny_pure ?_
    simp only [Bool.false_eq_true, if_false]
    refine wpAny_bind (wpAny_holding (wpAny_pyIter_list ht ?_))
    refine wpAny_bind (wpAny_holding (draw_list hlt items.size 0 _ _ ⟨_, Heap.get?_push_size _ rfl, rfl, rfl⟩ (ht.push _) (by omega) fun h₁ hit₁ hs₁ => ?_))
    have hall : List.take items.size (List.drop 0 items.toList) = items.toList := by
      rw [List.drop_zero]; exact List.take_of_length_le (by simp)
    rw [hall]
    rw [if_neg (by simp)]
    have ht₁ : h₁.IsList t items := (ht.push _).extBut hs₁.extBut hlt
    refine wpAny_bind (wpAny_holding (wpAny_pyNext_list_end hh hit₁ ht₁ (by simp) fun h₂ he₂ => ?_))
    simp only [Option.isSome_none, Bool.false_eq_true, if_false]
    refine wpAny_pure (hQ h₂ fun b o hb e => he₂ b o hb (hs₁.extBut b o hb (Heap.get?_push_of_some _ e)))
theorem assign_Tuple_list {env : Env} {elts : List Expr} {x1} {pos : Pos} {t : Addr} {items : Array Value} {Q : Unit → Shared → Prop} (hh : A.handled = none) (ht : s.heap.IsList t items)
    (hn : (assignEach elts env).length = items.size) (hstar : (assignEach elts env).findIdx? (·.1) = none)
    (h : ∀ h', Heap.ExtBut s.heap.objs.size s.heap h' → wpAny (model prog w) A (assignInOrder ((assignEach elts env).map (·.2)) items.toList) Q E { s with heap := h' }) :
    wpAny (model prog w) A (assign (.Tuple elts x1 pos) env (.ref t)) Q E s := by
  rw [assign_Tuple]
  refine wpAny_bind (wpAny_standAt ?_)
  unfold unpack
  rw [hn, hstar]
  exact wpAny_bind (wpAny_holding (unpackItems_list hh ht h))
end
section
variable {X : Cx} {pos : Pos}
def gLst (K : PySem.W.Frag) (n : Nat) (t : TGs) : TG := fun v σ H Q => ∃ a xs, v = .ref a ∧ SqL K H a xs ∧ xs.length = n ∧ t xs σ H Q
theorem pg_lst {es : List Expr} {k : Nat} {t : TGs} {n : Nat} (hc : X.calm = true) (h : PGs X es t)
    (hn : (assignEach es X.env).length = n := by rfl) (hst : (assignEach es X.env).findIdx? (·.1) = none := by rfl) : PG X (.Tuple es k pos) (gLst X.K n t) := by
  refine ⟨fun pins s σ H v u Q I r hw => ?_⟩
  obtain ⟨a, xs, e1, hq, hl, hw⟩ := hw
  subst e1
  cases r
  obtain ⟨its, rv, ht, hz⟩ := I.list hq
  obtain ⟨o, m, e, c, d, dd⟩ := ht
  have ht' : s.heap.IsList a its.toArray := ⟨o, e, c, m, dd⟩
  refine assign_Tuple_list (I.ok.hd hc) ht' (by simp [hn, ← hl, rv.length]) hst fun h' hx => ?_
  have I1 : Inv X pins σ H { s with heap := h' } := I.kept (t' := s.toks) fun b o e => hx b o (Nat.ne_of_lt (Heap.lt_size e)) e
  exact h.run pins _ σ H xs _ Q I1 (by simpa using rv) hw
end
end Zl
end

-- ZStmt
section
namespace Zl
open PySem PySem.Spec PyProof.Rows L2

section
variable {K : KW} {Z Z0 Z1 Z2 Z' : AS} {H H0 H1 H2 H' : Hp} {ρ ρ0 ρ1 ρ2 ρ' : Rho} {σ σ0 σ1 σ2 σ' : St}
/-- what is handed back -/
def RX (K : KW) (H : Hp) (ρ : Rho) (σ : St) (Z' : AS) (H' : Hp) (ρ' : Rho) (σ' : St) : R → V → Prop
  | .val d, v => RD K Z' H' d v
  | .own o, v => ∃ a, v = .ref a ∧ ¬ Z' a ∧ ¬ Ow ρ' σ' a ∧ RO K Z' H' o a ∧ (H a = none ∨ Ow ρ σ a)
  | .bor _, _ => False
theorem RX.at0 {r : R} {v : V} (g : Go K Z H ρ σ Z1 H1 ρ1 σ1) (h : RX K H1 ρ1 σ1 Z' H' ρ' σ' r v) : RX K H ρ σ Z' H' ρ' σ' r v := by
  cases r with
  | own o =>
    obtain ⟨a, e, nz, nw, ro, n⟩ := h
    refine ⟨a, e, nz, nw, ro, ?_⟩
    rcases n with n | n
    · exact .inl (g.st.gr a n)
    · exact (g.st.wn a n).symm
  | _ => exact h
def EndOk (K : KW) (H : Hp) (ρ : Rho) (σ : St) (Dn : Ends) (Z' : AS) (H' : Hp) (ρ' : Rho) (σ' : St) : Fl → Prop
  | .nx => Dn.nx σ' H'
  | .bk => Dn.bk σ' H'
  | .ct => Dn.ct σ' H'
  | .rt r => ∀ v, RX K H ρ σ Z' H' ρ' σ' r v → Dn.rt v H'
def tS (K : KW) (m : MS) : TS := fun Dn σ H => ∃ Z ρ fl ρ', Fr K Z H ρ σ ∧ m ρ = some (fl, ρ') ∧ ∀ Z' H' σ', Go K Z H ρ σ Z' H' ρ' σ' → EndOk K H ρ σ Dn Z' H' ρ' σ' fl
theorem EndOk.at0 {Dn : Ends} {fl : Fl} (g : Go K Z H ρ σ Z1 H1 ρ1 σ1) (h : EndOk K H ρ σ Dn Z' H' ρ' σ' fl) : EndOk K H1 ρ1 σ1 Dn Z' H' ρ' σ' fl := by
  cases fl with
  | rt r => exact fun v hv => h v (hv.at0 g)
  | _ => exact h

/-! ### a slot stored -/
def parAt (ρ : Rho) (i : Nat) : Bool := match ρ[i]? with
  | some (Sl.own true _) => true
  | _ => false
/-- the i-th slot becomes s (no parameter's container) -/
def stS (i : Nat) (s : Sl) (ρ : Rho) : Option Rho := if parAt ρ i = true then none else if i < ρ.length then some (ρ.set i s) else none
def stR (i : Nat) (r : R) (ρ : Rho) : Option Rho := match r with
  | .val d => stS i (.val d) ρ
  | .own o => stS i (.own false o) ρ
  | .bor j => (fz ρ (.bor j)).bind fun q => stS i (.val q.1) q.2
theorem parAt_false {i : Nat} (h : ¬ parAt ρ i = true) : ∀ o, ρ[i]? ≠ some (Sl.own true o) := fun o e => h (by unfold parAt; rw [e])
theorem set_st {i j : Nat} {v w : V} (h : (σ.set i (some v))[j]? = some (some w)) : (j = i ∧ w = v) ∨ (j ≠ i ∧ σ[j]? = some (some w)) := by
  by_cases e : i = j
  · subst e
    by_cases l : i < σ.length
    · rw [List.getElem?_set_self l] at h; cases h; exact .inl ⟨rfl, rfl⟩
    · rw [List.getElem?_eq_none (by rw [List.length_set]; omega)] at h; cases h
  · rw [List.getElem?_set_ne e] at h; exact .inr ⟨Ne.symm e, h⟩
theorem ow_stV {i : Nat} {d : D} {v : V} {a : Addr} (w : Ow (ρ.set i (.val d)) (σ.set i (some v)) a) : Ow ρ σ a := by
  obtain ⟨j, b, o, q, e⟩ := w
  rcases set_get q with ⟨_, q, _⟩ | ⟨n, q⟩
  · cases q
  · rcases set_st e with ⟨e, _⟩ | ⟨_, e⟩
    · exact (n e).elim
    · exact ⟨j, b, o, q, e⟩
theorem ow_stO {i : Nat} {b : Bool} {o : O} {v : V} {a : Addr} (w : Ow (ρ.set i (.own b o)) (σ.set i (some v)) a) : Ow ρ σ a ∨ v = .ref a := by
  obtain ⟨j, b, o, q, e⟩ := w
  rcases set_get q with ⟨rfl, q, _⟩ | ⟨n, q⟩
  · rcases set_st e with ⟨_, e⟩ | ⟨n, _⟩
    · exact .inr e.symm
    · exact (n rfl).elim
  · rcases set_st e with ⟨e, _⟩ | ⟨_, e⟩
    · exact (n e).elim
    · exact .inl ⟨j, b, o, q, e⟩
theorem Fr.lt (f : Fr K Z H ρ σ) {i : Nat} (h : i < ρ.length) : i < σ.length := by rw [← f.len]; exact h
theorem Fr.stV (f : Fr K Z H ρ σ) {i : Nat} {d : D} {v : V} (h : i < ρ.length) (r : RD K Z H d v) : Fr K Z H (ρ.set i (.val d)) (σ.set i (some v)) where
  zl := f.zl
  len := by rw [List.length_set, List.length_set]; exact f.len
  val := fun j d' q => by
    rcases set_get q with ⟨rfl, q, _⟩ | ⟨n, q⟩
    · cases q
      exact ⟨v, List.getElem?_set_self (f.lt h), r⟩
    · obtain ⟨w, e, r'⟩ := f.val _ _ q
      exact ⟨w, by rw [List.getElem?_set_ne (Ne.symm n)]; exact e, r'⟩
  own := fun j b o q => by
    rcases set_get q with ⟨rfl, q, _⟩ | ⟨n, q⟩
    · cases q
    · obtain ⟨w, e, r'⟩ := f.own _ _ _ q
      exact ⟨w, by rw [List.getElem?_set_ne (Ne.symm n)]; exact e, r'⟩
  scr := fun j ns q => by
    rcases set_get q with ⟨rfl, q, _⟩ | ⟨n, q⟩
    · cases q
    · obtain ⟨w, e, r'⟩ := f.scr _ _ q
      exact ⟨w, by rw [List.getElem?_set_ne (Ne.symm n)]; exact e, r'⟩
  apart := fun j k b1 b2 o1 o2 a q1 q2 e1 e2 => by
    rcases set_get q1 with ⟨_, q, _⟩ | ⟨n1, q1⟩
    · cases q
    rcases set_get q2 with ⟨_, q, _⟩ | ⟨n2, q2⟩
    · cases q
    rw [List.getElem?_set_ne (Ne.symm n1)] at e1
    rw [List.getElem?_set_ne (Ne.symm n2)] at e2
    exact f.apart _ _ _ _ _ _ _ q1 q2 e1 e2
theorem Fr.stO (f : Fr K Z H ρ σ) {i : Nat} {o : O} {a : Addr} (h : i < ρ.length) (nz : ¬ Z a) (nw : ¬ Ow ρ σ a) (r : RO K Z H o a) : Fr K Z H (ρ.set i (.own false o)) (σ.set i (some (.ref a))) where
  zl := f.zl
  len := by rw [List.length_set, List.length_set]; exact f.len
  val := fun j d' q => by
    rcases set_get q with ⟨rfl, q, _⟩ | ⟨n, q⟩
    · cases q
    · obtain ⟨w, e, r'⟩ := f.val _ _ q
      exact ⟨w, by rw [List.getElem?_set_ne (Ne.symm n)]; exact e, r'⟩
  own := fun j b o q => by
    rcases set_get q with ⟨rfl, q, _⟩ | ⟨n, q⟩
    · cases q
      exact ⟨a, List.getElem?_set_self (f.lt h), nz, r⟩
    · obtain ⟨w, e, r'⟩ := f.own _ _ _ q
      exact ⟨w, by rw [List.getElem?_set_ne (Ne.symm n)]; exact e, r'⟩
  scr := fun j ns q => by
    rcases set_get q with ⟨rfl, q, _⟩ | ⟨n, q⟩
    · cases q
    · obtain ⟨w, e, r'⟩ := f.scr _ _ q
      exact ⟨w, by rw [List.getElem?_set_ne (Ne.symm n)]; exact e, r'⟩
  apart := fun j k b1 b2 o1 o2 c q1 q2 e1 e2 => by
    rcases set_get q1 with ⟨rfl, _, _⟩ | ⟨n1, p1⟩
    · rcases set_get q2 with ⟨rfl, _, _⟩ | ⟨n2, p2⟩
      · rfl
      · rw [List.getElem?_set_self (f.lt h)] at e1
        rw [List.getElem?_set_ne (Ne.symm n2)] at e2
        cases e1
        exact (nw ⟨_, _, _, p2, e2⟩).elim
    · rw [List.getElem?_set_ne (Ne.symm n1)] at e1
      rcases set_get q2 with ⟨rfl, _, _⟩ | ⟨n2, p2⟩
      · rw [List.getElem?_set_self (f.lt h)] at e2
        cases e2
        exact (nw ⟨_, _, _, p1, e1⟩).elim
      · rw [List.getElem?_set_ne (Ne.symm n2)] at e2
        exact f.apart _ _ _ _ _ _ _ p1 p2 e1 e2
theorem stS_val {i : Nat} {d : D} {v : V} (g : Go K Z0 H0 ρ0 σ0 Z H ρ σ) (h : stS i (.val d) ρ = some ρ') (r : RD K Z H d v) : Go K Z0 H0 ρ0 σ0 Z H ρ' (σ.set i (some v)) := by
  unfold stS at h
  split at h
  · cases h
  · rename_i np
    split at h
    · rename_i hl; cases h
      refine ⟨⟨g.st.keep, g.st.zm, g.st.zn, fun a w => g.st.wn a (ow_stV w), g.st.gr⟩, g.fr.stV hl r, fun j o' q => ?_⟩
      rcases set_get q with ⟨_, q, _⟩ | ⟨n, q⟩
      · cases q
      · rw [List.getElem?_set_ne (Ne.symm n)]; exact g.par j o' q
    · cases h
theorem stS_own {i : Nat} {o : O} {a : Addr} (g : Go K Z0 H0 ρ0 σ0 Z H ρ σ) (h : stS i (.own false o) ρ = some ρ') (nz : ¬ Z a) (nw : ¬ Ow ρ σ a) (r : RO K Z H o a) (n0 : H0 a = none) : Go K Z0 H0 ρ0 σ0 Z H ρ' (σ.set i (some (.ref a))) := by
  unfold stS at h
  split at h
  · cases h
  · rename_i np
    split at h
    · rename_i hl; cases h
      refine ⟨⟨g.st.keep, g.st.zm, g.st.zn, fun b w => ?_, g.st.gr⟩, g.fr.stO hl nz nw r, fun j o' q => ?_⟩
      · rcases ow_stO w with w | w
        · exact g.st.wn b w
        · cases w; exact .inr n0
      · rcases set_get q with ⟨_, q, _⟩ | ⟨n, q⟩
        · cases q
        · rw [List.getElem?_set_ne (Ne.symm n)]; exact g.par j o' q
    · cases h
theorem stR_ok {i : Nat} {r : R} {v : V} (g : Go K Z0 H0 ρ0 σ Z H ρ σ) (h : stR i r ρ = some ρ') (hr : RR K H0 Z H ρ σ r v) : ∃ Z', (∀ a, Z a → Z' a) ∧ Go K Z0 H0 ρ0 σ Z' H ρ' (σ.set i (some v)) := by
  cases r with
  | val d => exact ⟨Z, fun _ z => z, stS_val g h hr⟩
  | own o =>
    obtain ⟨a, rfl, nz, nw, ro, n0⟩ := hr
    exact ⟨Z, fun _ z => z, stS_own g h nz nw ro n0⟩
  | bor j =>
    obtain ⟨⟨d, ρ1⟩, e1, e⟩ := bnd h
    obtain ⟨Z', mz, g', rd⟩ := fz_ok g hr e1
    exact ⟨Z', mz, stS_val g' e rd⟩
end

/-! ### statements -/
def CS (X : Cx) (st : Stmt) (m : MS) : Prop := PS X st (tS X.KW m)
def CSs (X : Cx) (st : List Stmt) (m : MS) : Prop := PSs X st (tS X.KW m)
def mNil : MS := fun ρ => some (.nx, ρ)
def mSeq (m1 m2 : MS) : MS := fun ρ => (m1 ρ).bind fun p => match p.1 with
  | .nx => m2 p.2
  | f => some (f, p.2)
section
variable {X : Cx} {st : Stmt} {rest : List Stmt} {m1 m2 m : MS} {me : ME} {e c : Expr} {pos : Pos} {mt : MT}
theorem css_nil : CSs X [] mNil := pss_imp pss_nil fun Dn σ H ⟨Z, ρ, fl, ρ', fr, e, k⟩ => by cases e; exact k Z H σ (.refl fr)
theorem tS_seq {K : KW} : ∀ D σ H, tS K (mSeq m1 m2) D σ H → tSeq (tS K m1) (tS K m2) D σ H := fun Dn σ H ⟨Z, ρ, fl, ρ', fr, e, k⟩ => by
  obtain ⟨⟨f1, ρ1⟩, e1, e⟩ := bnd e
  refine ⟨Z, ρ, f1, ρ1, fr, e1, fun Z1 H1 σ1 g1 => ?_⟩
  cases f1 with
  | nx => exact ⟨Z1, ρ1, fl, ρ', g1.fr, e, fun Z2 H2 σ2 g2 => (k Z2 H2 σ2 (g1.trans g2)).at0 g1⟩
  | bk => cases e; exact k Z1 H1 σ1 g1
  | ct => cases e; exact k Z1 H1 σ1 g1
  | rt r => cases e; exact k Z1 H1 σ1 g1
theorem css_cons (h1 : CS X st m1) (h2 : CSs X rest m2) : CSs X (st :: rest) (mSeq m1 m2) := pss_imp (pss_cons h1 h2) tS_seq
theorem css_one (h1 : CS X st m1) : CSs X [st] m1 := pss_one h1
theorem cs_pass : CS X (.Pass pos) mNil := ps_imp ps_pass fun Dn σ H ⟨Z, ρ, fl, ρ', fr, e, k⟩ => by cases e; exact k Z H σ (.refl fr)
def mBk : MS := fun ρ => some (.bk, ρ)
def mCt : MS := fun ρ => some (.ct, ρ)
theorem cs_break : CS X (.Break pos) mBk := ps_imp ps_break fun Dn σ H ⟨Z, ρ, fl, ρ', fr, e, k⟩ => by cases e; exact k Z H σ (.refl fr)
theorem cs_continue : CS X (.Continue pos) mCt := ps_imp ps_continue fun Dn σ H ⟨Z, ρ, fl, ρ', fr, e, k⟩ => by cases e; exact k Z H σ (.refl fr)
def mDrop (me : ME) : MS := fun ρ => (me ρ).bind fun p => some (.nx, p.2)
theorem cs_expr (he : CE X e me) (hs : swapsWith e none pos.line X.env = pure false := by rfl) : CS X (.Expr e pos) (mDrop me) :=
  ps_imp (ps_expr he hs) fun Dn σ H ⟨Z, ρ, fl, ρ', fr, e, k⟩ => by
    obtain ⟨⟨r1, ρ1⟩, e1, e⟩ := bnd e
    cases e
    exact ⟨Z, ρ, r1, _, fr, e1, fun Z1 H1 v g1 _ => k Z1 H1 σ g1⟩
def mRet (me : ME) : MS := fun ρ => (me ρ).bind fun p => match p.1 with
  | .val d => some (.rt (.val d), p.2)
  | .own o => some (.rt (.own o), p.2)
  | .bor i => match p.2[i]? with
    | some (Sl.own false o) => some (.rt (.own o), p.2.set i .no)
    | some (Sl.val d) => some (.rt (.val d), p.2)
    | _ => none
theorem Go.forget {K : KW} {Z Z0 : AS} {H H0 : Hp} {ρ ρ0 : Rho} {σ σ0 : St} (g : Go K Z0 H0 ρ0 σ0 Z H ρ σ) (i : Nat) : Go K Z0 H0 ρ0 σ0 Z H (ρ.set i .no) σ := by
  have ow : ∀ {a}, Ow (ρ.set i .no) σ a → Ow ρ σ a := fun {a} ⟨j, b, o, q, e⟩ => by
    rcases set_get q with ⟨_, q, _⟩ | ⟨_, q⟩
    · cases q
    · exact ⟨j, b, o, q, e⟩
  refine ⟨⟨g.st.keep, g.st.zm, g.st.zn, fun a w => g.st.wn a (ow w), g.st.gr⟩, ⟨g.fr.zl, by rw [List.length_set]; exact g.fr.len, fun j d q => ?_, fun j b o q => ?_, fun j ns q => ?_, fun j k b1 b2 o1 o2 a q1 q2 e1 e2 => ?_⟩, fun j o' q => ?_⟩
  · rcases set_get q with ⟨_, q, _⟩ | ⟨_, q⟩
    · cases q
    · exact g.fr.val _ _ q
  · rcases set_get q with ⟨_, q, _⟩ | ⟨_, q⟩
    · cases q
    · exact g.fr.own _ _ _ q
  · rcases set_get q with ⟨_, q, _⟩ | ⟨_, q⟩
    · cases q
    · exact g.fr.scr _ _ q
  · rcases set_get q1 with ⟨_, q, _⟩ | ⟨n1, q1⟩
    · cases q
    rcases set_get q2 with ⟨_, q, _⟩ | ⟨n2, q2⟩
    · cases q
    exact g.fr.apart _ _ _ _ _ _ _ q1 q2 e1 e2
  · rcases set_get q with ⟨_, q, _⟩ | ⟨_, q⟩
    · cases q
    · exact g.par _ _ q
theorem cs_ret (he : CE X e me) : CS X (.Return (some e) pos) (mRet me) :=
  ps_imp (ps_ret he) fun Dn σ H ⟨Z, ρ, fl, ρ', fr, e, k⟩ => by
    obtain ⟨⟨r1, ρ1⟩, e1, e⟩ := bnd e
    refine ⟨Z, ρ, r1, ρ1, fr, e1, fun Z1 H1 v g1 h1 => ?_⟩
    cases r1 with
    | val d => cases e; exact k Z1 H1 σ g1 v h1
    | own o =>
      cases e
      obtain ⟨a, ev, nz, nw, ro, n0⟩ := h1
      exact k Z1 H1 σ g1 v ⟨a, ev, nz, nw, ro, .inl n0⟩
    | bor i =>
      simp only at e
      have hσ : σ[i]? = some (some v) := h1
      split at e
      · rename_i o q
        cases e
        obtain ⟨a, e', nz, ro⟩ := g1.fr.own _ _ _ q
        rw [hσ] at e'; cases e'
        refine k Z1 H1 σ (g1.forget i) _ ⟨a, rfl, nz, fun w => ?_, ro, (g1.st.wn a ⟨i, _, _, q, hσ⟩).symm⟩
        obtain ⟨j, b', o', q', e'⟩ := w
        rcases set_get q' with ⟨_, q', _⟩ | ⟨n, q'⟩
        · cases q'
        · exact n (g1.fr.apart _ _ _ _ _ _ _ q' q e' hσ)
      · rename_i d q
        cases e
        obtain ⟨v', e', rd⟩ := g1.fr.val _ _ q
        rw [hσ] at e'; cases e'
        exact k Z1 H1 σ g1 _ rd
      · cases e
def mRetN : MS := fun ρ => some (.rt (.val .none), ρ)
theorem cs_retN : CS X (.Return none pos) mRetN := ps_imp ps_retN fun Dn σ H ⟨Z, ρ, fl, ρ', fr, e, k⟩ => by cases e; exact k Z H σ (.refl fr) _ (by simp only [RX, RD])
def mIfS (mt : MT) (m1 m2 : MS) : MS := fun ρ => (mt ρ).bind fun p => if p.1 = true then m1 p.2 else m2 p.2
theorem cs_if {p q : List Stmt} (hc : CT X c mt) (hp : CSs X p m1) (hq : CSs X q m2) : CS X (.If c p q pos) (mIfS mt m1 m2) :=
  ps_imp (ps_if hc hp hq) fun Dn σ H ⟨Z, ρ, fl, ρ', fr, e, k⟩ => by
    obtain ⟨⟨b1, ρ1⟩, e1, e⟩ := bnd e
    refine ⟨Z, ρ, b1, ρ1, fr, e1, fun Z1 H1 g1 => ?_⟩
    simp only at e
    split at e
    · rename_i hk; rw [if_pos hk]; exact ⟨Z1, ρ1, fl, ρ', g1.fr, e, fun Z2 H2 σ2 g2 => (k Z2 H2 σ2 (g1.trans g2)).at0 g1⟩
    · rename_i hk; rw [if_neg hk]; exact ⟨Z1, ρ1, fl, ρ', g1.fr, e, fun Z2 H2 σ2 g2 => (k Z2 H2 σ2 (g1.trans g2)).at0 g1⟩
def mSet (i : Nat) (me : ME) : MS := fun ρ => (me ρ).bind fun p => (stR i p.1 p.2).bind fun q => some (.nx, q)
theorem tS_set {K : KW} {i : Nat} : ∀ D σ H, tS K (mSet i me) D σ H → tAsg (tE K me) (gName i) D σ H := fun Dn σ H ⟨Z, ρ, fl, ρ', fr, e, k⟩ => by
  obtain ⟨⟨r1, ρ1⟩, e1, e⟩ := bnd e
  obtain ⟨ρ2, e2, e⟩ := bnd e
  cases e
  refine ⟨Z, ρ, r1, ρ1, fr, e1, fun Z1 H1 v g1 h1 => ?_⟩
  obtain ⟨Z2, _, g2⟩ := stR_ok g1 e2 h1
  exact k Z2 H1 _ g2
theorem cs_set {i : Nat} {x : Str} {pos' : Pos} (hN : X.N.Nodup) (hi : X.N[i]? = some x) (hx : Loc X.env.scope x) (he : CE X e me) (hs : swapsWith e (some (.Name x pos')) pos.line X.env = pure false := by rfl) (hf : X.fn x = true ∨ X.env.scope.names.lookup x = some .local := by first | exact .inl rfl | exact .inr rfl | assumption) :
    CS X (.Assign [.Name x pos'] e pos) (mSet i me) := ps_imp (ps_set hN hi hx he hs hf) tS_set
/-! ### targets that data are given to -/
abbrev MG := D → Rho → Option Rho
def Off (js : List Nat) (σ σ' : St) : Prop := σ'.length = σ.length ∧ ∀ j, j ∉ js → σ'[j]? = σ[j]?
def isTup : Expr → Bool
  | .Tuple .. => true
  | _ => false
/-- what a target is given; b: it is taken apart at once, by its items -/
def RDg (K : KW) (b : Bool) (Z : AS) (H : Hp) (d : D) (v : V) : Prop := RD K Z H d v ∨ (b = true ∧ ∃ ds a vs, d = .tuple ds ∧ v = .ref a ∧ SqT K H a vs ∧ RDs K Z H ds vs)
def tG (K : KW) (b : Bool) (js : List Nat) (g : MG) : TG := fun v σ H Q => ∃ Z ρ d ρ', Fr K Z H ρ σ ∧ RDg K b Z H d v ∧ g d ρ = some ρ' ∧ ∀ Z' H' σ', Go K Z H ρ σ Z' H' ρ' σ' → Off js σ σ' → Q σ' H'
abbrev MGs := List D → Rho → Option Rho
def tGs (K : KW) (js : List Nat) (g : MGs) : TGs := fun vs σ H Q => ∃ Z ρ ds ρ', Fr K Z H ρ σ ∧ RDs K Z H ds vs ∧ g ds ρ = some ρ' ∧ ∀ Z' H' σ', Go K Z H ρ σ Z' H' ρ' σ' → Off js σ σ' → Q σ' H'
def CG (X : Cx) (js : List Nat) (e : Expr) (g : MG) : Prop := PG X e (tG X.KW (isTup e) js g)
def CGs (X : Cx) (js : List Nat) (es : List Expr) (g : MGs) : Prop := PGs X es (tGs X.KW js g)
theorem pg_imp {e : Expr} {t t' : TG} (h : PG X e t) (i : ∀ v σ H Q, t' v σ H Q → t v σ H Q) : PG X e t' := ⟨fun pins s σ H v u Q I r hw => h.run pins s σ H v u Q I r (i v σ H Q hw)⟩
theorem pgs_imp {e : List Expr} {t t' : TGs} (h : PGs X e t) (i : ∀ v σ H Q, t' v σ H Q → t v σ H Q) : PGs X e t' := ⟨fun pins s σ H v u Q I r hw => h.run pins s σ H v u Q I r (i v σ H Q hw)⟩
def gN (i : Nat) : MG := fun d ρ => stS i (.val d) ρ
theorem off_set {i : Nat} {σ : St} {v : V} : Off [i] σ (σ.set i (some v)) := ⟨List.length_set, fun j h => List.getElem?_set_ne (fun e => h (by simp [e]))⟩
theorem cg_name {i : Nat} {x : Str} (hN : X.N.Nodup) (hi : X.N[i]? = some x) (hx : Loc X.env.scope x) (hf : X.fn x = true ∨ X.env.scope.names.lookup x = some .local := by first | exact .inl rfl | exact .inr rfl | assumption) : CG X [i] (.Name x pos) (gN i) :=
  pg_imp (pg_name hN hi hx hf) fun v σ H Q ⟨Z, ρ, d, ρ', fr, rd, e, k⟩ => k Z H _ (stS_val (.refl fr) e (rd.elim id fun z => nomatch z.1)) off_set
def gs0 : MGs := fun ds ρ => match ds with
  | [] => some ρ
  | _ => none
def gs1 (g : MG) (gs : MGs) : MGs := fun ds ρ => match ds with
  | [] => none
  | d :: r => (g d ρ).bind fun ρ1 => gs r ρ1
theorem cgs_nil : CGs X [] [] gs0 := pgs_imp pgs_nil fun v σ H Q ⟨Z, ρ, d, ρ', fr, rd, e, k⟩ => by
  cases d with
  | nil => cases e; simp only [RDs] at rd; subst rd; exact ⟨rfl, k Z H σ (.refl fr) ⟨rfl, fun _ _ => rfl⟩⟩
  | cons _ _ => cases e
theorem cgs_cons {g : MG} {gs : MGs} {e : Expr} {es : List Expr} {js ks : List Nat} (h1 : CG X js e g) (h2 : CGs X ks es gs) (hs : (assignEach (e :: es) X.env).map (·.2) = assign e X.env :: (assignEach es X.env).map (·.2) := by rfl) : CGs X (js ++ ks) (e :: es) (gs1 g gs) :=
  pgs_imp (pgs_cons h1 h2 hs) fun v σ H Q ⟨Z, ρ, d, ρ', fr, rd, e, k⟩ => by
    cases d with
    | nil => cases e
    | cons d r =>
      obtain ⟨ρ1, e1, e⟩ := bnd e
      simp only [RDs] at rd
      obtain ⟨v, vr, rfl, h1, h2⟩ := rd
      refine ⟨v, vr, rfl, Z, ρ, d, ρ1, fr, .inl h1, e1, fun Z1 H1 σ1 g1 o1 => ?_⟩
      exact ⟨Z1, ρ1, r, ρ', g1.fr, fr.rds g1.st h2, e, fun Z2 H2 σ2 g2 o2 => k Z2 H2 σ2 (g1.trans g2) ⟨o2.1.trans o1.1, fun j h => by
        rw [List.mem_append] at h
        exact (o2.2 j fun z => h (.inr z)).trans (o1.2 j fun z => h (.inl z))⟩⟩
def gT (n : Nat) (gs : MGs) : MG := fun d ρ => match d with
  | .tuple ds => if ds.length = n then gs ds ρ else none
  | .list ds => if ds.length = n then gs ds ρ else none
  | _ => none
theorem pg_or {X : Cx} {e : Expr} {t t' : TG} (h : PG X e t) (h' : PG X e t') : PG X e (fun v σ H Q => t v σ H Q ∨ t' v σ H Q) := ⟨fun pins s σ H v u Q I r hw => hw.elim (h.run pins s σ H v u Q I r) (h'.run pins s σ H v u Q I r)⟩
theorem cg_tup {es : List Expr} {k0 : Nat} {gs : MGs} {n : Nat} {js : List Nat} (hc : X.calm = true) (h : CGs X js es gs) (hn : (assignEach es X.env).length = n := by rfl) (hst : (assignEach es X.env).findIdx? (·.1) = none := by rfl) : CG X js (.Tuple es k0 pos) (gT n gs) :=
  pg_imp (pg_or (pg_tup hc h hn hst) (pg_lst hc h hn hst)) fun v σ H Q ⟨Z, ρ, d, ρ', fr, rd, e, k⟩ => by
    unfold gT at e
    split at e
    · split at e
      · rename_i ds hl
        obtain ⟨a, vs, rfl, hq, rd⟩ : ∃ a vs, v = .ref a ∧ SqT X.K H a vs ∧ RDs X.KW Z H ds vs := by
          rcases rd with rd | ⟨_, ds', a, vs, e1, e2, hq, rd⟩
          · simp only [RD] at rd
            obtain ⟨a, vs, e, hq, rd⟩ := rd
            exact ⟨a, vs, e, hq.sq, rd⟩
          · cases e1
            exact ⟨a, vs, e2, hq, rd⟩
        exact .inl ⟨a, vs, rfl, hq, by rw [rds_len rd]; exact hl, Z, ρ, ds, ρ', fr, rd, e, k⟩
      · cases e
    · split at e
      · rename_i ds hl
        obtain ⟨a, vs, rfl, hq, rd⟩ : ∃ a vs, v = .ref a ∧ SqL X.K H a vs ∧ RDs X.KW Z H ds vs := by
          rcases rd with rd | ⟨_, ds', a, vs, e1, e2, hq, rd⟩
          · simp only [RD] at rd
            obtain ⟨a, vs, e, _, hq, rd⟩ := rd
            exact ⟨a, vs, e, .inl (.inl hq), rd⟩
          · cases e1
        exact .inr ⟨a, vs, rfl, hq, by rw [rds_len rd]; exact hl, Z, ρ, ds, ρ', fr, rd, e, k⟩
      · cases e
    · cases e
/-- target = value: what is frozen -/
def mAsg (g : MG) (me : ME) : MS := fun ρ => (me ρ).bind fun p => (fz p.2 p.1).bind fun q => (g q.1 q.2).bind fun ρ' => some (.nx, ρ')
theorem cs_asg {tg : Expr} {g : MG} {js : List Nat} (he : CE X e me) (hg : CG X js tg g) (hs : swapsWithSole [tg] e pos.line X.env = pure false := by rfl) (hw : swappedStores [tg] e X.env = pure none := by rfl)
    (h1 : (assignEach [tg] X.env).map (·.2) = [assign tg X.env] := by rfl) : CS X (.Assign [tg] e pos) (mAsg g me) :=
  ps_imp (ps_asg he hg hs hw h1) fun Dn σ H ⟨Z, ρ, fl, ρ', fr, e, k⟩ => by
    obtain ⟨⟨r1, ρ1⟩, e1, e⟩ := bnd e
    obtain ⟨⟨d, ρ2⟩, e2, e⟩ := bnd e
    obtain ⟨ρ3, e3, e⟩ := bnd e
    cases e
    refine ⟨Z, ρ, r1, ρ1, fr, e1, fun Z1 H1 v g1 h1 => ?_⟩
    obtain ⟨Z2, _, g2, rd⟩ := fz_ok g1 h1 e2
    exact ⟨Z2, ρ2, d, _, g2.fr, .inl rd, e3, fun Z3 H3 σ3 g3 _ => k Z3 H3 σ3 (g2.trans g3)⟩
end
end Zl
end

-- ZLoop
section
namespace Zl
open PySem PySem.Spec PyProof.Rows L2

/-! ### what is walked -/
/-- all that data lean on stands as it stood -/
structure Ks (K : KW) (Z : AS) (H : Hp) (Z1 : AS) (H1 : Hp) : Prop where
  zm : ∀ a, Z a → Z1 a
  ls : ∀ a o, Z a → H a = some o → H1 a = some o
  tp : ∀ a xs, TQ K H a xs → TQ K H1 a xs
  fz : ∀ a o u, H a = some (.frz o u) → H1 a = some (.frz o u)
structure WalkD (K : KW) (tb : Bool) (Z : AS) (H : Hp) (J : It) (ds : List D) : Prop where
  ex : ∃ G Y, Walk J ds.length G Y ∧ (∀ Z1 H1, Ks K Z H Z1 H1 → G H1) ∧
    ∀ Z1 H1 i x H2, Ks K Z H Z1 H1 → i < ds.length → Y i H1 x H2 → ∃ d Z2, ds[i]? = some d ∧ Nw Z1 H1 Z2 H2 ∧ RDg K tb Z2 H2 d x
abbrev MI := Rho → Option (List D × Rho)
def tI (K : KW) (tb : Bool) (mi : MI) : TI := fun σ H R => ∃ Z ρ ds ρ', Fr K Z H ρ σ ∧ mi ρ = some (ds, ρ') ∧ ∀ Z' H' J, Go K Z H ρ σ Z' H' ρ' σ → WalkD K tb Z' H' J ds → R J H'
def CI (X : Cx) (tg e : Expr) (mi : MI) : Prop := PI X tg e (tI X.KW (isTup tg) mi)
theorem pi_imp {X : Cx} {tg e : Expr} {t t' : TI} (h : PI X tg e t) (i : ∀ σ H R, t' σ H R → t σ H R) : PI X tg e t' := ⟨fun pins s σ H R I hw => h.run pins s σ H R I (i σ H R hw)⟩
theorem pi_or {X : Cx} {tg e : Expr} {t t' : TI} (h : PI X tg e t) (h' : PI X tg e t') : PI X tg e (fun σ H R => t σ H R ∨ t' σ H R) := ⟨fun pins s σ H R I hw => hw.elim (h.run pins s σ H R I) (h'.run pins s σ H R I)⟩

section
variable {K : KW} {tb : Bool} {Z Z0 Z1 Z2 Z' : AS} {H H0 H1 H2 H' : Hp} {ρ ρ0 ρ1 ρ2 ρ' : Rho} {σ σ0 σ1 σ2 σ' : St}
theorem Go.ks (f : Fr K Z H ρ σ) (g : Go K Z H ρ σ Z1 H1 ρ1 σ1) : Ks K Z H Z1 H1 where
  zm := g.st.zm
  ls := fun a o z e => g.st.keep a o e fun w => f.nz w z
  tp := f.sqT g.st
  fz := fun a o u e => g.st.keep a _ e fun w => (f.mut w).frz e
theorem Ks.rds (k : Ks K Z H Z1 H1) {ds : List D} {vs : List V} (h : RDs K Z H ds vs) : RDs K Z1 H1 ds vs := RDs.mono k.zm k.ls k.tp ds vs h
theorem walk_yat {J : It} {ds : List D} {vs : List V} {G : Hp → Prop} (w : Walk J vs.length G (YAt vs)) (hg : ∀ Z1 H1, Ks K Z H Z1 H1 → G H1) (h : RDs K Z H ds vs) : WalkD K tb Z H J ds :=
  ⟨⟨G, YAt vs, by rw [← rds_len h]; exact w, hg, fun Z1 H1 i x H2 ks hi y => by
    obtain ⟨e, y⟩ := y
    subst e
    have hd : ds[i]? = some ds[i] := List.getElem?_eq_getElem hi
    obtain ⟨v, ev, rd⟩ := rds_get (ks.rds h) hd
    rw [ev] at y; cases y
    exact ⟨_, Z1, hd, .refl _ _, .inl rd⟩⟩⟩
theorem walkd_list {a : Addr} {ds : List D} {vs : List V} (hz : Z a) (hq : H a = some (.lst vs)) (h : RDs K Z H ds vs) : WalkD K tb Z H (Itl K a) ds :=
  walk_yat walk_list (fun Z1 H1 ks => .of (ks.ls a _ hz hq)) h
theorem walkd_tup {a : Addr} {ds : List D} {vs : List V} (hq : TQ K H a vs) (h : RDs K Z H ds vs) : WalkD K tb Z H (Itt K a) ds :=
  walk_yat walk_tup (fun Z1 H1 ks => (ks.tp a _ hq).sq) h
def signs (z : Str) : List D := z.cps.toList.map fun c => .str ⟨#[c]⟩
theorem walkd_str {z : Str} : WalkD K tb Z H (Its z) (signs z) :=
  ⟨⟨_, _, by
      have : (signs z).length = z.cps.size := by unfold signs; simp
      rw [this]; exact walk_str, fun _ _ _ => trivial, fun Z1 H1 i x H2 ks hi y => by
    obtain ⟨e, c, hc, ex⟩ := y
    subst e
    subst ex
    refine ⟨.str ⟨#[c]⟩, Z1, ?_, .refl _ _, .inl rd_str⟩
    unfold signs
    rw [List.getElem?_map, Array.getElem?_toList, hc]; rfl⟩⟩
def rng (lo : Int) (n : Nat) : List D := (List.range n).map fun i => .int (lo + (i : Nat))
theorem walkd_range {lo : Int} {n : Nat} : WalkD K tb Z H (Itr lo n) (rng lo n) :=
  ⟨⟨_, _, by
      have : (rng lo n).length = n := by unfold rng; simp
      rw [this]; exact walk_range, fun _ _ _ => trivial, fun Z1 H1 i x H2 ks hi y => by
    obtain ⟨e, ex⟩ := y
    subst e
    subst ex
    have hi' : i < n := by unfold rng at hi; simpa using hi
    refine ⟨.int (lo + (i : Nat)), Z1, ?_, .refl _ _, .inl rd_int⟩
    unfold rng
    rw [List.getElem?_map, List.getElem?_range hi']; rfl⟩⟩
theorem pair_nw {ds es : List D} {vs ws : List V} {i : Nat} {H2 : Hp} {x : V} {p : Nat → Option V} {q : Nat → Option V} {d e : D} (h1 : ∀ v, p i = some v → RD K Z H d v) (h2 : ∀ v, q i = some v → RD K Z H e v) (y : YPair p q i H x H2) :
    Nw Z H Z H2 ∧ RDg K true Z H2 (.tuple [d, e]) x := by
  obtain ⟨T, a, b, rfl, hT, rfl, ha, hb⟩ := y
  have n : Nw Z H Z (upd H T (.tup [a, b])) := .upd hT
  refine ⟨n, ?_⟩
  exact .inr ⟨rfl, _, T, _, rfl, rfl, .of upd_same, rds_cons (n.rd (h1 a ha)) (rds_cons (n.rd (h2 b hb)) rds_nil)⟩
def enumL (ds : List D) : List D := ds.zipIdx.map fun p => .tuple [.int (p.2 : Nat), p.1]
theorem walkd_enum {J : It} {G : Hp → Prop} {ds : List D} {vs : List V} (w : Walk J vs.length G (YPair (fun i => some (.int (i : Nat))) (fun i => vs[i]?))) (hg : ∀ Z1 H1, Ks K Z H Z1 H1 → G H1) (h : RDs K Z H ds vs) : WalkD K true Z H J (enumL ds) :=
  ⟨⟨_, _, by
      have : (enumL ds).length = vs.length := by unfold enumL; simp [rds_len h]
      rw [this]; exact w, hg, fun Z1 H1 i x H2 ks hi y => by
    have hi' : i < ds.length := by unfold enumL at hi; simpa using hi
    have hd : ds[i]? = some ds[i] := List.getElem?_eq_getElem hi'
    obtain ⟨v, ev, rd⟩ := rds_get (ks.rds h) hd
    obtain ⟨n, r⟩ := pair_nw (ds := []) (es := []) (vs := []) (ws := []) (K := K) (Z := Z1) (d := .int (i : Nat)) (e := ds[i]) (fun v e => by cases e; exact rd_int) (fun w e => by rw [ev] at e; cases e; exact rd) y
    refine ⟨_, Z1, ?_, n, r⟩
    unfold enumL
    rw [List.getElem?_map, List.getElem?_zipIdx, hd]; simp⟩⟩
def zipL (ds es : List D) : List D := (ds.zip es).map fun p => .tuple [p.1, p.2]
theorem walkd_zip {J : It} {n : Nat} {G : Hp → Prop} {ds es : List D} {vs ws : List V} (hn : n = min vs.length ws.length) (w : Walk J n G (YPair (fun i => vs[i]?) (fun i => ws[i]?))) (hg : ∀ Z1 H1, Ks K Z H Z1 H1 → G H1) (h : RDs K Z H ds vs) (h' : RDs K Z H es ws) : WalkD K true Z H J (zipL ds es) :=
  ⟨⟨_, _, by
      have : (zipL ds es).length = n := by unfold zipL; simp [← rds_len h, ← rds_len h', hn]
      rw [this]; exact w, hg, fun Z1 H1 i x H2 ks hi y => by
    have hi' : i < ds.length ∧ i < es.length := by unfold zipL at hi; simp at hi; omega
    have hd : ds[i]? = some ds[i] := List.getElem?_eq_getElem hi'.1
    have he : es[i]? = some es[i] := List.getElem?_eq_getElem hi'.2
    obtain ⟨v, ev, rd⟩ := rds_get (ks.rds h) hd
    obtain ⟨v', ev', rd'⟩ := rds_get (ks.rds h') he
    obtain ⟨n, r⟩ := pair_nw (ds := []) (es := []) (vs := []) (ws := []) (K := K) (Z := Z1) (d := ds[i]) (e := es[i]) (fun w e => by rw [ev] at e; cases e; exact rd) (fun w e => by rw [ev'] at e; cases e; exact rd') y
    refine ⟨_, Z1, ?_, n, r⟩
    unfold zipL
    rw [List.getElem?_map, show (ds.zip es)[i]? = some (ds[i], es[i]) from List.getElem?_zip_eq_some.mpr ⟨hd, he⟩]; rfl⟩⟩
end

section
variable {X : Cx} {tg e e2 : Expr} {m m2 me : ME} {ms : MA} {md : MD} {pos : Pos}
/-- a list, a tuple, a text, item by item -/
def mItems (m : ME) : MI := fun ρ => (m ρ).bind fun p => (fz p.2 p.1).bind fun q => match q.1 with
  | .list ds => some (ds, q.2)
  | .tuple ds => some (ds, q.2)
  | .str z => some (signs z, q.2)
  | _ => none
theorem ci_items (he : CE X e m) : CI X tg e (mItems m) :=
  pi_imp (pi_or (pi_list he) (pi_or (pi_tup he) (pi_str he))) fun σ H R ⟨Z, ρ, ds, ρ', fr, e, k⟩ => by
    obtain ⟨⟨r1, ρ1⟩, e1, e⟩ := bnd e
    obtain ⟨⟨d1, ρ2⟩, e2, e⟩ := bnd e
    try simp only at e
    split at e
    · cases e
      refine .inl ⟨Z, ρ, r1, ρ1, fr, e1, fun Z1 H1 v g1 h1 => ?_⟩
      obtain ⟨Z2, _, g2, rd⟩ := fz_ok g1 h1 e2
      simp only [RD] at rd
      obtain ⟨a, vs, rfl, hz, hq, rd⟩ := rd
      exact ⟨a, rfl, ⟨vs, .of hq⟩, k Z2 H1 _ g2 (walkd_list hz hq rd)⟩
    · cases e
      refine .inr (.inl ⟨Z, ρ, r1, ρ1, fr, e1, fun Z1 H1 v g1 h1 => ?_⟩)
      obtain ⟨Z2, _, g2, rd⟩ := fz_ok g1 h1 e2
      simp only [RD] at rd
      obtain ⟨a, vs, rfl, hq, rd⟩ := rd
      exact ⟨a, rfl, ⟨vs, hq.sq⟩, k Z2 H1 _ g2 (walkd_tup hq rd)⟩
    · cases e
      refine .inr (.inr ⟨Z, ρ, r1, ρ1, fr, e1, fun Z1 H1 v g1 h1 => ?_⟩)
      obtain ⟨Z2, _, g2, rd⟩ := fz_ok g1 h1 e2
      simp only [RD] at rd
      exact ⟨_, rd, k Z2 H1 _ g2 walkd_str⟩
    · cases e
def mRange1 (ms : MD) : MI := fun ρ => (ms ρ).bind fun p => match p.1 with
  | [.int j] => if -(2 ^ 62) ≤ j ∧ j < 2 ^ 62 then some (rng 0 j.toNat, p.2) else none
  | _ => none
theorem rds1 {K : KW} {Z : AS} {H : Hp} {d : D} {vs : List V} (h : RDs K Z H [d] vs) : ∃ v, vs = [v] ∧ RD K Z H d v := by
  simp only [RDs] at h
  obtain ⟨v, r, rfl, h1, rfl⟩ := h
  exact ⟨v, rfl, h1⟩
theorem rds2 {K : KW} {Z : AS} {H : Hp} {d d' : D} {vs : List V} (h : RDs K Z H [d, d'] vs) : ∃ v v', vs = [v, v'] ∧ RD K Z H d v ∧ RD K Z H d' v' := by
  simp only [RDs] at h
  obtain ⟨v, r, rfl, h1, v', r', rfl, h2, rfl⟩ := h
  exact ⟨v, v', rfl, h1, h2⟩
theorem ci_range1 {p : Pos} (hg : Gl X "range") (hm : X.mg "range" = none) (ha : CD X [e] md) (hs : starEach [e] X.env = [(false, eval e X.env)] := by rfl) : CI X tg (.Call (.Name "range" p) [e] [] pos) (mRange1 md) :=
  pi_imp (pi_range1 hg hm ha hs) fun σ H R ⟨Z, ρ, ds, ρ', fr, e, k⟩ => by
    obtain ⟨⟨r1, ρ1⟩, e1, e⟩ := bnd e
    try simp only at e
    split at e
    · split at e
      · rename_i hb; cases e
        refine ⟨Z, ρ, _, _, fr, e1, fun Z1 H1 vs g1 h1 => ?_⟩
        obtain ⟨v, rfl, h2⟩ := rds1 h1
        simp only [RD] at h2
        subst h2
        exact ⟨_, rfl, hb.1, hb.2, k Z1 H1 _ g1 walkd_range⟩
      · cases e
    · cases e
def mRange2 (ms : MD) : MI := fun ρ => (ms ρ).bind fun p => match p.1 with
  | [.int i, .int j] => if -(2 ^ 62) ≤ i ∧ i < 2 ^ 62 ∧ -(2 ^ 62) ≤ j ∧ j < 2 ^ 62 then some (rng i (j - i).toNat, p.2) else none
  | _ => none
theorem ci_range2 {p : Pos} (hg : Gl X "range") (hm : X.mg "range" = none) (ha : CD X [e, e2] md) (hs : starEach [e, e2] X.env = [(false, eval e X.env), (false, eval e2 X.env)] := by rfl) (hs2 : starEach [e2] X.env = [(false, eval e2 X.env)] := by rfl) : CI X tg (.Call (.Name "range" p) [e, e2] [] pos) (mRange2 md) :=
  pi_imp (pi_range2 hg hm ha hs hs2) fun σ H R ⟨Z, ρ, ds, ρ', fr, e, k⟩ => by
    obtain ⟨⟨r1, ρ1⟩, e1, e⟩ := bnd e
    try simp only at e
    split at e
    · split at e
      · rename_i hb; cases e
        refine ⟨Z, ρ, _, _, fr, e1, fun Z1 H1 vs g1 h1 => ?_⟩
        obtain ⟨v, v', rfl, h3, h2⟩ := rds2 h1
        simp only [RD] at h3 h2
        subst h3
        subst h2
        exact ⟨_, _, rfl, hb, k Z1 H1 _ g1 walkd_range⟩
      · cases e
    · cases e
def mEnum (ms : MD) : MI := fun ρ => (ms ρ).bind fun p => match p.1 with
  | [.list ds] => some (enumL ds, p.2)
  | _ => none
theorem ci_enum {p tpos : Pos} {elts : List Expr} {kk : Nat} (hg : Gl X "enumerate") (hm : X.mg "enumerate" = none) (ha : CD X [e] md) (hs : starEach [e] X.env = [(false, eval e X.env)] := by rfl) : CI X (.Tuple elts kk tpos) (.Call (.Name "enumerate" p) [e] [] pos) (mEnum md) :=
  pi_imp (pi_enum hg hm ha hs) fun σ H R ⟨Z, ρ, ds, ρ', fr, e, k⟩ => by
    obtain ⟨⟨r1, ρ1⟩, e1, e⟩ := bnd e
    try simp only at e
    split at e
    · cases e
      refine ⟨Z, ρ, _, _, fr, e1, fun Z1 H1 vs g1 h1 => ?_⟩
      obtain ⟨v, rfl, h2⟩ := rds1 h1
      simp only [RD] at h2
      obtain ⟨a, vs, rfl, hz, hq, rd⟩ := h2
      exact ⟨a, vs, rfl, .of hq, k Z1 H1 _ g1 (walkd_enum walk_enum (fun Z2 H2 ks => .of (ks.ls a _ hz hq)) rd)⟩
    · cases e
def mZip (ms : MD) : MI := fun ρ => (ms ρ).bind fun p => match p.1 with
  | [.list ds, .list es] => some (zipL ds es, p.2)
  | [.tuple ds, .tuple es] => some (zipL ds es, p.2)
  | _ => none
theorem walk_zipT {K : KW} {a b : Addr} {xs ys : List V} {n : Nat} (hn : n = min xs.length ys.length) : Walk (RZ.ItzT K a b) n (fun H => SqT K H a xs ∧ SqT K H b ys) (YPair (fun i => xs[i]?) (fun i => ys[i]?)) := by
  subst hn
  refine ⟨fun i _ hi q => ?_, fun _ q => ⟨xs, ys, q.1, q.2, by omega⟩, fun i H v H' _ q y => ?_⟩
  · have h1 : i < xs.length := by omega
    have h2 : i < ys.length := by omega
    exact ⟨xs, ys, xs[i], ys[i], q.1, q.2, by simp [h1], by simp [h2]⟩
  · obtain ⟨T, x, z, h1, h2, h3, h4, h5⟩ := y
    exact ⟨T, x, z, h1, h2, h3, h4 xs q.1, h5 ys q.2⟩
theorem ci_zip {p tpos : Pos} {elts : List Expr} {kk : Nat} (hg : Gl X "zip") (hm : X.mg "zip" = none) (ha : CD X [e, e2] md) (hs : starEach [e, e2] X.env = (false, eval e X.env) :: starEach [e2] X.env := by rfl) (hpl : (backTo pos (starEach [e2] X.env)).any (·.1) = false := by rfl) : CI X (.Tuple elts kk tpos) (.Call (.Name "zip" p) [e, e2] [] pos) (mZip md) :=
  pi_imp (RZ.pi_zipA hg hm ha hs hpl) fun σ H R ⟨Z, ρ, ds, ρ', fr, e, k⟩ => by
    obtain ⟨⟨r1, ρ1⟩, e1, e⟩ := bnd e
    try simp only at e
    split at e
    · cases e
      refine ⟨Z, ρ, _, _, fr, e1, fun Z1 H1 vs g1 h1 => ?_⟩
      obtain ⟨v, v', rfl, h3, h2⟩ := rds2 h1
      simp only [RD] at h3 h2
      obtain ⟨a, vs, rfl, hz, hq, rd⟩ := h3
      obtain ⟨b, ws, rfl, hz', hq', rd'⟩ := h2
      exact ⟨a, b, vs, ws, rfl, .inl ⟨.of hq, .of hq', k Z1 H1 _ g1 (walkd_zip rfl (walk_zip rfl) (fun Z2 H2 ks => ⟨.of (ks.ls a _ hz hq), .of (ks.ls b _ hz' hq')⟩) rd rd')⟩⟩
    · cases e
      refine ⟨Z, ρ, _, _, fr, e1, fun Z1 H1 vs g1 h1 => ?_⟩
      obtain ⟨v, v', rfl, h3, h2⟩ := rds2 h1
      simp only [RD] at h3 h2
      obtain ⟨a, vs, rfl, hq, rd⟩ := h3
      obtain ⟨b, ws, rfl, hq', rd'⟩ := h2
      exact ⟨a, b, vs, ws, rfl, .inr ⟨hq.sq, hq'.sq, k Z1 H1 _ g1 (walkd_zip rfl (walk_zipT (K := X.KW) rfl) (fun Z2 H2 ks => ⟨(ks.tp a _ hq).sq, (ks.tp b _ hq').sq⟩) rd rd')⟩⟩
    · cases e

/-! ### for -/
def forL (g : MG) (body : MS) : List D → Rho → Option (Fl × Rho)
  | [], ρ => some (.nx, ρ)
  | d :: ds, ρ => (g d ρ).bind fun ρ1 => (body ρ1).bind fun q => match q.1 with
    | .nx => forL g body ds q.2
    | .ct => forL g body ds q.2
    | .bk => some (.nx, q.2)
    | .rt r => some (.rt r, q.2)
def mFor (mi : MI) (g : MG) (body : MS) : MS := fun ρ => (mi ρ).bind fun p => forL g body p.1 p.2
theorem drop_cons {α : Type} {ds : List α} {i : Nat} {d : α} (h : ds[i]? = some d) : ds.drop i = d :: ds.drop (i + 1) := by
  obtain ⟨hl, e⟩ := List.getElem?_eq_some_iff.mp h
  rw [List.drop_eq_getElem_cons hl, e]
theorem cs_for {iter : Expr} {body : List Stmt} {mi : MI} {g : MG} {mb : MS} {js : List Nat} (hp : PassesOwn (model X.prog X.w) X.A X.env X.xe) (hc : X.calm = true) (hi : CI X tg iter mi) (hg : CG X js tg g) (hb : CSs X body mb)
    (hs : ∀ x, foldedSetIterable iter X.env x = pure x := by intro _; rfl) : CS X (.For tg iter body [] pos) (mFor mi g mb) :=
  ps_imp (ps_for hp hc hi hg hb hs) fun Dn σ H ⟨Z, ρ, fl, ρ', fr, e, k⟩ => by
    obtain ⟨⟨ds, ρ1⟩, e1, e⟩ := bnd e
    refine ⟨Z, ρ, ds, ρ1, fr, e1, fun Z1 H1 J g1 wd => ?_⟩
    obtain ⟨G, Y, w, hG, hY⟩ := wd.ex
    refine for_it w (fun i σ2 H2 => ∃ Z2 ρ2, Go X.KW Z1 H1 ρ1 σ Z2 H2 ρ2 σ2 ∧ forL g mb (ds.drop i) ρ2 = some (fl, ρ')) ⟨Z1, ρ1, .refl g1.fr, by rw [List.drop_zero]; exact e⟩ (fun i σ2 H2 _ ⟨Z2, ρ2, g2, _⟩ => hG Z2 H2 (g2.ks g1.fr)) (fun i x σ2 H2 H3 hi ⟨Z2, ρ2, g2, e2⟩ y => ?_) fun σ2 H2 ⟨Z2, ρ2, g2, e2⟩ => ?_
    · obtain ⟨d, Z3, hd, n3, rd⟩ := hY Z2 H2 i x H3 (g2.ks g1.fr) hi y
      rw [drop_cons hd] at e2
      obtain ⟨ρ3, e3, e2⟩ := bnd e2
      obtain ⟨⟨f4, ρ4⟩, e4, e2⟩ := bnd e2
      have g3 := g2.trans (n3.go g2.fr)
      refine ⟨Z3, ρ2, d, ρ3, g3.fr, rd, e3, fun Z4 H4 σ4 g4 _ => ⟨Z4, ρ3, f4, ρ4, g4.fr, e4, fun Z5 H5 σ5 g5 => ?_⟩⟩
      have ga := (g3.trans g4).trans g5
      cases f4 with
      | nx => exact ⟨Z5, ρ4, ga, e2⟩
      | ct => exact ⟨Z5, ρ4, ga, e2⟩
      | bk => cases e2; exact k Z5 H5 σ5 (g1.trans ga)
      | rt r => cases e2; exact fun v hv => k Z5 H5 σ5 (g1.trans ga) v (hv.at0 (g1.trans (g3.trans g4)))
    · rw [List.drop_length] at e2
      cases e2
      exact k Z2 H2 σ2 (g1.trans g2)
/-! ### while -/
def whileN (c : MT) (body : MS) : Nat → MS
  | 0, _ => none
  | n + 1, ρ => (c ρ).bind fun p => if p.1 = true then (body p.2).bind fun q => match q.1 with
      | .nx => whileN c body n q.2
      | .ct => whileN c body n q.2
      | .bk => some (.nx, q.2)
      | .rt r => some (.rt r, q.2)
    else some (.nx, p.2)
theorem cs_while {c : Expr} {body : List Stmt} {mt : MT} {mb : MS} {n : Nat} (hp : PassesOwn (model X.prog X.w) X.A X.env X.xe) (hc : CT X c mt) (hb : CSs X body mb) : CS X (.While c body [] pos) (whileN mt mb n) :=
  ps_imp (ps_while hp hc hb) fun Dn σ H ⟨Z, ρ, fl, ρ', fr, e, k⟩ => by
    refine ⟨fun m σ2 H2 => ∃ Z2 ρ2, Go X.KW Z H ρ σ Z2 H2 ρ2 σ2 ∧ whileN mt mb m ρ2 = some (fl, ρ'), ⟨n, Z, ρ, .refl fr, e⟩, ?_⟩
    rintro m σ2 H2 ⟨Z2, ρ2, g2, e2⟩
    cases m with
    | zero => cases e2
    | succ m =>
      obtain ⟨⟨b3, ρ3⟩, e3, e2⟩ := bnd e2
      refine ⟨Z2, ρ2, b3, ρ3, g2.fr, e3, fun Z3 H3 g3 => ?_⟩
      simp only at e2
      split at e2
      · rename_i hk
        rw [if_pos hk]
        obtain ⟨⟨f4, ρ4⟩, e4, e2⟩ := bnd e2
        refine ⟨fun σ' H' => ∃ Z' ρ'', Go X.KW Z H ρ σ Z' H' ρ'' σ' ∧ whileN mt mb m ρ'' = some (fl, ρ'), fun σ' H' h => ⟨m, Nat.lt_succ_self m, h⟩, Z3, ρ3, f4, ρ4, g3.fr, e4, fun Z5 H5 σ5 g5 => ?_⟩
        have ga := (g2.trans g3).trans g5
        cases f4 with
        | nx => exact ⟨Z5, ρ4, ga, e2⟩
        | ct => exact ⟨Z5, ρ4, ga, e2⟩
        | bk => cases e2; exact k Z5 H5 σ5 ga
        | rt r => cases e2; exact fun v hv => k Z5 H5 σ5 ga v (hv.at0 (g2.trans g3))
      · rename_i hk
        rw [if_neg hk]
        cases e2
        exact k Z3 H3 σ2 (g2.trans g3)
end
end Zl
end

-- ZComp
section
namespace Zl
open PySem PySem.Spec PyProof.Rows L2

def wipeR (ρ : Rho) : List Nat → Rho
  | [] => ρ
  | i :: r => (wipeR ρ r).set i .no
def resto (ρ0 ρ : Rho) : List Nat → Rho
  | [] => ρ
  | i :: r => (resto ρ0 ρ r).set i ((ρ0[i]?).getD .no)
def okW (ρ : Rho) (vs : List Nat) : Bool := vs.all fun i => match ρ[i]? with
  | some (Sl.own _ _) => false
  | _ => true
section
variable {K : KW} {Z Z0 Z1 Z2 Z' : AS} {H H0 H1 H2 H' : Hp} {ρ ρ0 ρ1 ρ2 ρ' : Rho} {σ σ0 σ1 σ2 σ' : St}
theorem wipeR_len : ∀ vs, (wipeR ρ vs).length = ρ.length
  | [] => rfl
  | i :: r => by unfold wipeR; rw [List.length_set, wipeR_len r]
theorem wipeR_get0 {s : Sl} {j : Nat} (hs : s ≠ .no) : ∀ {vs}, (wipeR ρ vs)[j]? = some s → j ∉ vs ∧ ρ[j]? = some s
  | [], h => ⟨by simp, h⟩
  | i :: r, h => by
    unfold wipeR at h
    rcases set_get h with ⟨_, e, _⟩ | ⟨n, h⟩
    · exact (hs e).elim
    · obtain ⟨h1, h2⟩ := wipeR_get0 hs h
      exact ⟨by simp only [List.mem_cons, not_or]; exact ⟨n, h1⟩, h2⟩
theorem wipeR_get {vs : List Nat} {s : Sl} {j : Nat} (h : (wipeR ρ vs)[j]? = some s) (hs : s ≠ .no := by intro z; cases z) : j ∉ vs ∧ ρ[j]? = some s := wipeR_get0 hs h
theorem wipe_get : ∀ {vs : List Nat} {j : Nat}, j ∉ vs → (wipe σ vs)[j]? = σ[j]?
  | [], _, _ => rfl
  | i :: r, j, h => by
    simp only [List.mem_cons, not_or] at h
    unfold wipe
    rw [List.getElem?_set_ne (Ne.symm h.1), wipe_get h.2]
theorem wipe_idem : ∀ {vs ws : List Nat}, (∀ i ∈ vs, i ∈ ws) → wipe (wipe σ ws) vs = wipe σ ws
  | [], _, _ => rfl
  | i :: r, ws, h => by
    show (wipe (wipe σ ws) r).set i none = wipe σ ws
    rw [wipe_idem (vs := r) fun j hj => h j (List.mem_cons_of_mem _ hj)]
    have hi := h i List.mem_cons_self
    apply List.ext_getElem?
    intro j
    by_cases e : i = j
    · subst e
      by_cases l : i < (wipe σ ws).length
      · rw [List.getElem?_set_self l]
        have : (wipe σ ws)[i]? = some none := by
          cases q : (wipe σ ws)[i]? with
          | none => rw [List.getElem?_eq_none_iff] at q; omega
          | some u =>
            cases u with
            | none => rfl
            | some x => exact ((wipe_some q).2 hi).elim
        rw [this]
      · rw [List.getElem?_eq_none (by rw [List.length_set]; omega), List.getElem?_eq_none (by omega)]
    · rw [List.getElem?_set_ne e]
theorem wipe_off {vs js : List Nat} (o : Off js σ σ') (h : ∀ i ∈ js, i ∈ vs) : wipe σ' vs = wipe σ vs := by
  induction vs generalizing js with
  | nil =>
    apply List.ext_getElem?
    intro j
    exact o.2 j fun z => by have := h j z; simp at this
  | cons i r ih =>
    apply List.ext_getElem?
    intro j
    by_cases e : j ∈ i :: r
    · have hl := o.1
      have g : ∀ σ : St, j < σ.length → (wipe σ (i :: r))[j]? = some none := fun τ hτ => by
        cases q : (wipe τ (i :: r))[j]? with
        | none => rw [List.getElem?_eq_none_iff, wipe_length] at q; omega
        | some u =>
          cases u with
          | none => rfl
          | some x => exact ((wipe_some q).2 e).elim
      by_cases l : j < σ.length
      · rw [g σ l, g σ' (by omega)]
      · rw [List.getElem?_eq_none (by rw [wipe_length]; omega), List.getElem?_eq_none (by rw [wipe_length]; omega)]
    · rw [wipe_get e, wipe_get e]
      exact o.2 j fun z => e (h j z)
theorem ow_wipe {vs : List Nat} {a : Addr} (w : Ow (wipeR ρ vs) (wipe σ vs) a) : Ow ρ σ a := by
  obtain ⟨j, b, o, q, e⟩ := w
  obtain ⟨h1, h2⟩ := wipeR_get q
  exact ⟨j, b, o, h2, (wipe_some e).1⟩
theorem Fr.wipe (f : Fr K Z H ρ σ) (vs : List Nat) : Fr K Z H (wipeR ρ vs) (wipe σ vs) where
  zl := f.zl
  len := by rw [wipeR_len, wipe_length]; exact f.len
  val := fun j d q => by
    obtain ⟨h1, h2⟩ := wipeR_get q
    rw [wipe_get h1]; exact f.val _ _ h2
  own := fun j b o q => by
    obtain ⟨h1, h2⟩ := wipeR_get q
    rw [wipe_get h1]; exact f.own _ _ _ h2
  scr := fun j ns q => by
    obtain ⟨h1, h2⟩ := wipeR_get q
    rw [wipe_get h1]; exact f.scr _ _ h2
  apart := fun j k b1 b2 o1 o2 a q1 q2 e1 e2 => by
    obtain ⟨_, p1⟩ := wipeR_get q1
    obtain ⟨_, p2⟩ := wipeR_get q2
    exact f.apart _ _ _ _ _ _ _ p1 p2 (wipe_some e1).1 (wipe_some e2).1
theorem Go.wipe (g : Go K Z0 H0 ρ0 σ0 Z H ρ σ) (vs : List Nat) : Go K Z0 H0 ρ0 σ0 Z H (wipeR ρ vs) (wipe σ vs) :=
  ⟨⟨g.st.keep, g.st.zm, g.st.zn, fun a w => g.st.wn a (ow_wipe w), g.st.gr⟩, g.fr.wipe vs, fun j o q => by
    obtain ⟨h1, h2⟩ := wipeR_get q
    rw [wipe_get h1]; exact g.par j o h2⟩
theorem resto_len : ∀ vs, (resto ρ0 ρ vs).length = ρ.length
  | [] => rfl
  | i :: r => by unfold resto; rw [List.length_set, resto_len r]
theorem resto_get0 {s : Sl} {j : Nat} (hs : s ≠ .no) : ∀ {vs}, (resto ρ0 ρ vs)[j]? = some s → (j ∈ vs ∧ ρ0[j]? = some s) ∨ (j ∉ vs ∧ ρ[j]? = some s)
  | [], h => .inr ⟨by simp, h⟩
  | i :: r, h => by
    unfold resto at h
    rcases set_get h with ⟨rfl, e, _⟩ | ⟨n, h⟩
    · left
      refine ⟨List.mem_cons_self, ?_⟩
      cases q : ρ0[j]? with
      | none => rw [q] at e; exact (hs e).elim
      | some u => rw [q] at e; rw [e]; rfl
    · rcases resto_get0 hs h with ⟨h1, h2⟩ | ⟨h1, h2⟩
      · exact .inl ⟨List.mem_cons_of_mem _ h1, h2⟩
      · exact .inr ⟨by simp only [List.mem_cons, not_or]; exact ⟨n, h1⟩, h2⟩
theorem resto_get {vs : List Nat} {s : Sl} {j : Nat} (h : (resto ρ0 ρ vs)[j]? = some s) (hs : s ≠ .no := by intro z; cases z) : (j ∈ vs ∧ ρ0[j]? = some s) ∨ (j ∉ vs ∧ ρ[j]? = some s) := resto_get0 hs h
theorem okW_not {vs : List Nat} {j : Nat} {b : Bool} {o : O} (ok : okW ρ vs = true) (hj : j ∈ vs) : ρ[j]? ≠ some (Sl.own b o) := fun e => by
  unfold okW at ok
  have := List.all_eq_true.mp ok j hj
  rw [e] at this
  cases this
/-- behind a comprehension: the block's own slots as they stood ahead of it -/
theorem Go.back {vs : List Nat} (f : Fr K Z H ρ σ) (ok : okW ρ vs = true) (g : Go K Z H (wipeR ρ vs) (L2.wipe σ vs) Z' H' ρ' (L2.wipe σ vs)) : Go K Z H ρ σ Z' H' (resto ρ ρ' vs) σ := by
  have gw : Go K Z H ρ σ Z H (wipeR ρ vs) (L2.wipe σ vs) := (Go.refl f).wipe vs
  have kp := Go.ks (f.wipe vs) g
  have ow : ∀ {a}, Ow (resto ρ ρ' vs) σ a → Ow ρ' (L2.wipe σ vs) a := fun {a} ⟨j, b, o, q, e⟩ => by
    rcases resto_get q with ⟨h1, h2⟩ | ⟨h1, h2⟩
    · exact (okW_not ok h1 h2).elim
    · exact ⟨j, b, o, h2, by rw [wipe_get h1]; exact e⟩
  refine ⟨⟨fun a o h w => g.st.keep a o h fun w' => w (ow_wipe w'), g.st.zm, fun a z => ?_, fun a w => ?_, g.st.gr⟩, ⟨g.fr.zl, ?_, fun j d q => ?_, fun j b o q => ?_, fun j ns q => ?_, fun j k b1 b2 o1 o2 a q1 q2 e1 e2 => ?_⟩, fun j o q => ?_⟩
  · rcases g.st.zn a z with z | z | z
    · exact .inl z
    · exact .inr (.inl z)
    · exact .inr (.inr (ow_wipe z))
  · rcases g.st.wn a (ow w) with z | z
    · exact .inl (ow_wipe z)
    · exact .inr z
  · have h1 := f.len
    have h2 := g.fr.len
    rw [wipe_length] at h2
    rw [resto_len, h2]
  · rcases resto_get q with ⟨h1, h2⟩ | ⟨h1, h2⟩
    · obtain ⟨v, e, rd⟩ := f.val _ _ h2
      exact ⟨v, e, RD.mono kp.zm kp.ls kp.tp _ _ rd⟩
    · obtain ⟨v, e, rd⟩ := g.fr.val _ _ h2
      rw [wipe_get h1] at e
      exact ⟨v, e, rd⟩
  · rcases resto_get q with ⟨h1, h2⟩ | ⟨h1, h2⟩
    · exact (okW_not ok h1 h2).elim
    · obtain ⟨v, e, rd⟩ := g.fr.own _ _ _ h2
      rw [wipe_get h1] at e
      exact ⟨v, e, rd⟩
  · rcases resto_get q with ⟨h1, h2⟩ | ⟨h1, h2⟩
    · obtain ⟨a, e, sc⟩ := f.scr _ _ h2
      exact ⟨a, e, sc.keep fun o q => kp.fz a o _ q⟩
    · obtain ⟨v, e, rd⟩ := g.fr.scr _ _ h2
      rw [wipe_get h1] at e
      exact ⟨v, e, rd⟩
  · rcases resto_get q1 with ⟨h1, h2⟩ | ⟨h1, h2⟩
    · exact (okW_not ok h1 h2).elim
    rcases resto_get q2 with ⟨h3, h4⟩ | ⟨h3, h4⟩
    · exact (okW_not ok h3 h4).elim
    exact g.fr.apart _ _ _ _ _ _ _ h2 h4 (by rw [wipe_get h1]; exact e1) (by rw [wipe_get h3]; exact e2)
  · rcases resto_get q with ⟨h1, h2⟩ | ⟨h1, h2⟩
    · exact (okW_not ok h1 h2).elim
    · obtain ⟨⟨o1, q1⟩, e1⟩ := g.par j o h2
      exact ⟨⟨o1, (wipeR_get q1).2⟩, rfl⟩
/-- an object that nobody leans on is changed -/
theorem Fr.side {D : Addr} {u : HO} (f : Fr K Z H ρ σ) (nz : ¬ Z D) (nw : ¬ Ow ρ σ D) (h : ∃ xs, H D = some (.lst xs)) : Fr K Z (upd H D u) ρ σ := by
  obtain ⟨xs, h⟩ := h
  have tp : ∀ a ys, TQ K H a ys → TQ K (upd H D u) a ys := fun a ys q => TQ.upd q fun o e => by rw [e] at h; cases h
  have ls : ∀ a o, Z a → H a = some o → (upd H D u) a = some o := fun a o z e => by rw [upd_ne (fun z' => by subst z'; exact nz z)]; exact e
  refine ⟨fun a z e => ?_, f.len, fun j d q => let ⟨v, e, r⟩ := f.val _ _ q; ⟨v, e, RD.mono (fun _ z => z) ls tp _ _ r⟩, fun j b o q => ?_, fun j ns q => ?_, f.apart⟩
  · rw [upd_ne (fun z' => by subst z'; exact nz z)] at e; exact f.zl a z e
  · obtain ⟨a, e, nz', ro⟩ := f.own _ _ _ q
    have hne : a ≠ D := fun z => by subst z; exact nw ⟨_, _, _, q, e⟩
    refine ⟨a, e, nz', ?_⟩
    cases o with
    | lst ds => obtain ⟨vs, q, r⟩ := ro; exact ⟨vs, by rw [upd_ne hne]; exact q, RDs.mono (fun _ z => z) ls tp _ _ r⟩
    | dct ds => obtain ⟨vs, q, r⟩ := ro; exact ⟨vs, by rw [upd_ne hne]; exact q, RDk.mono (fun _ z => z) ls tp _ _ r⟩
    | dtp ds => obtain ⟨vs, q, r⟩ := ro; exact ⟨vs, by rw [upd_ne hne]; exact q, RDt.mono (fun _ z => z) ls tp _ _ r.1, r.2⟩
  · obtain ⟨a, e, sc⟩ := f.scr _ _ q
    exact ⟨a, e, sc.keep fun o q => by rw [upd_ne (fun z => by subst z; rw [h] at q; cases q)]; exact q⟩
theorem Go.side {D : Addr} {u : HO} (g : Go K Z0 H0 ρ0 σ0 Z H ρ σ) (nz : ¬ Z D) (nw : ¬ Ow ρ σ D) (h : ∃ xs, H D = some (.lst xs)) (h0 : H0 D = none) : Go K Z0 H0 ρ0 σ0 Z (upd H D u) ρ σ :=
  ⟨⟨fun a o e w => by rw [upd_ne (ne_of_none e h0)]; exact g.st.keep a o e w, g.st.zm, g.st.zn, g.st.wn, fun a e => by
    by_cases z : a = D
    · subst z; exact h0
    · rw [upd_ne z] at e; exact g.st.gr a e⟩, g.fr.side nz nw h, g.par⟩
theorem rds_side {D : Addr} {u : HO} {ds : List Zl.D} {vs : List V} (nz : ¬ Z D) (h : ∃ xs, H D = some (.lst xs)) (r : RDs K Z H ds vs) : RDs K Z (upd H D u) ds vs := by
  obtain ⟨xs, h⟩ := h
  refine RDs.mono (fun _ z => z) (fun a o z e => by rw [upd_ne (fun z' => by subst z'; exact nz z)]; exact e) (fun a ys q => ?_) _ _ r
  exact TQ.upd q fun o e => by rw [e] at h; cases h
end

/-! ### list comprehensions -/
def PTsC (X : Cx) (ifs : List Expr) (m : MT) : Prop := PTs X ifs (tT X.KW m)
def mYes : MT := fun ρ => some (true, ρ)
theorem cts_nil {X : Cx} : PTsC X [] mYes := ⟨fun pins s σ H Q I hw => pts_nil.run pins s σ H Q I (by
  obtain ⟨Z, ρ, b, ρ', fr, e, k⟩ := hw
  cases e
  exact k Z H (.refl fr))⟩
theorem cts_one {X : Cx} {c : Expr} {m : MT} (h : CT X c m) : PTsC X [c] m := pts_one h
def lcL (vs : List Nat) (g : MG) (mt : MT) (me : ME) : List D → Rho → List D → Option (List D × Rho)
  | [], ρ, acc => some (acc, ρ)
  | d :: ds, ρ, acc => (g d ρ).bind fun ρ1 => (mt ρ1).bind fun p => if p.1 = true then (me p.2).bind fun q => (fz q.2 q.1).bind fun w => if acc.length < sizeLine then lcL vs g mt me ds (wipeR w.2 vs) (acc ++ [w.1]) else none
    else lcL vs g mt me ds (wipeR p.2 vs) acc
def mLc (vs : List Nat) (mi : MI) (g : MG) (mt : MT) (me : ME) : ME := fun ρ => (mi ρ).bind fun p => if okW p.2 vs = true then (lcL vs g mt me p.1 (wipeR p.2 vs) []).bind fun q => some (.own (.lst q.1), resto p.2 q.2 vs) else none
/-- a turn's end: the item is laid at the end of D -/
theorem turn_end {K : KW} {Z1 Z2 Z4 : AS} {H1 H2 H4 : Hp} {ρ1 ρ4 : Rho} {σ1 σ3 : St} {Dd : Addr} {acc : List D} {va : List V} {d : D} {v : V} {ρ2 : Rho} {σ2 : St}
    (n1 : H1 Dd = none) (g2 : Go K Z1 H1 ρ1 σ1 Z2 H2 ρ2 σ2) (hD : H2 Dd = some (.lst va)) (nz : ¬ Z2 Dd) (nw : ¬ Ow ρ2 σ2 Dd) (ra : RDs K Z2 H2 acc va) (g4 : Go K Z2 H2 ρ2 σ2 Z4 H4 ρ4 σ3) (rd : RD K Z4 H4 d v) :
    H4 Dd = some (.lst va) ∧ ¬ Z4 Dd ∧ ¬ Ow ρ4 σ3 Dd ∧ Go K Z1 H1 ρ1 σ1 Z4 (upd H4 Dd (.lst (va ++ [v]))) ρ4 σ3 ∧ RDs K Z4 (upd H4 Dd (.lst (va ++ [v]))) (acc ++ [d]) (va ++ [v]) := by
  have h4 : H4 Dd = some (.lst va) := g4.st.keep _ _ hD nw
  have nz4 : ¬ Z4 Dd := fun z => by
    rcases g4.st.zn _ z with z | z | z
    · exact nz z
    · rw [hD] at z; cases z
    · exact nw z
  have nw4 : ¬ Ow ρ4 σ3 Dd := fun w => by
    rcases g4.st.wn _ w with z | z
    · exact nw z
    · rw [hD] at z; cases z
  exact ⟨h4, nz4, nw4, (g2.trans g4).side nz4 nw4 ⟨_, h4⟩ n1, rds_side nz4 ⟨_, h4⟩ (rds_app (g2.fr.rds g4.st ra) (rds_cons rd rds_nil))⟩
section
variable {X : Cx} {elt tg iter : Expr} {ifs : List Expr} {scope : Scope} {own : List (Str × Nat)} {pos : Pos} {mi : MI} {g : MG} {mt : MT} {me : ME} {js : List Nat}
theorem tE_Lc {K : KW} {tb : Bool} {vs : List Nat} (hj : ∀ i ∈ js, i ∈ vs) : ∀ σ H Q, tE K (mLc vs mi g mt me) σ H Q → tLc (tI K tb mi) (tG K tb js g) (tT K mt) (tE K me) vs σ H Q := fun σ H Q ⟨Z, ρ, r, ρ', fr, e, k⟩ => by
  obtain ⟨⟨ds, ρ1⟩, e1, e⟩ := bnd e
  split at e
  · rename_i ok
    obtain ⟨⟨out, ρ2⟩, e2, e⟩ := bnd e
    cases e
    refine ⟨Z, ρ, ds, ρ1, fr, e1, fun Z1 H1 J g1 wd Dd hDd => ?_⟩
    obtain ⟨G, Y, w, hG, hY⟩ := wd.ex
    have nz1 : ¬ Z1 Dd := fun z => g1.fr.zl _ z hDd
    have nw1 : ¬ Ow ρ1 σ Dd := fun w => g1.fr.live w hDd
    have f1 := g1.fr.wipe vs
    have n0 : Nw Z1 H1 Z1 (upd H1 Dd (.lst [])) := .upd hDd
    have g0 := n0.go f1
    have ks1 : ∀ {Z2 H2 ρ2 σ2}, Go K Z1 H1 (wipeR ρ1 vs) (L2.wipe σ vs) Z2 H2 ρ2 σ2 → Ks K Z1 H1 Z2 H2 := fun g => Go.ks f1 g
    refine lc_it w (fun i H2 => ∃ Z2 ρ2' acc va, Go K Z1 H1 (wipeR ρ1 vs) (L2.wipe σ vs) Z2 H2 ρ2' (L2.wipe σ vs) ∧ H2 Dd = some (.lst va) ∧ ¬ Z2 Dd ∧ ¬ Ow ρ2' (L2.wipe σ vs) Dd ∧ RDs K Z2 H2 acc va ∧ lcL vs g mt me (ds.drop i) ρ2' acc = some (out, ρ2))
      ⟨Z1, _, [], [], g0, upd_same, nz1, fun w => nw1 (ow_wipe w), rds_nil, by rw [List.drop_zero]; exact e2⟩ (fun i H2 _ ⟨Z2, ρ2', acc, va, g2, _⟩ => hG Z2 H2 (ks1 g2)) (fun i x H2 H3 hi ⟨Z2, ρ2', acc, va, g2, hD, nz, nw, ra, e3⟩ y => ?_) fun H2 ⟨Z2, ρ2', acc, va, g2, hD, nz, nw, ra, e3⟩ => ?_
    · obtain ⟨d, Z3, hd, n3, rd⟩ := hY Z2 H2 i x H3 (ks1 g2) hi y
      rw [drop_cons hd] at e3
      obtain ⟨ρ4, e4, e3⟩ := bnd e3
      obtain ⟨⟨b, ρ5⟩, e5, e3⟩ := bnd e3
      have g3 := n3.go g2.fr
      refine ⟨Z3, ρ2', d, ρ4, g3.fr, rd, e4, fun Z4 H4 σ4 g4 o4 => ?_⟩
      have hw : L2.wipe σ4 vs = L2.wipe (L2.wipe σ vs) vs := wipe_off o4 hj
      rw [wipe_idem fun i hi => hi] at hw
      refine ⟨hw, Z4, ρ4, b, ρ5, g4.fr, e5, fun Z5 H5 g5 => ?_⟩
      have g25 := (g3.trans g4).trans g5
      try simp only at e3
      cases b with
      | true =>
        rw [if_pos rfl] at e3
        refine iteT ?_
        obtain ⟨⟨r6, ρ6⟩, e6, e3⟩ := bnd e3
        obtain ⟨⟨d7, ρ7⟩, e7, e3⟩ := bnd e3
        refine ⟨Z5, ρ5, r6, ρ6, g5.fr, e6, fun Z6 H6 v6 g6 h6 => ?_⟩
        obtain ⟨Z7, _, g7, rd7⟩ := fz_ok g6 h6 e7
        try simp only at e3
        split at e3
        · rename_i hlen
          obtain ⟨h7, nz7, nw7, ga, ra7⟩ := turn_end hDd g2 hD nz nw ra (g25.trans g7) rd7
          refine ⟨va, h7, by rw [rds_len ra]; exact hlen, Z7, wipeR ρ7 vs, acc ++ [d7], va ++ [v6], ?_, upd_same, nz7, ?_, ra7, e3⟩
          · have := ga.wipe vs; rw [hw] at this; exact this
          · rw [← hw]; exact fun w => nw7 (ow_wipe w)
        · cases e3
      | false =>
        rw [if_neg Bool.false_ne_true] at e3
        refine iteF ?_
        refine ⟨Z5, wipeR ρ5 vs, acc, va, ?_, g25.st.keep _ _ hD nw, fun z => ?_, ?_, g2.fr.rds g25.st ra, e3⟩
        · have := (g2.trans g25).wipe vs; rw [hw] at this; exact this
        · rcases g25.st.zn _ z with z | z | z
          · exact nz z
          · rw [hD] at z; cases z
          · exact nw z
        · rw [← hw]
          exact fun w => by
            rcases g25.st.wn _ (ow_wipe w) with z | z
            · exact nw z
            · rw [hD] at z; cases z
    · rw [List.drop_length] at e3
      cases e3
      have gb := Go.back g1.fr ok g2
      have ga := g1.trans gb
      exact k Z2 H2 _ ga ⟨Dd, rfl, nz, fun w => by
        obtain ⟨j, b, o, q, e⟩ := w
        rcases resto_get q with ⟨h1, h2⟩ | ⟨h1, h2⟩
        · exact okW_not ok h1 h2
        · exact nw ⟨j, b, o, h2, by rw [wipe_get h1]; exact e⟩, ⟨va, hD, ra⟩, g1.st.gr _ hDd⟩
  · cases e

theorem ce_lc (hc : X.calm = true) (hN : X.N.Nodup) (hi : CI X tg iter mi) (ok : BlkOk X.N X.env.scope scope own) (hj : ∀ i ∈ js, i ∈ own.map (·.2))
    (hg : ∀ (s : Shared) (H : Hp) (C : Addr) (cl : List (Str × Addr)) (fp : List Addr), CG (X.blk s H scope (compEnvC scope cl C X.env) fp) js tg g) (ht : ∀ (s : Shared) (H : Hp) (C : Addr) (cl : List (Str × Addr)) (fp : List Addr), PTsC (X.blk s H scope (compEnvC scope cl C X.env) fp) ifs mt)
    (he : ∀ (s : Shared) (H : Hp) (C : Addr) (cl : List (Str × Addr)) (fp : List Addr), CE (X.blk s H scope (compEnvC scope cl C X.env) fp) elt me) (hs : ∀ x, foldedSetIterable iter X.env x = pure x := by intro _; rfl) :
    CE X (.ListComp elt [⟨tg, iter, ifs, 0⟩] scope pos) (mLc (own.map (·.2)) mi g mt me) :=
  pe_imp (pe_lc (g := tG X.KW (isTup tg) js g) (tt := tT X.KW mt) (te := tE X.KW me) hc hN hi ok hg ht he hs) (tE_Lc hj)
theorem cs_setLc {i : Nat} {y : Str} {py spos : Pos} (hc : X.calm = true) (hN : X.N.Nodup) (hy : X.N[i]? = some y) (hyl : X.env.scope.names.lookup y = some .local)
    (hsw : swapsWith (.ListComp elt [⟨tg, iter, ifs, 0⟩] scope pos) (some (.Name y py)) spos.line X.env = pure true) (hi : CI X tg iter mi) (ok : BlkOk X.N X.env.scope scope own) (hj : ∀ i ∈ js, i ∈ own.map (·.2))
    (hg : ∀ (s : Shared) (H : Hp) (C : Addr) (cl : List (Str × Addr)) (fp : List Addr), CG (X.blk s H scope (compEnvC scope cl C X.env) fp) js tg g) (ht : ∀ (s : Shared) (H : Hp) (C : Addr) (cl : List (Str × Addr)) (fp : List Addr), PTsC (X.blk s H scope (compEnvC scope cl C X.env) fp) ifs mt)
    (he : ∀ (s : Shared) (H : Hp) (C : Addr) (cl : List (Str × Addr)) (fp : List Addr), CE (X.blk s H scope (compEnvC scope cl C X.env) fp) elt me) (hs : ∀ x, foldedSetIterable iter X.env x = pure x := by intro _; rfl) :
    CS X (.Assign [.Name y py] (.ListComp elt [⟨tg, iter, ifs, 0⟩] scope pos) spos) (mSet i (mLc (own.map (·.2)) mi g mt me)) :=
  ps_imp (ps_setLc (g := tG X.KW (isTup tg) js g) (tt := tT X.KW mt) (te := tE X.KW me) hc hN hy hyl hsw hi ok hg ht he hs) fun D σ H h => by
    obtain ⟨Z, ρ, r, ρ', fr, e, k⟩ := tS_set D σ H h
    exact tE_Lc hj σ H _ ⟨Z, ρ, r, ρ', fr, e, k⟩
/-! two clauses -/
def lcL2 (vs vs1 : List Nat) (g : MG) (mt : MT) (mi1 : MI) (g1 : MG) (mt1 : MT) (me : ME) : List D → Rho → List D → Option (List D × Rho)
  | [], ρ, acc => some (acc, ρ)
  | d :: ds, ρ, acc => (g d ρ).bind fun ρ1 => (mt ρ1).bind fun p => if p.1 = true then (mi1 p.2).bind fun q => if okW q.2 vs1 = true then (lcL vs1 g1 mt1 me q.1 (wipeR q.2 vs1) acc).bind fun w => lcL2 vs vs1 g mt mi1 g1 mt1 me ds (wipeR w.2 vs) w.1 else none
    else lcL2 vs vs1 g mt mi1 g1 mt1 me ds (wipeR p.2 vs) acc
def mLc2 (vs vs1 : List Nat) (mi : MI) (g : MG) (mt : MT) (mi1 : MI) (g1 : MG) (mt1 : MT) (me : ME) : ME := fun ρ => (mi ρ).bind fun p => if okW p.2 vs = true then (lcL2 vs vs1 g mt mi1 g1 mt1 me p.1 (wipeR p.2 vs) []).bind fun q => some (.own (.lst q.1), resto p.2 q.2 vs) else none
variable {tg1 iter1 : Expr} {ifs1 : List Expr} {mi1 : MI} {g1 : MG} {mt1 : MT} {js1 : List Nat}
theorem wipe_wipe {σ : St} {vs ws : List Nat} (h : ∀ i ∈ ws, i ∈ vs) : L2.wipe (L2.wipe σ ws) vs = L2.wipe σ vs := by
  apply List.ext_getElem?
  intro j
  by_cases e : j ∈ vs
  · have g : ∀ τ : St, τ.length = σ.length → j < σ.length → (L2.wipe τ vs)[j]? = some none := fun τ ht hτ => by
      cases q : (L2.wipe τ vs)[j]? with
      | none => rw [List.getElem?_eq_none_iff, wipe_length] at q; omega
      | some u =>
        cases u with
        | none => rfl
        | some x => exact ((wipe_some q).2 e).elim
    by_cases l : j < σ.length
    · rw [g σ rfl l, g _ (wipe_length _ _) l]
    · rw [List.getElem?_eq_none (by rw [wipe_length, wipe_length]; omega), List.getElem?_eq_none (by rw [wipe_length]; omega)]
  · rw [wipe_get e, wipe_get e, wipe_get fun z => e (h j z)]
theorem tE_Lc2 {K : KW} {tb tb1 : Bool} {vs vs1 : List Nat} (hj : ∀ i ∈ js, i ∈ vs) (hj1 : ∀ i ∈ js1, i ∈ vs1) (hv : ∀ i ∈ vs1, i ∈ vs) : ∀ σ H Q, tE K (mLc2 vs vs1 mi g mt mi1 g1 mt1 me) σ H Q → tLc2 (tI K tb mi) (tG K tb js g) (tT K mt) (tI K tb1 mi1) (tG K tb1 js1 g1) (tT K mt1) (tE K me) vs vs1 σ H Q := fun σ H Q ⟨Z, ρ, r, ρ', fr, e, k⟩ => by
  obtain ⟨⟨ds, ρ1⟩, e1, e⟩ := bnd e
  split at e
  · rename_i ok
    obtain ⟨⟨out, ρ2⟩, e2, e⟩ := bnd e
    cases e
    refine ⟨Z, ρ, ds, ρ1, fr, e1, fun Z1 H1 J g1' wd Dd hDd => ?_⟩
    obtain ⟨G, Y, w, hG, hY⟩ := wd.ex
    have nz1 : ¬ Z1 Dd := fun z => g1'.fr.zl _ z hDd
    have nw1 : ¬ Ow ρ1 σ Dd := fun w => g1'.fr.live w hDd
    have f1 := g1'.fr.wipe vs
    have n0 : Nw Z1 H1 Z1 (upd H1 Dd (.lst [])) := .upd hDd
    have g0 := n0.go f1
    have ks1 : ∀ {Z2 H2 ρ2 σ2}, Go K Z1 H1 (wipeR ρ1 vs) (L2.wipe σ vs) Z2 H2 ρ2 σ2 → Ks K Z1 H1 Z2 H2 := fun g => Go.ks f1 g
    let W : Nat → Nat → Hp → Prop := fun i m H2 => m = ds.length - i ∧ i ≤ ds.length ∧ ∃ Z2 ρ2' acc va, Go K Z1 H1 (wipeR ρ1 vs) (L2.wipe σ vs) Z2 H2 ρ2' (L2.wipe σ vs) ∧ H2 Dd = some (.lst va) ∧ ¬ Z2 Dd ∧ ¬ Ow ρ2' (L2.wipe σ vs) Dd ∧ RDs K Z2 H2 acc va ∧ lcL2 vs vs1 g mt mi1 g1 mt1 me (ds.drop i) ρ2' acc = some (out, ρ2)
    refine ⟨W, ⟨ds.length, by simp, Nat.zero_le _, Z1, _, [], [], g0, upd_same, nz1, fun w => nw1 (ow_wipe w), rds_nil, by rw [List.drop_zero]; exact e2⟩, ?_⟩
    rintro i m H2 ⟨rfl, hile, Z2, ρ2', acc, va, g2, hD, nz, nw, ra, e3⟩
    by_cases hi : i < ds.length
    · refine .inr ⟨w.goes i H2 hi (hG Z2 H2 (ks1 g2)), W (i + 1) (ds.length - (i + 1)), fun H' h => ⟨_, by omega, h⟩, fun x H3 y => ?_⟩
      have y := w.yields i H2 x H3 hi (hG Z2 H2 (ks1 g2)) y
      obtain ⟨d, Z3, hd, n3, rd⟩ := hY Z2 H2 i x H3 (ks1 g2) hi y
      rw [drop_cons hd] at e3
      obtain ⟨ρ4, e4, e3⟩ := bnd e3
      obtain ⟨⟨b, ρ5⟩, e5, e3⟩ := bnd e3
      have g3 := n3.go g2.fr
      refine ⟨Z3, ρ2', d, ρ4, g3.fr, rd, e4, fun Z4 H4 σ4 g4 o4 => ?_⟩
      have hw : L2.wipe σ4 vs = L2.wipe (L2.wipe σ vs) vs := wipe_off o4 hj
      rw [wipe_idem fun i hi => hi] at hw
      refine ⟨hw, Z4, ρ4, b, ρ5, g4.fr, e5, fun Z5 H5 g5 => ?_⟩
      have g25 := (g3.trans g4).trans g5
      have keepD : ∀ {Z6 H6 ρ6 σ6}, Go K Z2 H2 ρ2' (L2.wipe σ vs) Z6 H6 ρ6 σ6 → H6 Dd = some (.lst va) ∧ ¬ Z6 Dd ∧ ¬ Ow ρ6 σ6 Dd ∧ RDs K Z6 H6 acc va := by
        intro Z6 H6 ρ6 σ6 g6
        refine ⟨g6.st.keep _ _ hD nw, fun z => ?_, fun w => ?_, g2.fr.rds g6.st ra⟩
        · rcases g6.st.zn _ z with z | z | z
          · exact nz z
          · rw [hD] at z; cases z
          · exact nw z
        · rcases g6.st.wn _ w with z | z
          · exact nw z
          · rw [hD] at z; cases z
      try simp only at e3
      cases b with
      | false =>
        rw [if_neg Bool.false_ne_true] at e3
        refine iteF ?_
        obtain ⟨h5, nz5, nw5, ra5⟩ := keepD g25
        refine ⟨rfl, by omega, Z5, wipeR ρ5 vs, acc, va, ?_, h5, nz5, ?_, ra5, e3⟩
        · have := (g2.trans g25).wipe vs; rw [hw] at this; exact this
        · rw [← hw]; exact fun w => nw5 (ow_wipe w)
      | true =>
        rw [if_pos rfl] at e3
        refine iteT ?_
        obtain ⟨⟨ds1, ρ6⟩, e6, e3⟩ := bnd e3
        split at e3
        · rename_i ok1
          obtain ⟨⟨acc', ρ7⟩, e7, e3⟩ := bnd e3
          refine ⟨Z5, ρ5, ds1, ρ6, g5.fr, e6, fun Z6 H6 J1 g6 wd1 => ?_⟩
          obtain ⟨G1, Y1, w1, hG1, hY1⟩ := wd1.ex
          have g26 := g25.trans g6
          have g16 := g2.trans g26
          obtain ⟨h6, nz6, nw6, ra6⟩ := keepD g26
          have f6 := g6.fr.wipe vs1
          have ks6 : ∀ {Z2 H2 ρ2 σ2}, Go K Z6 H6 (wipeR ρ6 vs1) (L2.wipe σ4 vs1) Z2 H2 ρ2 σ2 → Ks K Z6 H6 Z2 H2 → True := fun _ _ => trivial
          -- the state of the inner loop, from (Z1, H1)
          let V1 : Nat → Nat → Hp → Prop := fun j n H7 => n = ds1.length - j ∧ j ≤ ds1.length ∧ ∃ Z7 ρ7' acc7 va7, Go K Z1 H1 (wipeR ρ1 vs) (L2.wipe σ vs) Z7 H7 ρ7' (L2.wipe σ4 vs1) ∧ Ks K Z6 H6 Z7 H7 ∧ H7 Dd = some (.lst va7) ∧ ¬ Z7 Dd ∧ ¬ Ow ρ7' (L2.wipe σ4 vs1) Dd ∧ RDs K Z7 H7 acc7 va7 ∧ lcL vs1 g1 mt1 me (ds1.drop j) ρ7' acc7 = some (acc', ρ7)
          refine ⟨V1, ⟨ds1.length, by simp, Nat.zero_le _, Z6, _, acc, va, g16.wipe vs1, ⟨fun _ z => z, fun _ _ _ e => e, fun _ _ e => e, fun _ _ _ e => e⟩, h6, nz6, fun w => nw6 (ow_wipe w), ra6, by rw [List.drop_zero]; exact e7⟩, ?_⟩
          rintro j n H7 ⟨rfl, hjle, Z7, ρ7', acc7, va7, g7, ks7, hD7, nz7, nw7, ra7, e8⟩
          by_cases hj7 : j < ds1.length
          · refine .inr ⟨w1.goes j H7 hj7 (hG1 Z7 H7 ks7), V1 (j + 1) (ds1.length - (j + 1)), fun H' h => ⟨_, by omega, h⟩, fun x H8 y => ?_⟩
            have y := w1.yields j H7 x H8 hj7 (hG1 Z7 H7 ks7) y
            obtain ⟨d, Z8, hd, n8, rd⟩ := hY1 Z7 H7 j x H8 ks7 hj7 y
            rw [drop_cons hd] at e8
            obtain ⟨ρ9, e9, e8⟩ := bnd e8
            obtain ⟨⟨b, ρ10⟩, e10, e8⟩ := bnd e8
            have g8 := n8.go g7.fr
            refine ⟨Z8, ρ7', d, ρ9, g8.fr, rd, e9, fun Z9 H9 σ9 g9 o9 => ?_⟩
            have hw9 : L2.wipe σ9 vs1 = L2.wipe (L2.wipe σ4 vs1) vs1 := wipe_off o9 hj1
            rw [wipe_idem fun i hi => hi] at hw9
            refine ⟨hw9, Z9, ρ9, b, ρ10, g9.fr, e10, fun Z10 H10 g10 => ?_⟩
            have g710 := (g8.trans g9).trans g10
            have ksT : ∀ {Za Ha ρa σa Zb Hb ρb σb}, Fr K Za Ha ρa σa → Go K Za Ha ρa σa Zb Hb ρb σb → Ks K Z6 H6 Za Ha → Ks K Z6 H6 Zb Hb := fun fa gab ka =>
              have kb := Go.ks fa gab
              ⟨fun a z => kb.zm a (ka.zm a z), fun a o z e => kb.ls a o (ka.zm a z) (ka.ls a o z e), fun a xs e => kb.tp a xs (ka.tp a xs e), fun a o u e => kb.fz a o u (ka.fz a o u e)⟩
            try simp only at e8
            cases b with
            | false =>
              rw [if_neg Bool.false_ne_true] at e8
              refine iteF ?_
              refine ⟨rfl, by omega, Z10, wipeR ρ10 vs1, acc7, va7, ?_, ksT g7.fr g710 ks7, g710.st.keep _ _ hD7 nw7, fun z => ?_, ?_, g7.fr.rds g710.st ra7, e8⟩
              · have := (g7.trans g710).wipe vs1; rw [hw9] at this; exact this
              · rcases g710.st.zn _ z with z | z | z
                · exact nz7 z
                · rw [hD7] at z; cases z
                · exact nw7 z
              · rw [← hw9]
                exact fun w => by
                  rcases g710.st.wn _ (ow_wipe w) with z | z
                  · exact nw7 z
                  · rw [hD7] at z; cases z
            | true =>
              rw [if_pos rfl] at e8
              refine iteT ?_
              obtain ⟨⟨r11, ρ11⟩, e11, e8⟩ := bnd e8
              obtain ⟨⟨d12, ρ12⟩, e12, e8⟩ := bnd e8
              refine ⟨Z10, ρ10, r11, ρ11, g10.fr, e11, fun Z11 H11 v11 g11 h11 => ?_⟩
              obtain ⟨Z12, _, g12, rd12⟩ := fz_ok g11 h11 e12
              try simp only at e8
              split at e8
              · rename_i hlen
                obtain ⟨h13, nz13, nw13, ga, ra13⟩ := turn_end hDd g7 hD7 nz7 nw7 ra7 (g710.trans g12) rd12
                have k13 := ksT g7.fr (g710.trans g12) ks7
                refine ⟨va7, h13, by rw [rds_len ra7]; exact hlen, rfl, by omega, Z12, wipeR ρ12 vs1, acc7 ++ [d12], va7 ++ [v11], ?_, ⟨k13.zm, fun a o z e => ?_, fun a xs e => ?_, fun a o u e => ?_⟩, upd_same, nz13, ?_, ra13, e8⟩
                · have := ga.wipe vs1; rw [hw9] at this; exact this
                · rw [upd_ne (fun z' => by subst z'; exact nz13 (k13.zm _ z))]; exact k13.ls a o z e
                · have q := k13.tp a xs e
                  exact TQ.upd q fun o e => by rw [h13] at e; cases e
                · have q := k13.fz a o u e
                  rw [upd_ne (fun z => by subst z; rw [h13] at q; cases q)]; exact q
                · rw [← hw9]; exact fun w => nw13 (ow_wipe w)
              · cases e8
          · have ej : j = ds1.length := by omega
            subst ej
            rw [List.drop_length] at e8
            cases e8
            refine .inl ⟨w1.stops H7 (hG1 Z7 H7 ks7), rfl, by omega, Z7, wipeR ρ7 vs, _, va7, ?_, hD7, nz7, ?_, ra7, e3⟩
            · have := g7.wipe vs
              rw [wipe_wipe hv, hw] at this; exact this
            · rw [← hw, ← wipe_wipe hv]; exact fun w => nw7 (ow_wipe w)
        · cases e3
    · have ej : i = ds.length := by omega
      subst ej
      rw [List.drop_length] at e3
      cases e3
      have gb := Go.back g1'.fr ok g2
      have ga := g1'.trans gb
      exact .inl ⟨w.stops H2 (hG Z2 H2 (ks1 g2)), k Z2 H2 _ ga ⟨Dd, rfl, nz, fun w => by
        obtain ⟨j, b, o, q, e⟩ := w
        rcases resto_get q with ⟨h1, h2⟩ | ⟨h1, h2⟩
        · exact okW_not ok h1 h2
        · exact nw ⟨j, b, o, h2, by rw [wipe_get h1]; exact e⟩, ⟨va, hD, ra⟩, g1'.st.gr _ hDd⟩⟩
  · cases e
end
end Zl
end

-- ZCall
section
namespace Zl
open PySem PySem.Spec PyProof.Rows L2

section
variable {X : Cx} {elt tg iter tg1 iter1 : Expr} {ifs ifs1 : List Expr} {scope : Scope} {own : List (Str × Nat)} {pos : Pos} {mi mi1 : MI} {g g1 : MG} {mt mt1 : MT} {me : ME} {js js1 vs1 : List Nat}
theorem ce_lc2 (hc : X.calm = true) (hN : X.N.Nodup) (hi : CI X tg iter mi) (ok : BlkOk X.N X.env.scope scope own) (hv : ∀ i ∈ vs1, i ∈ own.map (·.2)) (hj : ∀ i ∈ js, i ∈ own.map (·.2)) (hj1 : ∀ i ∈ js1, i ∈ vs1)
    (hg : ∀ (s : Shared) (H : Hp) (C : Addr) (cl : List (Str × Addr)) (fp : List Addr), CG (X.blk s H scope (compEnvC scope cl C X.env) fp) js tg g) (ht : ∀ (s : Shared) (H : Hp) (C : Addr) (cl : List (Str × Addr)) (fp : List Addr), PTsC (X.blk s H scope (compEnvC scope cl C X.env) fp) ifs mt)
    (hi1 : ∀ (s : Shared) (H : Hp) (C : Addr) (cl : List (Str × Addr)) (fp : List Addr), CI (X.blk s H scope (compEnvC scope cl C X.env) fp) tg1 iter1 mi1)
    (hg1 : ∀ (s : Shared) (H : Hp) (C : Addr) (cl : List (Str × Addr)) (fp : List Addr), CG (X.blk s H scope (compEnvC scope cl C X.env) fp) js1 tg1 g1) (ht1 : ∀ (s : Shared) (H : Hp) (C : Addr) (cl : List (Str × Addr)) (fp : List Addr), PTsC (X.blk s H scope (compEnvC scope cl C X.env) fp) ifs1 mt1)
    (he : ∀ (s : Shared) (H : Hp) (C : Addr) (cl : List (Str × Addr)) (fp : List Addr), CE (X.blk s H scope (compEnvC scope cl C X.env) fp) elt me) (hs : ∀ x, foldedSetIterable iter X.env x = pure x := by intro _; rfl) (hs1 : ∀ env x, foldedSetIterable iter1 env x = pure x := by intro _ _; rfl) :
    CE X (.ListComp elt [⟨tg, iter, ifs, 0⟩, ⟨tg1, iter1, ifs1, 0⟩] scope pos) (mLc2 (own.map (·.2)) vs1 mi g mt mi1 g1 mt1 me) :=
  pe_imp (pe_lc2 (g := tG X.KW (isTup tg) js g) (tt := tT X.KW mt) (wi1 := tI X.KW (isTup tg1) mi1) (g1 := tG X.KW (isTup tg1) js1 g1) (tt1 := tT X.KW mt1) (te := tE X.KW me) hc hN hi ok hv hg ht hi1 hg1 ht1 he hs hs1) (tE_Lc2 hj hj1 hv)
theorem cs_setLc2 {i : Nat} {y : Str} {py spos : Pos} (hc : X.calm = true) (hN : X.N.Nodup) (hy : X.N[i]? = some y) (hyl : X.env.scope.names.lookup y = some .local)
    (hsw : swapsWith (.ListComp elt [⟨tg, iter, ifs, 0⟩, ⟨tg1, iter1, ifs1, 0⟩] scope pos) (some (.Name y py)) spos.line X.env = pure true) (hi : CI X tg iter mi) (ok : BlkOk X.N X.env.scope scope own) (hv : ∀ i ∈ vs1, i ∈ own.map (·.2)) (hj : ∀ i ∈ js, i ∈ own.map (·.2)) (hj1 : ∀ i ∈ js1, i ∈ vs1)
    (hg : ∀ (s : Shared) (H : Hp) (C : Addr) (cl : List (Str × Addr)) (fp : List Addr), CG (X.blk s H scope (compEnvC scope cl C X.env) fp) js tg g) (ht : ∀ (s : Shared) (H : Hp) (C : Addr) (cl : List (Str × Addr)) (fp : List Addr), PTsC (X.blk s H scope (compEnvC scope cl C X.env) fp) ifs mt)
    (hi1 : ∀ (s : Shared) (H : Hp) (C : Addr) (cl : List (Str × Addr)) (fp : List Addr), CI (X.blk s H scope (compEnvC scope cl C X.env) fp) tg1 iter1 mi1)
    (hg1 : ∀ (s : Shared) (H : Hp) (C : Addr) (cl : List (Str × Addr)) (fp : List Addr), CG (X.blk s H scope (compEnvC scope cl C X.env) fp) js1 tg1 g1) (ht1 : ∀ (s : Shared) (H : Hp) (C : Addr) (cl : List (Str × Addr)) (fp : List Addr), PTsC (X.blk s H scope (compEnvC scope cl C X.env) fp) ifs1 mt1)
    (he : ∀ (s : Shared) (H : Hp) (C : Addr) (cl : List (Str × Addr)) (fp : List Addr), CE (X.blk s H scope (compEnvC scope cl C X.env) fp) elt me) (hs : ∀ x, foldedSetIterable iter X.env x = pure x := by intro _; rfl) (hs1 : ∀ env x, foldedSetIterable iter1 env x = pure x := by intro _ _; rfl) :
    CS X (.Assign [.Name y py] (.ListComp elt [⟨tg, iter, ifs, 0⟩, ⟨tg1, iter1, ifs1, 0⟩] scope pos) spos) (mSet i (mLc2 (own.map (·.2)) vs1 mi g mt mi1 g1 mt1 me)) :=
  ps_imp (ps_setLc2 (g := tG X.KW (isTup tg) js g) (tt := tT X.KW mt) (wi1 := tI X.KW (isTup tg1) mi1) (g1 := tG X.KW (isTup tg1) js1 g1) (tt1 := tT X.KW mt1) (te := tE X.KW me) hc hN hy hyl hsw hi ok hv hg ht hi1 hg1 ht1 he hs hs1) fun D σ H h => by
    obtain ⟨Z, ρ, r, ρ', fr, e, k⟩ := tS_set D σ H h
    exact tE_Lc2 hj hj1 hv σ H _ ⟨Z, ρ, r, ρ', fr, e, k⟩
end

/-! ### several values at once: containers stay with their one holder -/
section
variable {K : KW} {Z Z0 Z1 Z2 Z' : AS} {H H0 H1 H2 H' : Hp} {ρ ρ0 ρ1 ρ2 ρ' : Rho} {σ σ0 σ1 σ2 σ' : St}
def unb (ρ : Rho) : R → Option (R × Rho)
  | .bor i => (fz ρ (.bor i)).map fun q => (.val q.1, q.2)
  | r => some (r, ρ)
def NoB : R → Prop
  | .bor _ => False
  | _ => True
theorem unb_ok {r r' : R} {v : V} (g : Go K Z0 H0 ρ0 σ Z H ρ σ) (h : RR K H0 Z H ρ σ r v) (e : unb ρ r = some (r', ρ')) :
    ∃ Z', Go K Z0 H0 ρ0 σ Z' H ρ' σ ∧ RR K H0 Z' H ρ' σ r' v ∧ NoB r' := by
  cases r with
  | val d => cases e; exact ⟨Z, g, h, trivial⟩
  | own o => cases e; exact ⟨Z, g, h, trivial⟩
  | bor i =>
    obtain ⟨⟨d, ρ1⟩, e1, e⟩ := Option.map_eq_some_iff.mp e
    cases e
    obtain ⟨Z', _, g', rd⟩ := fz_ok g h e1
    exact ⟨Z', g', rd, trivial⟩
/-- a container's address that is none of these -/
def NotAt (a : Addr) : List R → List V → Prop
  | .own _ :: rs, v :: vs => v ≠ .ref a ∧ NotAt a rs vs
  | _ :: rs, _ :: vs => NotAt a rs vs
  | _, _ => True
def Apart : List R → List V → Prop
  | .own _ :: rs, v :: vs => (∀ a, v = .ref a → NotAt a rs vs) ∧ Apart rs vs
  | _ :: rs, _ :: vs => Apart rs vs
  | _, _ => True
/-- values that wait: none of them borrowed, containers apart -/
structure RPs (K : KW) (H0 : Hp) (Z : AS) (H : Hp) (ρ : Rho) (σ : St) (rs : List R) (vs : List V) : Prop where
  rr : Paired (RR K H0 Z H ρ σ) rs vs
  nb : ∀ r ∈ rs, NoB r
  ap : Apart rs vs
def tAP (K : KW) (m : MA) : TA := fun σ H Q => ∃ Z ρ rs ρ', Fr K Z H ρ σ ∧ m ρ = some (rs, ρ') ∧ ∀ Z' H' vs, Go K Z H ρ σ Z' H' ρ' σ → RPs K H Z' H' ρ' σ rs vs → Q vs H'
def CP (X : Cx) (es : List Expr) (m : MA) : Prop := PA X es (tAP X.KW m)
def mP1 (m : ME) (ms : MA) : MA := fun ρ => (m ρ).bind fun p => (unb p.2 p.1).bind fun w => (ms w.2).bind fun q => some (w.1 :: q.1, q.2)
theorem notAt_of {a : Addr} (h : H1 a ≠ none) : ∀ {rs : List R} {vs : List V}, Paired (RR K H1 Z H ρ σ) rs vs → NotAt a rs vs
  | _, _, .nil => trivial
  | .own o :: _, _, .cons h1 h2 => by
    obtain ⟨b, rfl, _, _, _, n⟩ := h1
    exact ⟨fun e => by cases e; exact h n, notAt_of h h2⟩
  | .val _ :: _, _, .cons _ h2 => by simp only [NotAt]; exact notAt_of h h2
  | .bor _ :: _, _, .cons _ h2 => by simp only [NotAt]; exact notAt_of h h2
theorem cp_nil {X : Cx} : CP X [] mA0 := pa_imp pa_nil fun σ H Q ⟨Z, ρ, r, ρ', fr, e, q⟩ => by cases e; exact q Z H _ (.refl fr) ⟨.nil, fun _ h => by simp at h, trivial⟩
theorem cp_cons {X : Cx} {e : Expr} {es : List Expr} {m : ME} {ms : MA} (h : CE X e m) (hs : CP X es ms) (he : starEach (e :: es) X.env = (false, eval e X.env) :: starEach es X.env := by rfl) : CP X (e :: es) (mP1 m ms) :=
  pa_imp (pa_cons h hs he) fun σ H Q ⟨Z, ρ, r, ρ', fr, e, q⟩ => by
    obtain ⟨⟨k1, ρ1⟩, e1, e⟩ := bnd e
    obtain ⟨⟨k1', ρ2⟩, e2, e⟩ := bnd e
    obtain ⟨⟨k2, ρ3⟩, e3, e⟩ := bnd e
    cases e
    refine ⟨Z, ρ, k1, ρ1, fr, e1, fun Z1 H1 x g1 h1 => ?_⟩
    obtain ⟨Z2, g2, h2, nb⟩ := unb_ok g1 h1 e2
    refine ⟨Z2, ρ2, k2, ρ3, g2.fr, e3, fun Z3 H3 y g3 h3 => ?_⟩
    refine q Z3 H3 _ (g2.trans g3) ⟨.cons (h2.go g2.fr g3) (Paired.mapP h3.rr fun _ _ h => h.at0 g2), fun r hr => ?_, ?_⟩
    · rcases List.mem_cons.mp hr with rfl | hr
      · exact nb
      · exact h3.nb r hr
    · cases k1' with
      | own o =>
        obtain ⟨a, rfl, _, _, ro, _⟩ := h2
        exact ⟨fun b e => by cases e; exact notAt_of ro.live h3.rr, h3.ap⟩
      | _ => exact h3.ap
/-- each to its slot, one behind the other -/
def stAll : List Nat → List R → Rho → Option Rho
  | [], [], ρ => some ρ
  | i :: is, .val d :: rs, ρ => (stS i (.val d) ρ).bind fun ρ1 => stAll is rs ρ1
  | i :: is, .own o :: rs, ρ => (stS i (.own false o) ρ).bind fun ρ1 => stAll is rs ρ1
  | _, _, _ => none
def setAll : List Nat → List V → St → St
  | i :: is, v :: vs, σ => setAll is vs (σ.set i (some v))
  | _, _, σ => σ
theorem rr_stV {i : Nat} {d : D} {v : V} : ∀ {rs : List R} {vs : List V}, Paired (RR K H0 Z H ρ σ) rs vs → (∀ r ∈ rs, NoB r) → Paired (RR K H0 Z H (ρ.set i (.val d)) (σ.set i (some v))) rs vs
  | _, _, .nil, _ => .nil
  | r :: rs, _, .cons hr t, nb => .cons (by
      cases r with
      | val d => exact hr
      | bor j => exact (nb _ List.mem_cons_self).elim
      | own o => obtain ⟨a, ea, nz, nw, ro, n0⟩ := hr; exact ⟨a, ea, nz, fun w => nw (ow_stV w), ro, n0⟩) (rr_stV t fun r hr => nb r (List.mem_cons_of_mem _ hr))
theorem rr_stO {i : Nat} {o : O} {a : Addr} : ∀ {rs : List R} {vs : List V}, Paired (RR K H0 Z H ρ σ) rs vs → (∀ r ∈ rs, NoB r) → NotAt a rs vs → Paired (RR K H0 Z H (ρ.set i (.own false o)) (σ.set i (some (.ref a)))) rs vs
  | _, _, .nil, _, _ => .nil
  | .val d :: rs, _, .cons hr t, nb, na => .cons hr (rr_stO t (fun r hr => nb r (List.mem_cons_of_mem _ hr)) (by simpa only [NotAt] using na))
  | .bor j :: rs, _, .cons hr t, nb, na => (nb _ List.mem_cons_self).elim
  | .own o' :: rs, _, .cons hr t, nb, na => .cons (by
      obtain ⟨b, eb, nz', nw', ro', n0'⟩ := hr
      refine ⟨b, eb, nz', fun w => ?_, ro', n0'⟩
      rcases ow_stO w with w | w
      · exact nw' w
      · subst eb; exact na.1 w.symm) (rr_stO t (fun r hr => nb r (List.mem_cons_of_mem _ hr)) na.2)
theorem stS_eq {i : Nat} {s : Sl} (h : stS i s ρ = some ρ') : ρ' = ρ.set i s := by
  unfold stS at h
  split at h
  · cases h
  split at h
  · cases h; rfl
  · cases h
theorem stAll_ok : ∀ {is : List Nat} {rs : List R} {vs : List V} {ρ : Rho} {σ : St}, Go K Z0 H0 ρ0 σ0 Z H ρ σ → stAll is rs ρ = some ρ' → RPs K H0 Z H ρ σ rs vs → Go K Z0 H0 ρ0 σ0 Z H ρ' (setAll is vs σ)
  | [], [], vs, ρ, σ, g, e, h => by
    cases e
    cases h.rr
    exact g
  | [], _ :: _, _, _, _, _, e, _ => by cases e
  | _ :: _, [], _, _, _, _, e, _ => by cases e
  | i :: is, .bor _ :: rs, _, _, _, _, e, _ => by cases e
  | i :: is, .val d :: rs, vs, ρ, σ, g, e, h => by
    obtain ⟨ρ1, e1, e⟩ := bnd e
    obtain ⟨rr, nb, ap⟩ := h
    cases rr with
    | @cons _ v _ vs h1 h2 =>
      have g1 := stS_val g e1 h1
      have nb' : ∀ r ∈ rs, NoB r := fun r hr => nb r (List.mem_cons_of_mem _ hr)
      refine stAll_ok (ρ := ρ1) (σ := σ.set i (some v)) g1 e ⟨?_, nb', ap⟩
      rw [stS_eq e1]
      exact rr_stV h2 nb'
  | i :: is, .own o :: rs, vs, ρ, σ, g, e, h => by
    obtain ⟨ρ1, e1, e⟩ := bnd e
    obtain ⟨rr, nb, ap⟩ := h
    cases rr with
    | @cons _ v _ vs h1 h2 =>
      obtain ⟨a, rfl, nz, nw, ro, n0⟩ := h1
      have g1 := stS_own g e1 nz nw ro n0
      have nb' : ∀ r ∈ rs, NoB r := fun r hr => nb r (List.mem_cons_of_mem _ hr)
      refine stAll_ok (ρ := ρ1) (σ := σ.set i (some (.ref a))) g1 e ⟨?_, nb', ap.2⟩
      rw [stS_eq e1]
      exact rr_stO h2 nb' (ap.1 a rfl)
end
section
variable {X : Cx} {pos : Pos} {ms : MA}
def mPar (is : List Nat) (ms : MA) : MS := fun ρ => (ms ρ).bind fun p => (stAll is p.1 p.2).bind fun ρ' => some (.nx, ρ')
theorem rps_two {K : KW} {Z : AS} {H H0 : Hp} {ρ ρ' : Rho} {σ : St} {i j : Nat} {rs : List R} {vs : List V} (e : stAll [i, j] rs ρ = some ρ') (h : RPs K H0 Z H ρ σ rs vs) : ∃ v w, vs = [v, w] := by
  match rs, e with
  | [r1, r2], _ =>
    cases h.rr with
    | cons _ h1 => cases h1 with
      | cons _ h2 => cases h2; exact ⟨_, _, rfl⟩
  | [], e => simp [stAll] at e
  | [.val _], e => simp [stAll] at e
  | [.own _], e => simp [stAll] at e
  | .bor _ :: _, e => simp [stAll] at e
  | r1 :: r2 :: r3 :: rs, e => cases r1 <;> cases r2 <;> simp [stAll, Option.bind_eq_some_iff] at e
theorem rps_three {K : KW} {Z : AS} {H H0 : Hp} {ρ ρ' : Rho} {σ : St} {i j l : Nat} {rs : List R} {vs : List V} (e : stAll [i, j, l] rs ρ = some ρ') (h : RPs K H0 Z H ρ σ rs vs) : ∃ u v w, vs = [u, v, w] := by
  match rs, e with
  | [r1, r2, r3], _ =>
    cases h.rr with
    | cons _ h1 => cases h1 with
      | cons _ h2 => cases h2 with
        | cons _ h3 => cases h3; exact ⟨_, _, _, rfl⟩
  | [], e => simp [stAll] at e
  | [r1], e => cases r1 <;> simp [stAll, Option.bind_eq_some_iff] at e
  | [r1, r2], e => cases r1 <;> cases r2 <;> simp [stAll, Option.bind_eq_some_iff] at e
  | r1 :: r2 :: r3 :: r4 :: rs, e => cases r1 <;> cases r2 <;> cases r3 <;> simp [stAll, Option.bind_eq_some_iff] at e
theorem cs_par {i j : Nat} {x y : Str} {a b : Expr} {px py pt : Pos} {kt k2 pt2} (hc : X.calm = true) (hN : X.N.Nodup) (hi : X.N[i]? = some x) (hj : X.N[j]? = some y) (hij : i ≠ j)
    (hx : X.env.scope.names.lookup x = some .local) (hy : X.env.scope.names.lookup y = some .local) (ha : CP X [a, b] ms)
    (hw : swappedStores [.Tuple [.Name x px, .Name y py] kt pt] (.Tuple [a, b] k2 pt2) X.env = pure (some [x, y])) (hs : swapsWithSole [.Tuple [.Name x px, .Name y py] kt pt] (.Tuple [a, b] k2 pt2) pos.line X.env = pure false := by rfl) :
    CS X (.Assign [.Tuple [.Name x px, .Name y py] kt pt] (.Tuple [a, b] k2 pt2) pos) (mPar [i, j] ms) :=
  ps_imp (ps_par hc hN hi hj hij hx hy ha hw hs) fun Dn σ H ⟨Z, ρ, fl, ρ', fr, e, k⟩ => by
    obtain ⟨⟨rs, ρ1⟩, e1, e⟩ := bnd e
    obtain ⟨ρ2, e2, e⟩ := bnd e
    cases e
    refine ⟨Z, ρ, rs, ρ1, fr, e1, fun Z1 H1 vs g1 h1 => ?_⟩
    obtain ⟨v, w, rfl⟩ := rps_two e2 h1
    exact ⟨v, w, rfl, k Z1 H1 _ (stAll_ok g1 e2 h1)⟩
theorem cs_par3 {i j l : Nat} {x y z : Str} {a b c : Expr} {px py pz pt : Pos} {kt k2 pt2} (hc : X.calm = true) (hN : X.N.Nodup) (hi : X.N[i]? = some x) (hj : X.N[j]? = some y) (hl : X.N[l]? = some z) (hij : i ≠ j) (hil : i ≠ l) (hjl : j ≠ l)
    (hx : X.env.scope.names.lookup x = some .local) (hy : X.env.scope.names.lookup y = some .local) (hz : X.env.scope.names.lookup z = some .local) (ha : CP X [a, b, c] ms)
    (hw : swappedStores [.Tuple [.Name x px, .Name y py, .Name z pz] kt pt] (.Tuple [a, b, c] k2 pt2) X.env = pure (some [x, y, z])) (hs : swapsWithSole [.Tuple [.Name x px, .Name y py, .Name z pz] kt pt] (.Tuple [a, b, c] k2 pt2) pos.line X.env = pure false := by rfl) :
    CS X (.Assign [.Tuple [.Name x px, .Name y py, .Name z pz] kt pt] (.Tuple [a, b, c] k2 pt2) pos) (mPar [i, j, l] ms) :=
  ps_imp (ps_par3 hc hN hi hj hl hij hil hjl hx hy hz ha hw hs) fun Dn σ H ⟨Z, ρ, fl, ρ', fr, e, k⟩ => by
    obtain ⟨⟨rs, ρ1⟩, e1, e⟩ := bnd e
    obtain ⟨ρ2, e2, e⟩ := bnd e
    cases e
    refine ⟨Z, ρ, rs, ρ1, fr, e1, fun Z1 H1 vs g1 h1 => ?_⟩
    obtain ⟨u, v, w, rfl⟩ := rps_three e2 h1
    exact ⟨u, v, w, rfl, k Z1 H1 _ (stAll_ok g1 e2 h1)⟩
/-- names for slots, stored one behind the other -/
inductive Nms (X : Cx) : List Expr → List Nat → Prop
  | nil : Nms X [] []
  | cons {i : Nat} {x : Str} {p : Pos} {es : List Expr} {is : List Nat} (h : PG X (.Name x p) (gName i)) (hs : (assignEach (.Name x p :: es) X.env).map (·.2) = assign (.Name x p) X.env :: (assignEach es X.env).map (·.2)) (t : Nms X es is) : Nms X (.Name x p :: es) (i :: is)
theorem Nms.pgs {X : Cx} : ∀ {es : List Expr} {is : List Nat}, Nms X es is → PGs X es (fun vs σ H Q => vs.length = is.length ∧ Q (setAll is vs σ) H)
  | _, _, .nil => pgs_imp pgs_nil fun vs σ H Q h => by
    obtain ⟨h1, h2⟩ := h
    have : vs = [] := List.length_eq_zero_iff.mp h1
    subst this
    exact ⟨rfl, h2⟩
  | _, _, .cons h hs t => pgs_imp (pgs_cons h t.pgs hs) fun vs σ H Q q => by
    obtain ⟨h1, h2⟩ := q
    cases vs with
    | nil => simp at h1
    | cons v vs => exact ⟨v, vs, rfl, by simpa using h1, h2⟩
theorem stAll_len : ∀ {is : List Nat} {rs : List R} {ρ ρ' : Rho}, stAll is rs ρ = some ρ' → is.length = rs.length
  | [], [], _, _, _ => rfl
  | [], _ :: _, _, _, e => by cases e
  | _ :: _, [], _, _, e => by cases e
  | _ :: _, .bor _ :: _, _, _, e => by cases e
  | i :: is, .val d :: rs, ρ, _, e => by
    obtain ⟨ρ1, e1, e⟩ := bnd e
    simp only [List.length_cons, stAll_len e]
  | i :: is, .own o :: rs, ρ, _, e => by
    obtain ⟨ρ1, e1, e⟩ := bnd e
    simp only [List.length_cons, stAll_len e]
theorem paired_len {α β : Type} {F : α → β → Prop} : ∀ {l : List α} {l' : List β}, Paired F l l' → l.length = l'.length
  | _, _, .nil => rfl
  | _, _, .cons _ t => by simp only [List.length_cons, paired_len t]
/-- (a, b, ..) = (x, y, ..), by a tuple -/
theorem cs_parT {ts es : List Expr} {is : List Nat} {kt pt k2 pt2} (hc : X.calm = true) (ht : Nms X ts is) (ha : CP X es ms) (hl : is.length ≤ 100)
    (hn : (assignEach ts X.env).length = is.length := by rfl) (hst : (assignEach ts X.env).findIdx? (·.1) = none := by rfl)
    (hs : swapsWithSole [.Tuple ts kt pt] (.Tuple es k2 pt2) pos.line X.env = pure false := by rfl) (hw : swappedStores [.Tuple ts kt pt] (.Tuple es k2 pt2) X.env = pure none := by rfl) (h1 : (assignEach [.Tuple ts kt pt] X.env).map (·.2) = [assign (.Tuple ts kt pt) X.env] := by rfl) :
    CS X (.Assign [.Tuple ts kt pt] (.Tuple es k2 pt2) pos) (mPar is ms) :=
  ps_imp (ps_asg (pe_tup ha) (pg_tup hc ht.pgs hn hst) hs hw h1) fun Dn σ H ⟨Z, ρ, fl, ρ', fr, e, k⟩ => by
    obtain ⟨⟨rs, ρ1⟩, e1, e⟩ := bnd e
    obtain ⟨ρ2, e2, e⟩ := bnd e
    cases e
    refine ⟨Z, ρ, rs, ρ1, fr, e1, fun Z1 H1 vs g1 h1 => ?_⟩
    have hvl : vs.length = is.length := by rw [← paired_len h1.rr, ← stAll_len e2]
    refine ⟨by rw [hvl]; exact Nat.le_trans hl (by decide), fun p hp => ⟨p, vs, rfl, .of upd_same, hvl, hvl, ?_⟩⟩
    have n : Nw Z1 H1 Z1 (upd H1 p (.tup vs)) := .upd hp
    have g2 := g1.trans (n.go g1.fr)
    have h2 : RPs X.KW H Z1 (upd H1 p (.tup vs)) ρ1 σ rs vs := ⟨Paired.mapP h1.rr fun _ _ h => h.go g1.fr (n.go g1.fr), h1.nb, h1.ap⟩
    exact k Z1 _ _ (stAll_ok g2 e2 h2)
end
end Zl
end

-- ZGd
section
/-! promises of defs where it is known that nothing is being shown (repr asks it) -/
namespace Zl
open PySem PySem.Spec PyProof.Rows L2
structure RoomG (k : Nat) (A : Around) : Prop where
  r : Room k A
  g : A.guards = some []
theorem RoomG.mono {j k : Nat} {A : Around} (h : RoomG k A) (l : j ≤ k) : RoomG j A := ⟨h.r.mono l, h.g⟩
structure FnG (P : Program) (w : World) (K : PySem.W.Frag) (mg : Str → Option Value) (base : Heap) (k : Nat) (f : Addr) (fd : FuncData) (ps : List Str) (sp : Sp) : Prop where
  len : ∀ vs H Q E, sp vs H Q E → vs.length = ps.length
  run : ∀ (A : Around) (outer : List Env) (s : Shared) (H : Hp) (args : Args) (us : List Value) (vs : List V) (Q : VK) (E : XK), RoomG k A → Env0 P w K mg base A outer s H → BindsTo s fd args (ps.zip us) → Vals vs us → sp vs H Q E → codeAny (model P w) A (.call (.ref f) args) (CR CX0 outer P w H s Q E) s
theorem FnG.mono {P : Program} {w : World} {K : PySem.W.Frag} {mg : Str → Option Value} {base : Heap} {j k : Nat} {f : Addr} {fd : FuncData} {ps : List Str} {sp : Sp} (F : FnG P w K mg base j f fd ps sp) (l : j ≤ k) : FnG P w K mg base k f fd ps sp :=
  ⟨F.len, fun A outer s H args us vs Q E hr => F.run A outer s H args us vs Q E (hr.mono l)⟩
/-- a def keeps its promise where its body does -/
theorem Fun.okG {P : Program} {w : World} {K : PySem.W.Frag} {mg : Str → Option Value} {base : Heap} {x qual : Str} {st : Stmt} {f : Addr} {fd : FuncData} {N ps : List Str} {k : Nat} {sp : Sp} (F : Fun K x qual st f fd) (S : FnScope N ps (defScope st)) (len : ∀ vs H Q E, sp vs H Q E → vs.length = ps.length)
    (hb : ∀ (cdv : Value) (A : Around) (outer : List Env) (s : Shared) (H : Hp) (vs : List V) (Q : VK) (E : XK), RoomG k (A.deeper (envOfC qual (defScope st) s.heap.objs.size f cdv)) → sp vs H Q E →
      ∃ t, PSs (cxOf CX0 P w K mg base N qual (defScope st) f cdv A outer s H E).nox (defBody st) t ∧ t { nx := fun _ H' => Q .non H', rt := Q } (L2.start N vs) H) : FnG P w K mg base (k + 1) f fd ps sp := by
  obtain ⟨oc, od, kV, doc, pm, an, cdv, ct, osl, rfl, lk, hcd⟩ := F.ex
  refine ⟨len, fun A outer s H args us vs Q E hr e0 hbind rv hsp => ?_⟩
  have kin : K.In s.heap := e0.mod.kin.keeps fun b o e => (e0.bs b o e).1
  have nol : s.heap.NoLimit := e0.mod.nolimit.keeps fun b o e => (e0.bs b o e).1
  have kinds : ∀ y ∈ ps.zip us, (defScope st).names.lookup y.1 = some .local ∨ ((defScope st).names.lookup y.1 = some .cell ∧ ((cellsFrom (s.heap.objs.size + 1) (defScope st).names []).lookup y.1).isSome = true) := fun y hy =>
    (S.par y.1 (List.of_mem_zip hy).1).imp id fun q => ⟨q, PySem.W.cellsFrom_some _ _ _ (.inl q)⟩
  refine codeAny_call_function hr.r.depth (kin _ _ lk) rfl S.co S.gen rfl (PySem.W.codeRec_of kin hcd) (hbind _ _ _ _ (wpAny_newFunctionEnv_cells S.kind kinds fun env ee s1 x => ?_))
  subst ee
  obtain ⟨t, ht, q⟩ := hb cdv A outer s H vs Q E ⟨hr.r.deeper _, hr.g⟩ hsp
  refine ⟨nol.keeps x.toInCall.keep, codeAny_func (wpAny_mono (ht.nox.run [] s1 (L2.start N vs) H _ (inv_start S hr.r.hd e0 (len _ _ _ _ hsp) rv x) q) (fun fl s' hs => ?_) fun _ _ hs => hs)⟩
  cases fl with
  | ret u => obtain ⟨v, σ', H', J, r, z⟩ := hs; exact ⟨v, H', J.os, J.bare, J.base, J.hok, r, z⟩
  | next => obtain ⟨σ', H', J, z⟩ := hs; exact ⟨V.non, H', J.os, J.bare, J.base, J.hok, rfl, z⟩
  | brk => obtain ⟨_, _, _, z⟩ := hs; exact z.elim
  | cont => obtain ⟨_, _, _, z⟩ := hs; exact z.elim
section
variable {X : Cx} {k : Nat} {f : Addr} {fd : FuncData} {ps : List Str} {sp : Sp} {x : Str} {p pos : Pos} {e : Expr} {es : List Expr} {t : TA} {E : XK}
theorem run_G {pins : List (Addr × Obj)} {σ : St} {H : Hp} {s : Shared} {Q : VK} {us : List Value} {vs : List V} {args : Args} (F : FnG X.prog X.w X.K X.mg X.base k f fd ps sp) (hr : RoomG k X.A) (hb : us.length = ps.length → BindsTo s fd args (ps.zip us)) (hx : Passes CX0 X E)
    (I : Inv X pins σ H s) (r : Vals vs us) (h : sp vs H Q E) : wpAny (model X.prog X.w) X.A (call (.ref f) args.pos args.kw) (EP X pins σ Q) X.xe s := by
  refine wpAny_call (codeAny_mono (F.run X.A X.stack s H args us vs Q E hr I.env0 (hb (by rw [← r.length]; exact F.len _ _ _ _ h)) r h) fun res s' hq => ?_)
  cases res with
  | error e => exact hx pins σ H s e s' I hq
  | ok fl => cases fl with
    | ret u => exact I.after hq
    | _ => exact False.elim hq
theorem pe_callG (F : FnG X.prog X.w X.K X.mg X.base k f fd ps sp) (hr : RoomG k X.A) (hg : Gl X x) (hm : X.mg x = some (.ref f)) (hk : PySem.W.keepIn X.K (.ref f) = true) (hb : Binds X.K fd ps []) (hx : Passes CX0 X E)
    (ha : PA X (e :: es) t) (hdb : (x == ("__debug__" : Str)) = false) (he : starEach (e :: es) X.env = (false, eval e X.env) :: starEach es X.env) (hpl : (backTo pos (starEach es X.env)).any (·.1) = false) :
    PE X (.Call (.Name x p) (e :: es) [] pos) (tCall sp [] E t) := by
  refine ⟨fun pins s σ H Q I h => wpAny_Call_Name_kw (ld_glob I hg hm (PySem.W.callWith_K (h₀ := X.base) I.ok.mod.kin hk (thn (ha.run pos pins s σ H _ I h) fun us s1 ⟨vs, H1, I1, r, q⟩ => ⟨I1.kIn, ?_⟩) he hpl) hdb)⟩
  refine run_G (args := ⟨us, []⟩) F hr (fun hl => ?_) hx I1 r (by have q : sp (vs ++ []) H1 Q E := q; rwa [List.append_nil] at q)
  have := hb s1 us I1.kIn (by rw [List.append_nil]; exact hl)
  rwa [List.append_nil] at this
end
/-- from the script to the law's def -/
theorem law_G {P : Program} {w : World} {K : PySem.W.Frag} {mg mb : Str → Option Value} {k : Nat} {fa a : Addr} {fd : FuncData} {x : Str} {sp : Sp} {s : Shared} {vs : List Value} {ns : List Int}
    (KX : K.In s.heap) (hns : s.heap.Ns mainGlobals mg) (hb : s.heap.Ns builtinsNs mb) (hbb : ∀ x : Str, x ≠ "__name__" → mb x = bootBuiltins x) (hlim : s.heap.NoLimit) (hg : s.gens = #[])
    (ha : s.heap.get? a = some { cls := .type "list", data := .seq vs.toArray }) (hi : IntsAre vs ns) (hl : ns.length ≤ sizeLine) (hr : RoomG k callerA)
    (F : ∀ base : Heap, K.In base → base.Ns mainGlobals mg → FnG P w K mg base k fa fd [x] sp) (hbind : ∀ (s : Shared) (u : Value), BindsTo s fd ⟨[u], []⟩ [(x, u)])
    (hsp : ∀ H : Hp, Only H → SqL K H a (ns.map V.int) → sp [.ref a] H (fun v _ => v = .bl true) fun _ _ _ => False) :
    codeAny (model P w) callerA (.call (.ref fa) ⟨[.ref a], []⟩) (fun r s' => r = .ok (.ret (.bool true)) ∧ OldK s.heap s'.heap ∧ s'.os = s.os ∧ AllBare s'.gens) s := by
  have ri := vals_ints hi
  have ln := hi.length
  obtain ⟨H, hO, hS, hok, hA⟩ : ∃ H : Hp, Only H ∧ SqL K H a (ns.map V.int) ∧ HOk P w H s.heap ∧ ∀ b, H b ≠ none → b = a ∧ K.lookup a = none := by
    cases hk : K.lookup a with
    | some o =>
      have e := KX a o hk
      rw [ha] at e; cases e
      exact ⟨fun _ => none, fun _ => .inl rfl, .inr ⟨_, vs.toArray, _, hk, rfl, rfl, rfl, by rw [List.size_toArray, ln]; exact hl, by simpa using ri⟩, fun b u z => (nomatch (show (none : Option HO) = some u from z)), fun b z => absurd rfl z⟩
    | none =>
      refine ⟨fun b => if b = a then some (.frz { cls := .type "list", data := .seq vs.toArray } (.lst (ns.map V.int))) else none, fun b => ?_, .inl (.inr ⟨_, if_pos rfl⟩), fun b u z => ?_, fun b z => ?_⟩
      · by_cases h : b = a
        · exact .inr ⟨_, _, if_pos h⟩
        · exact .inl (if_neg h)
      · by_cases h : b = a
        · have z := (if_pos h).symm.trans z
          cases z; subst h
          exact ⟨ha, by rw [List.length_map]; exact hl, vs, _, ri, ha⟩
        · exact (nomatch (if_neg h).symm.trans z)
      · by_cases h : b = a
        · exact ⟨h, rfl⟩
        · exact absurd (if_neg h) z
  have put : ∀ {b : Addr} {o : Obj}, s.heap.get? b = some o → H b = none → (hidT s.heap H).get? b = some o := fun e n => hidT_get e n
  have free : ∀ {b : Addr} {o : Obj} {es : Array DictEntry} {ep : Nat}, s.heap.get? b = some o → o.data = .dict es ep → H b = none := fun {b o es ep} e d => by
    cases q : H b with
    | none => rfl
    | some u =>
      obtain ⟨rfl, _⟩ := hA b (by rw [q]; exact fun z => nomatch z)
      rw [ha] at e; cases e
      exact (nomatch (show Data.seq vs.toArray _ = Data.dict es ep from d))
  have ns' : ∀ {b : Addr} {m : Str → Option Value}, s.heap.Ns b m → (hidT s.heap H).Ns b m := fun ⟨o, es, ep, e, d, r⟩ => ⟨o, es, ep, put e (free e d), d, r⟩
  have kin : K.In (hidT s.heap H) := fun b o e => put (KX b o e) (by
    cases q : H b with
    | none => rfl
    | some u =>
      obtain ⟨rfl, hn⟩ := hA b (by rw [q]; exact fun z => nomatch z)
      rw [hn] at e; cases e)
  obtain ⟨mc, l1, l2⟩ := hlim
  have e0 : Env0 P w K mg (hidT s.heap H) callerA [] s H := ⟨rfl, ⟨kin, ns' hns, ⟨mb, ns' hb, hbb⟩, ⟨mc, ns' l1, l2⟩⟩, fun b o e => of_hidT e, Nat.le_of_eq (hidT_size _ _), trivial, fun b hb => (nomatch hb), hok, .of_eq hg⟩
  refine codeAny_mono ((F _ kin (ns' hns)).run callerA [] s H ⟨[.ref a], []⟩ [.ref a] [.ref a] _ _ hr e0 (hbind s (.ref a)) (.cons rfl .nil) (hsp H hO hS)) fun r s' h => ?_
  cases r with
  | error e => exact h.elim
  | ok fl => cases fl with
    | ret u =>
      obtain ⟨v, H', os, bare, un, hok', r', q⟩ := h
      have q : v = .bl true := q
      subst q
      obtain rfl : u = Value.bool true := r'
      refine ⟨rfl, OldK.of_keep fun b o e => ?_, os, bare⟩
      cases q : H b with
      | none => exact un.keep b o e q (fun z => nomatch z) (fun z => nomatch z)
      | some u =>
        rcases hO b with z | ⟨ob, xs, z⟩
        · rw [q] at z; cases z
        · obtain ⟨e1, _⟩ := hok b _ z
          obtain ⟨e2, _⟩ := hok' b _ (un.frzs b ob _ z)
          rw [e] at e1; cases e1
          exact e2
    | _ => exact False.elim h
theorem walk_G {l : PySem.W.OpenLaw} {n k : Nat} {q : Program} {loose : List Str} {XP : (Str → Option Value) → Heap → Prop} {YP : World → Heap → Prop} {d : DefRec} {K : Params → PySem.W.Frag} {sp : World → Sp} {x : Str}
    (hn : l.most = some n) (hn2 : n ≤ sizeLine) (hdf : d.params.defaults = []) (hr : RoomG k callerA) (hY : ∀ (w : World) (h : Heap), YP w h → (K w.params).In h)
    (F : ∀ (w : World) (mg : Str → Option Value) (fa : Addr) (h : Heap), (K w.params).In h → h.Ns mainGlobals mg → mg d.name = some (.ref fa) → ∃ fd : FuncData, (∀ (s : Shared) (u : Value), BindsTo s fd ⟨[u], []⟩ [(x, u)]) ∧
        ∀ base : Heap, (K w.params).In base → base.Ns mainGlobals mg → FnG l.prog w (K w.params) mg base k fa fd [x] (sp w))
    (hsp : ∀ (w : World) (H : Hp) (a : Addr) (ns : List Int), ns.length ≤ n → Only H → SqL (K w.params) H a (ns.map V.int) → sp w [.ref a] H (fun v _ => v = .bl true) fun _ _ _ => False) :
    PySem.W.WalkO q loose XP YP l.row.toRowW d [] (fun f vs => PySem.call f vs) := by
  refine Att.attach_call hn hdf fun w s₀ s₁ mg mb fa o pm cd doc a vs ns G Y ho hd hcd hmg hobj hints hlen hg => ?_
  obtain ⟨fd, hb, hF⟩ := F w mg fa _ (hY w _ Y) G.T.g hmg
  exact law_G (hY w _ Y) G.T.g G.T.b G.T.builtins G.T.nolimit hg hobj hints (Nat.le_trans hlen hn2) hr hF hb fun H hO hS => hsp w H a ns hlen hO hS
end Zl
end

-- ZDef
section
namespace Zl
open PySem PySem.Spec PyProof.Rows L2

/-! ### data without containers that can change -/
mutual
def clean : D → Bool
  | .none | .bool _ | .int _ | .str _ => true
  | .tuple ds => cleans ds
  | .list _ | .dict _ => false
def cleans : List D → Bool
  | [] => true
  | d :: ds => clean d && cleans ds
end
def cleanO : O → Bool
  | .lst ds => cleans ds
  | .dct ks => cleans (ks.map (·.2))
  | .dtp ks => cleans (ks.map (·.1)) && cleans (ks.map (·.2))
def cleanR : R → Bool
  | .val d => clean d
  | .own o => cleanO o
  | .bor _ => false
section
variable {K : KW} {Z Z' : AS} {H : Hp}
mutual
theorem clean_rd : ∀ {d : D} {v : V}, clean d = true → RD K Z H d v → RD K Z' H d v
  | .none, _, _, h | .bool _, _, _, h | .int _, _, _, h | .str _, _, _, h => by simpa only [RD] using h
  | .tuple ds, _, c, h => by
    simp only [RD] at h ⊢
    obtain ⟨a, vs, e, q, r⟩ := h
    exact ⟨a, vs, e, q, clean_rds (by simpa only [clean] using c) r⟩
  | .list _, _, c, _ => by simp [clean] at c
  | .dict _, _, c, _ => by simp [clean] at c
theorem clean_rds : ∀ {d : List D} {v : List V}, cleans d = true → RDs K Z H d v → RDs K Z' H d v
  | [], _, _, h => by simpa only [RDs] using h
  | d :: ds, _, c, h => by
    simp only [RDs] at h ⊢
    simp only [cleans, Bool.and_eq_true] at c
    obtain ⟨v, r, e, h1, h2⟩ := h
    exact ⟨v, r, e, clean_rd c.1 h1, clean_rds c.2 h2⟩
end
theorem clean_rdk : ∀ {ks : List (Key × D)} {v : List (Key × V)}, cleans (ks.map (·.2)) = true → RDk K Z H (dkv ks) v → RDk K Z' H (dkv ks) v
  | [], _, _, h => by simp only [dkv, List.map_nil, RDk] at h ⊢; exact h
  | (k, d) :: ds, _, c, h => by
    simp only [List.map_cons, cleans, Bool.and_eq_true] at c
    simp only [dkv, List.map_cons, RDk] at h ⊢
    obtain ⟨key, v, r, e, ek, h1, h2⟩ := h
    exact ⟨key, v, r, e, ek, clean_rd c.1 h1, clean_rdk c.2 h2⟩
theorem clean_rdt : ∀ {ks : List (D × D)} {v : List (NestedKey × Addr × V)}, cleans (ks.map (·.1)) = true → cleans (ks.map (·.2)) = true → RDt K Z H ks v → RDt K Z' H ks v
  | [], _, _, _, h => by simp only [RDt] at h ⊢; exact h
  | (k, d) :: ds, _, c, c', h => by
    simp only [List.map_cons, cleans, Bool.and_eq_true] at c c'
    simp only [RDt] at h ⊢
    obtain ⟨nk, b, v, r, e, e1, e2, h0, h1, h2⟩ := h
    exact ⟨nk, b, v, r, e, e1, e2, clean_rd c.1 h0, clean_rd c'.1 h1, clean_rdt c.2 c'.2 h2⟩
theorem clean_ro {o : O} {a : Addr} (c : cleanO o = true) (h : RO K Z H o a) : RO K Z' H o a := by
  cases o with
  | lst ds => obtain ⟨vs, e, r⟩ := h; exact ⟨vs, e, clean_rds c r⟩
  | dct ks => obtain ⟨vs, e, r⟩ := h; exact ⟨vs, e, clean_rdk c r⟩
  | dtp ks =>
    obtain ⟨vs, e, r⟩ := h
    simp only [cleanO, Bool.and_eq_true] at c
    exact ⟨vs, e, clean_rdt c.1 c.2 r.1, r.2⟩
end
/-! ### a def -/
def inS : Sl → Sl
  | .own _ o => .own true o
  | s => s
def outs : Rho → Rho → Option Rho
  | [], _ => some []
  | .own b _ :: r, .own true o' :: r' => (outs r r').map fun q => .own b o' :: q
  | .own _ _ :: _, _ => none
  | s :: r, _ :: r' => (outs r r').map fun q => s :: q
  | _ :: _, [] => none
def runF (np N : Nat) (m : MS) : ME := fun ρa => if ρa.length = np then (m (ρa.map inS ++ List.replicate (N - np) .no)).bind fun p => (outs ρa p.2).bind fun ρo => match p.1 with
    | .nx => some (.val .none, ρo)
    | .rt (.val d) => some (.val d, ρo)
    | .rt (.own o) => some (.own o, ρo)
    | _ => none
  else none
def spD (K : KW) (F : ME) (n : Nat) : Sp := fun vs H Q _ => vs.length = n ∧ tE K F (vs.map some) H Q
section
variable {K : KW} {Z Z1 Z' : AS} {H H1 H' : Hp} {ρ ρ1 ρ' ρa ρo : Rho} {σ σ1 σ' : St}
theorem outs_len : ∀ {ρa ρ' ρo : Rho}, outs ρa ρ' = some ρo → ρo.length = ρa.length
  | [], _, _, e => by cases e; rfl
  | .own b _ :: r, .own true o' :: r', _, e => by
    obtain ⟨q, e1, e⟩ := Option.map_eq_some_iff.mp e
    cases e
    simp only [List.length_cons, outs_len e1]
  | .own _ _ :: _, [], _, e => by cases e
  | .own _ _ :: _, .own false _ :: _, _, e => by cases e
  | .own _ _ :: _, .no :: _, _, e => by cases e
  | .own _ _ :: _, .val _ :: _, _, e => by cases e
  | .own _ _ :: _, .scr _ :: _, _, e => by cases e
  | .no :: r, [], _, e => by cases e
  | .val _ :: r, [], _, e => by cases e
  | .scr _ :: r, [], _, e => by cases e
  | .no :: r, _ :: r', _, e => by
    obtain ⟨q, e1, e⟩ := Option.map_eq_some_iff.mp e
    cases e
    simp only [List.length_cons, outs_len e1]
  | .val _ :: r, _ :: r', _, e => by
    obtain ⟨q, e1, e⟩ := Option.map_eq_some_iff.mp e
    cases e
    simp only [List.length_cons, outs_len e1]
  | .scr _ :: r, _ :: r', _, e => by
    obtain ⟨q, e1, e⟩ := Option.map_eq_some_iff.mp e
    cases e
    simp only [List.length_cons, outs_len e1]
theorem outs_get : ∀ {ρa ρ' ρo : Rho} {i : Nat} {s : Sl}, outs ρa ρ' = some ρo → ρo[i]? = some s → (∃ b o o', s = .own b o' ∧ ρa[i]? = some (Sl.own b o) ∧ ρ'[i]? = some (Sl.own true o')) ∨ ((∀ b o, s ≠ .own b o) ∧ ρa[i]? = some s)
  | [], _, _, _, _, e, h => by cases e; simp at h
  | .own b o :: r, .own true o' :: r', _, i, s, e, h => by
    obtain ⟨q, e1, e⟩ := Option.map_eq_some_iff.mp e
    cases e
    cases i with
    | zero => simp at h; subst h; exact .inl ⟨b, o, o', rfl, rfl, rfl⟩
    | succ i => exact outs_get (i := i) e1 (by simpa using h)
  | .own _ _ :: _, [], _, _, _, e, _ => by cases e
  | .own _ _ :: _, .own false _ :: _, _, _, _, e, _ => by cases e
  | .own _ _ :: _, .no :: _, _, _, _, e, _ => by cases e
  | .own _ _ :: _, .val _ :: _, _, _, _, e, _ => by cases e
  | .own _ _ :: _, .scr _ :: _, _, _, _, e, _ => by cases e
  | .no :: r, [], _, _, _, e, _ => by cases e
  | .val _ :: r, [], _, _, _, e, _ => by cases e
  | .scr _ :: r, [], _, _, _, e, _ => by cases e
  | .no :: r, _ :: r', _, i, s, e, h => by
    obtain ⟨q, e1, e⟩ := Option.map_eq_some_iff.mp e
    cases e
    cases i with
    | zero => simp at h; subst h; exact .inr ⟨fun _ _ z => (nomatch z), rfl⟩
    | succ i => exact outs_get (i := i) e1 (by simpa using h)
  | .val d :: r, _ :: r', _, i, s, e, h => by
    obtain ⟨q, e1, e⟩ := Option.map_eq_some_iff.mp e
    cases e
    cases i with
    | zero => simp at h; subst h; exact .inr ⟨fun _ _ z => (nomatch z), rfl⟩
    | succ i => exact outs_get (i := i) e1 (by simpa using h)
  | .scr ns :: r, _ :: r', _, i, s, e, h => by
    obtain ⟨q, e1, e⟩ := Option.map_eq_some_iff.mp e
    cases e
    cases i with
    | zero => simp at h; subst h; exact .inr ⟨fun _ _ z => (nomatch z), rfl⟩
    | succ i => exact outs_get (i := i) e1 (by simpa using h)
/-- a parameter's container stands in its own slot at the end -/
theorem outs_par : ∀ {ρa ρ' ρo : Rho} {i : Nat} {b : Bool} {o : O}, outs ρa ρ' = some ρo → ρa[i]? = some (Sl.own b o) → ∃ o', ρ'[i]? = some (Sl.own true o')
  | [], _, _, _, _, _, e, h => by simp at h
  | .own b o :: r, .own true o' :: r', _, i, _, _, e, h => by
    obtain ⟨q, e1, e⟩ := Option.map_eq_some_iff.mp e
    cases i with
    | zero => exact ⟨o', rfl⟩
    | succ i => exact outs_par (i := i) e1 (by simpa using h)
  | .own _ _ :: _, [], _, _, _, _, e, _ => by cases e
  | .own _ _ :: _, .own false _ :: _, _, _, _, _, e, _ => by cases e
  | .own _ _ :: _, .no :: _, _, _, _, _, e, _ => by cases e
  | .own _ _ :: _, .val _ :: _, _, _, _, _, e, _ => by cases e
  | .own _ _ :: _, .scr _ :: _, _, _, _, _, e, _ => by cases e
  | .no :: r, [], _, _, _, _, e, _ => by cases e
  | .val _ :: r, [], _, _, _, _, e, _ => by cases e
  | .scr _ :: r, [], _, _, _, _, e, _ => by cases e
  | .no :: r, _ :: r', _, i, _, _, e, h => by
    obtain ⟨q, e1, e⟩ := Option.map_eq_some_iff.mp e
    cases i with
    | zero => simp at h
    | succ i => exact outs_par (i := i) e1 (by simpa using h)
  | .val d :: r, _ :: r', _, i, _, _, e, h => by
    obtain ⟨q, e1, e⟩ := Option.map_eq_some_iff.mp e
    cases i with
    | zero => simp at h
    | succ i => exact outs_par (i := i) e1 (by simpa using h)
  | .scr ns :: r, _ :: r', _, i, _, _, e, h => by
    obtain ⟨q, e1, e⟩ := Option.map_eq_some_iff.mp e
    cases i with
    | zero => simp at h
    | succ i => exact outs_par (i := i) e1 (by simpa using h)
theorem start_get {N : List Str} {vs : List V} {i : Nat} (h : i < vs.length) : (start N vs)[i]? = (vs.map some)[i]? := by
  unfold L2.start
  rw [List.getElem?_append_left (by simpa using h)]
theorem map_lt {vs : List V} {i : Nat} {x : Option V} (h : (vs.map some)[i]? = some x) : i < vs.length := by
  have := (List.getElem?_eq_some_iff.mp h).1
  simpa using this
theorem in_get {ρa : Rho} {n i : Nat} {s : Sl} (h : (ρa.map inS ++ List.replicate n Sl.no)[i]? = some s) : (∃ s0, ρa[i]? = some s0 ∧ s = inS s0) ∨ (ρa.length ≤ i ∧ s = .no) := by
  by_cases hi : i < ρa.length
  · rw [List.getElem?_append_left (by simpa using hi), List.getElem?_map] at h
    obtain ⟨s0, e0, e⟩ := Option.map_eq_some_iff.mp h
    exact .inl ⟨s0, e0, e.symm⟩
  · rw [List.getElem?_append_right (by simpa using Nat.le_of_not_lt hi), List.getElem?_replicate] at h
    split at h
    · cases h; exact .inr ⟨Nat.le_of_not_lt hi, rfl⟩
    · cases h
theorem ow_in {N : List Str} {vs : List V} {n : Nat} {a : Addr} (hl : ρa.length = vs.length) : Ow (ρa.map inS ++ List.replicate n Sl.no) (start N vs) a ↔ Ow ρa (vs.map some) a := by
  constructor
  · rintro ⟨i, b, o, q, e⟩
    rcases in_get q with ⟨s0, q0, es⟩ | ⟨_, es⟩
    · cases s0 with
      | own b' o' =>
        cases es
        have hi : i < vs.length := by rw [← hl]; exact (List.getElem?_eq_some_iff.mp q0).1
        exact ⟨i, b', _, q0, by rw [← start_get (N := N) hi]; exact e⟩
      | no => cases es
      | val _ => cases es
      | scr _ => cases es
    · cases es
  · rintro ⟨i, b, o, q, e⟩
    have hi : i < ρa.length := (List.getElem?_eq_some_iff.mp q).1
    refine ⟨i, true, o, ?_, by rw [start_get (map_lt e)]; exact e⟩
    rw [List.getElem?_append_left (by simpa using hi), List.getElem?_map, q]; rfl
theorem Fr.into {N : List Str} {vs : List V} (f : Fr K Z H ρa (vs.map some)) (hN : vs.length ≤ N.length) : Fr K Z H (ρa.map inS ++ List.replicate (N.length - vs.length) Sl.no) (start N vs) := by
  have hl : ρa.length = vs.length := by simpa using f.len
  have lt : ∀ {i s}, ρa[i]? = some s → i < vs.length := fun q => by rw [← hl]; exact (List.getElem?_eq_some_iff.mp q).1
  refine ⟨f.zl, ?_, fun i d q => ?_, fun i b o q => ?_, fun i ns q => ?_, fun i j b1 b2 o1 o2 a q1 q2 e1 e2 => ?_⟩
  · unfold L2.start
    simp only [List.length_append, List.length_map, List.length_replicate, hl]
  · rcases in_get q with ⟨s0, q0, es⟩ | ⟨_, es⟩
    · cases s0 with
      | val d' => cases es; rw [start_get (lt q0)]; exact f.val _ _ q0
      | own _ _ => cases es
      | no => cases es
      | scr _ => cases es
    · cases es
  · rcases in_get q with ⟨s0, q0, es⟩ | ⟨_, es⟩
    · cases s0 with
      | own b' o' => cases es; rw [start_get (lt q0)]; exact f.own _ _ _ q0
      | val _ => cases es
      | no => cases es
      | scr _ => cases es
    · cases es
  · rcases in_get q with ⟨s0, q0, es⟩ | ⟨_, es⟩
    · cases s0 with
      | scr ns' => cases es; rw [start_get (lt q0)]; exact f.scr _ _ q0
      | val _ => cases es
      | no => cases es
      | own _ _ => cases es
    · cases es
  · rcases in_get q1 with ⟨s0, q0, es⟩ | ⟨_, es⟩
    · rcases in_get q2 with ⟨s0', q0', es'⟩ | ⟨_, es'⟩
      · cases s0 with
        | own b' o' =>
          cases s0' with
          | own b'' o'' =>
            rw [start_get (lt q0)] at e1
            rw [start_get (lt q0')] at e2
            exact f.apart _ _ _ _ _ _ _ q0 q0' e1 e2
          | val _ => cases es'
          | no => cases es'
          | scr _ => cases es'
        | val _ => cases es
        | no => cases es
        | scr _ => cases es
      · cases es'
    · cases es
/-- a body's end, for the caller: its parameters' slots alone -/
theorem Go.out {N : List Str} {vs : List V} (f : Fr K Z H ρa (vs.map some)) (ho : outs ρa ρ' = some ρo) (g : Go K Z H (ρa.map inS ++ List.replicate (N.length - vs.length) Sl.no) (start N vs) Z' H' ρ' σ') :
    Go K Z H ρa (vs.map some) Z' H' ρo (vs.map some) ∧ ∀ a, Ow ρo (vs.map some) a → Ow ρ' σ' a := by
  have hl : ρa.length = vs.length := by simpa using f.len
  have lt : ∀ {i s}, ρa[i]? = some s → i < vs.length := fun q => by rw [← hl]; exact (List.getElem?_eq_some_iff.mp q).1
  have at' : ∀ {i b o o'}, ρa[i]? = some (Sl.own b o) → ρ'[i]? = some (Sl.own true o') → σ'[i]? = (vs.map some)[i]? := fun q q' => by
    rw [(g.par _ _ q').2, start_get (lt q)]
  have ks : Ks K Z H Z' H' := ⟨g.st.zm, fun a o z e => g.st.keep a o e fun w => f.nz ((ow_in hl).mp w) z, sqT_keep g.st.keep fun a w => f.mut ((ow_in hl).mp w), fun a o u e => g.st.keep a _ e fun w => (f.mut ((ow_in hl).mp w)).frz e⟩
  have ow' : ∀ a, Ow ρo (vs.map some) a → Ow ρ' σ' a := fun a ⟨i, b, o, q, e⟩ => by
    rcases outs_get ho q with ⟨b1, o1, o2, es, q1, q2⟩ | ⟨ne, _⟩
    · exact ⟨i, true, o2, q2, by rw [at' q1 q2]; exact e⟩
    · exact (ne _ _ rfl).elim
  refine ⟨⟨⟨fun a o h w => g.st.keep a o h fun w' => w ((ow_in hl).mp w'), g.st.zm, fun a z => ?_, fun a w => ?_, g.st.gr⟩, ⟨g.fr.zl, ?_, fun i d q => ?_, fun i b o q => ?_, fun i ns q => ?_, fun i j b1 b2 o1 o2 a q1 q2 e1 e2 => ?_⟩, fun i o q => ?_⟩, ow'⟩
  · rcases g.st.zn a z with z | z | z
    · exact .inl z
    · exact .inr (.inl z)
    · exact .inr (.inr ((ow_in hl).mp z))
  · obtain ⟨i, b, o, q, e⟩ := w
    rcases outs_get ho q with ⟨b1, o1, o2, es, q1, q2⟩ | ⟨ne, _⟩
    · exact .inl ⟨i, b1, o1, q1, e⟩
    · exact (ne _ _ rfl).elim
  · rw [outs_len ho]; exact f.len
  · rcases outs_get ho q with ⟨b1, o1, o2, es, q1, q2⟩ | ⟨_, q1⟩
    · cases es
    · obtain ⟨v, e, rd⟩ := f.val _ _ q1
      exact ⟨v, e, RD.mono ks.zm ks.ls ks.tp _ _ rd⟩
  · rcases outs_get ho q with ⟨b1, o1, o2, es, q1, q2⟩ | ⟨ne, _⟩
    · cases es
      obtain ⟨a, e, nz, ro⟩ := g.fr.own _ _ _ q2
      rw [at' q1 q2] at e
      exact ⟨a, e, nz, ro⟩
    · exact (ne _ _ rfl).elim
  · rcases outs_get ho q with ⟨b1, o1, o2, es, q1, q2⟩ | ⟨_, q1⟩
    · cases es
    · obtain ⟨a, e, sc⟩ := f.scr _ _ q1
      exact ⟨a, e, sc.keep fun o q => ks.fz a o _ q⟩
  · rcases outs_get ho q1 with ⟨b3, o3, o4, es, p1, p2⟩ | ⟨ne, _⟩
    · rcases outs_get ho q2 with ⟨b5, o5, o6, es', p3, p4⟩ | ⟨ne, _⟩
      · exact f.apart _ _ _ _ _ _ _ p1 p3 e1 e2
      · exact (ne _ _ rfl).elim
    · exact (ne _ _ rfl).elim
  · rcases outs_get ho q with ⟨b1, o1, o2, es, q1, q2⟩ | ⟨ne, _⟩
    · cases es; exact ⟨⟨o1, q1⟩, rfl⟩
    · exact (ne _ _ rfl).elim
/-- THE RULE for a def: its body's reading m, run by runF -/
theorem fn_z {P : Program} {w : World} {K : PySem.W.Frag} {mg : Str → Option Value} {base : Heap} {x qual : Str} {st : Stmt} {f : Addr} {fd : FuncData} {N ps : List Str} {k : Nat} {m : MS} (F : Fun K x qual st f fd) (S : FnScope N ps (defScope st))
    (hb : ∀ (cdv : Value) (A : Around) (outer : List Env) (s : Shared) (H : Hp) (E : XK), RoomG k (A.deeper (envOfC qual (defScope st) s.heap.objs.size f cdv)) → CSs (cxOf CX0 P w K mg base N qual (defScope st) f cdv A outer s H E).nox (defBody st) m) :
    FnG P w K mg base (k + 1) f fd ps (spD ⟨K, P, w⟩ (runF ps.length N.length m) ps.length) := by
  have hpl : ps.length ≤ N.length := by have := congrArg List.length S.pre; rw [List.length_take] at this; omega
  refine Fun.okG F S (fun vs H Q E h => h.1) fun cdv A outer s H vs Q E hr h => ?_
  obtain ⟨hv, Z, ρa, r, ρo, fr, e, kk⟩ := h
  refine ⟨_, hb cdv A outer s H E hr, ?_⟩
  unfold runF at e
  split at e
  · obtain ⟨⟨fl, ρ'⟩, e1, e⟩ := bnd e
    obtain ⟨ρo', e2, e⟩ := bnd e
    have fi := fr.into (N := N) (by rw [hv]; exact hpl)
    rw [hv] at fi
    refine ⟨Z, _, fl, ρ', fi, e1, fun Z' H' σ' g => ?_⟩
    have g' := g
    rw [← hv] at g'
    cases fl with
    | nx =>
      cases e
      obtain ⟨go, _⟩ := Go.out fr e2 g'
      exact kk Z' H' .non go (by simp only [RR, RD])
    | bk => cases e
    | ct => cases e
    | rt r' =>
      cases r' with
      | val d =>
        cases e
        obtain ⟨go, _⟩ := Go.out fr e2 g'
        exact fun v hv => kk Z' H' v go hv
      | bor i => cases e
      | own o =>
        cases e
        obtain ⟨go, how⟩ := Go.out fr e2 g'
        intro v hv'
        obtain ⟨a, ea, nz, nw, ro, n0⟩ := hv'
        refine kk Z' H' v go ⟨a, ea, nz, fun w => nw (how a w), ro, ?_⟩
        rcases n0 with n0 | n0
        · exact n0
        · have hl : ρa.length = vs.length := by simpa using fr.len
          obtain ⟨i, b, o1, q, e'⟩ := (ow_in hl).mp (by rw [← hv] at n0; exact n0)
          obtain ⟨o2, q2⟩ := outs_par e2 q
          refine (nw ⟨i, true, o2, q2, ?_⟩).elim
          rw [(g'.par _ _ q2).2, start_get (map_lt e')]; exact e'
  · cases e
end
end Zl
end

-- ZOwn
section
namespace Zl
open PySem PySem.Spec PyProof.Rows L2

/-! ### a call of a def: containers are shown as data; the first may be handed in to be changed -/
def vArg (ρ : Rho) : R → Option Sl
  | .val d => some (.val d)
  | .own o => some (.val o.toD)
  | .bor j => match ρ[j]? with
    | some (Sl.own _ o) => some (.val o.toD)
    | some (Sl.val d) => some (.val d)
    | some (Sl.scr ns) => some (.scr ns)
    | _ => none
def vArgs (ρ : Rho) : List R → Option Rho
  | [] => some []
  | r :: rs => (vArg ρ r).bind fun s => (vArgs ρ rs).map fun q => s :: q
def vIx (ρ : Rho) : List R → List Nat
  | [] => []
  | .bor j :: rs => match ρ[j]? with
    | some (Sl.own _ _) => j :: vIx ρ rs
    | _ => vIx ρ rs
  | _ :: rs => vIx ρ rs
def frz : List Nat → Rho → Rho
  | [], ρ => ρ
  | j :: js, ρ => match (frz js ρ)[j]? with
    | some (Sl.own _ o) => (frz js ρ).set j (.val o.toD)
    | _ => frz js ρ
def noBor : R → Bool
  | .bor _ => false
  | _ => true
def mCall (F : ME) (ms : MA) : ME := fun ρ => (ms ρ).bind fun p => (vArgs p.2 p.1).bind fun ρa => (F ρa).bind fun q => if noBor q.1 = true then (if cleanR q.1 = true then some (q.1, p.2) else some (q.1, frz (vIx p.2 p.1) p.2)) else none
def mCallIo (F : ME) (i : Nat) (ms : MA) : ME := fun ρ => match ρ[i]? with
  | some (Sl.own _ _) => (ms ρ).bind fun p => match p.2[i]? with
    | some (Sl.own b o) => if i ∈ vIx p.2 p.1 then none else (vArgs p.2 p.1).bind fun ρa => (F (.own true o :: ρa)).bind fun q => match q.2 with
      | .own _ o' :: _ => if noBor q.1 = true then (if cleanR q.1 = true ∧ cleanO o' = true then some (q.1, p.2.set i (.own b o')) else some (q.1, frz (vIx p.2 p.1) (p.2.set i (.own b o')))) else none
      | _ => none
    | _ => none
  | _ => none
section
variable {K : KW} {Z Z1 Z2 Z' : AS} {H H1 H' : Hp} {ρ ρ1 ρ' ρa ρa' : Rho} {σ : St} {rs : List R} {vs : List V}
/-- what becomes data for the call -/
def Tm (rs : List R) (vs : List V) (a : Addr) : Prop := ∃ (k : Nat) (o : O), rs[k]? = some (R.own o) ∧ vs[k]? = some (V.ref a)
def Vw (ρ : Rho) (σ : St) (js : List Nat) (a : Addr) : Prop := ∃ j ∈ js, (∃ b o, ρ[j]? = some (Sl.own b o)) ∧ σ[j]? = some (some (V.ref a))
theorem vArgs_len : ∀ {rs : List R} {ρa : Rho}, vArgs ρ rs = some ρa → ρa.length = rs.length
  | [], _, e => by cases e; rfl
  | r :: rs, _, e => by
    obtain ⟨s, e1, e⟩ := bnd e
    obtain ⟨q, e2, e⟩ := Option.map_eq_some_iff.mp e
    cases e
    simp only [List.length_cons, vArgs_len e2]
theorem vArgs_get : ∀ {rs : List R} {ρa : Rho} {k : Nat} {s : Sl}, vArgs ρ rs = some ρa → ρa[k]? = some s → ∃ r, rs[k]? = some r ∧ vArg ρ r = some s
  | [], _, _, _, e, h => by cases e; simp at h
  | r :: rs, _, k, s, e, h => by
    obtain ⟨s', e1, e⟩ := bnd e
    obtain ⟨q, e2, e⟩ := Option.map_eq_some_iff.mp e
    cases e
    cases k with
    | zero => simp at h; subst h; exact ⟨r, rfl, e1⟩
    | succ k =>
      obtain ⟨r', h1, h2⟩ := vArgs_get (k := k) e2 (by simpa using h)
      exact ⟨r', by simpa using h1, h2⟩
theorem vIx_mem : ∀ {rs : List R} {k j : Nat} {b : Bool} {o : O}, rs[k]? = some (R.bor j) → ρ[j]? = some (Sl.own b o) → j ∈ vIx ρ rs
  | [], _, _, _, _, h, _ => by simp at h
  | r :: rs, 0, j, b, o, h, h' => by
    simp at h; subst h
    unfold vIx
    rw [h']
    exact List.mem_cons_self
  | r :: rs, k + 1, j, b, o, h, h' => by
    have ih := vIx_mem (k := k) (rs := rs) (by simpa using h) h'
    cases r with
    | bor j' =>
      unfold vIx
      split
      · exact List.mem_cons_of_mem _ ih
      · exact ih
    | val _ => exact ih
    | own _ => exact ih
theorem vIx_own : ∀ {rs : List R} {j : Nat}, j ∈ vIx ρ rs → ∃ b o, ρ[j]? = some (Sl.own b o)
  | [], _, h => by simp [vIx] at h
  | .bor j' :: rs, j, h => by
    unfold vIx at h
    split at h
    · rename_i b o q
      rcases List.mem_cons.mp h with rfl | h
      · exact ⟨b, o, q⟩
      · exact vIx_own h
    · exact vIx_own h
  | .val _ :: rs, j, h => vIx_own (rs := rs) h
  | .own _ :: rs, j, h => vIx_own (rs := rs) h
theorem paired_at {α β : Type} {F : α → β → Prop} : ∀ {l : List α} {l' : List β} {k : Nat} {a : α}, Paired F l l' → l[k]? = some a → ∃ b, l'[k]? = some b ∧ F a b
  | _, _, _, _, .nil, h => by simp at h
  | _, _, 0, _, .cons f _, h => by simp at h; subst h; exact ⟨_, rfl, f⟩
  | _, _, k + 1, _, .cons _ t, h => by
    obtain ⟨b, h1, h2⟩ := paired_at (k := k) t (by simpa using h)
    exact ⟨b, by simpa using h1, h2⟩
/-- the arguments that are shown, as data -/
theorem vArgs_ok (f : Fr K Z1 H1 ρ1 σ) (h : Paired (RR K H Z1 H1 ρ1 σ) rs vs) (e : vArgs ρ1 rs = some ρa) :
    let Z2 : AS := fun a => Z1 a ∨ Tm rs vs a ∨ Vw ρ1 σ (vIx ρ1 rs) a
    ∀ (k : Nat) (s : Sl), ρa[k]? = some s → ∃ v, vs[k]? = some v ∧ match s with
      | .val d => RD K Z2 H1 d v
      | .scr ns => ∃ a, v = .ref a ∧ Scr K H1 a ns
      | _ => False := by
  intro Z2 k s hk
  obtain ⟨r, hr, ha⟩ := vArgs_get e hk
  obtain ⟨v, hv, rr⟩ := paired_at h hr
  refine ⟨v, hv, ?_⟩
  have mz : ∀ b, Z1 b → Z2 b := fun b z => .inl z
  cases r with
  | val d => cases ha; exact RD.zmono mz rr
  | own o =>
    cases ha
    obtain ⟨a, rfl, _, _, ro, _⟩ := rr
    refine RD.zmono (fun b z => ?_) (RO.rd ro)
    rcases z with z | z
    · exact .inl z
    · subst z; exact .inr (.inl ⟨k, o, hr, hv⟩)
  | bor j =>
    have hσ : σ[j]? = some (some v) := rr
    simp only [vArg] at ha
    split at ha
    · rename_i b o q
      cases ha
      obtain ⟨a, ea, _, ro⟩ := f.own _ _ _ q
      rw [hσ] at ea; cases ea
      refine RD.zmono (fun b' z => ?_) (RO.rd ro)
      rcases z with z | z
      · exact .inl z
      · subst z; exact .inr (.inr ⟨j, vIx_mem hr q, ⟨b, o, q⟩, hσ⟩)
    · rename_i d q
      cases ha
      obtain ⟨v', ev, rd⟩ := f.val _ _ q
      rw [hσ] at ev; cases ev
      exact RD.zmono mz rd
    · rename_i ns q
      cases ha
      obtain ⟨a, ev, sc⟩ := f.scr _ _ q
      rw [hσ] at ev; cases ev
      exact ⟨a, rfl, sc⟩
    · cases ha
theorem tm_at (h : Paired (RR K H Z1 H1 ρ1 σ) rs vs) {a : Addr} (t : Tm rs vs a) : H1 a ≠ none ∧ ¬ Ow ρ1 σ a ∧ H a = none := by
  obtain ⟨k, o, hr, hv⟩ := t
  obtain ⟨v, hv', rr⟩ := paired_at h hr
  rw [hv] at hv'; cases hv'
  obtain ⟨b, eb, _, nw, ro, n0⟩ := rr
  cases eb
  exact ⟨ro.live, nw, n0⟩
theorem vw_ow {a : Addr} {js : List Nat} (w : Vw ρ1 σ js a) : Ow ρ1 σ a := by
  obtain ⟨j, _, ⟨b, o, q⟩, e⟩ := w
  exact ⟨j, b, o, q, e⟩
theorem frz_len : ∀ js, (frz js ρ).length = ρ.length
  | [] => rfl
  | j :: js => by
    unfold frz
    split
    · rw [List.length_set, frz_len js]
    · exact frz_len js
theorem frz_get : ∀ {js : List Nat} {i : Nat} {s : Sl}, (frz js ρ)[i]? = some s → (ρ[i]? = some s ∧ (i ∈ js → ∀ b o, s ≠ .own b o)) ∨ (i ∈ js ∧ ∃ b o, ρ[i]? = some (Sl.own b o) ∧ s = .val o.toD)
  | [], _, _, h => .inl ⟨h, fun z => by simp at z⟩
  | j :: js, i, s, h => by
    unfold frz at h
    split at h
    · rename_i b o q
      rcases set_get h with ⟨rfl, e, _⟩ | ⟨n, h⟩
      · subst e
        rcases frz_get q with ⟨q1, _⟩ | ⟨_, b', o', _, es⟩
        · exact .inr ⟨List.mem_cons_self, b, o, q1, rfl⟩
        · cases es
      · rcases frz_get h with ⟨h1, h2⟩ | ⟨h1, h2⟩
        · exact .inl ⟨h1, fun z => (List.mem_cons.mp z).elim (fun e => (n e).elim) h2⟩
        · exact .inr ⟨List.mem_cons_of_mem _ h1, h2⟩
    · rename_i nq
      rcases frz_get h with ⟨h1, h2⟩ | ⟨h1, h2⟩
      · refine .inl ⟨h1, fun z => ?_⟩
        rcases List.mem_cons.mp z with rfl | z
        · intro b o e
          subst e
          exact nq b o h
        · exact h2 z
      · exact .inr ⟨List.mem_cons_of_mem _ h1, h2⟩
theorem sq_frz {Za : AS} (js : List Nat) : Ow (frz js ρ) σ = Ow (frz js ρ) σ := rfl
/-- the caller's state behind a call; io: the slot whose container was handed in to be changed -/
theorem call_end {Zf : AS} {vs' : List V} (g1 : Go K Z H ρ σ Z1 H1 ρ1 σ) (h : Paired (RR K H Z1 H1 ρ1 σ) rs vs) {Z2 : AS} (hZ2 : Z2 = fun a => Z1 a ∨ Tm rs vs a ∨ Vw ρ1 σ (vIx ρ1 rs) a)
    (fa : Fr K Z2 H1 ρa (vs'.map some)) (ga : Go K Z2 H1 ρa (vs'.map some) Z' H' ρa' (vs'.map some)) (how : ∀ a, Ow ρa (vs'.map some) a → Ow ρ σ a ∨ H a = none) (hnv : ∀ a, Ow ρa (vs'.map some) a → ¬ Vw ρ1 σ (vIx ρ1 rs) a)
    {ρ2 : Rho} (hl : ρ2.length = ρ1.length)
    (hf1 : ∀ a, Zf a → Z' a) (hf2 : ∀ a, Z1 a → Zf a) (hf3 : ∀ a, Z' a → Zf a ∨ Vw ρ1 σ (vIx ρ1 rs) a)
    (hs : ∀ (i : Nat) (s : Sl), ρ2[i]? = some s → (ρ1[i]? = some s ∧ ∀ b o, s = .own b o → ∀ a, σ[i]? = some (some (V.ref a)) → ¬ Zf a ∧ ¬ Ow ρa (vs'.map some) a) ∨
      (∃ b o o' a, ρ1[i]? = some (Sl.own b o) ∧ s = .own b o' ∧ σ[i]? = some (some (V.ref a)) ∧ ¬ Zf a ∧ RO K Zf H' o' a) ∨ (∃ b o v, ρ1[i]? = some (Sl.own b o) ∧ ∃ d, s = .val d ∧ σ[i]? = some (some v) ∧ RD K Zf H' d v)) :
    Go K Z H ρ σ Zf H' ρ2 σ := by
  have ks : Ks K Z2 H1 Z' H' := Go.ks fa ga
  have ks1 : Ks K Z1 H1 Zf H' := ⟨hf2, fun a o z e => ks.ls a o (by rw [hZ2]; exact .inl z) e, ks.tp, ks.fz⟩
  have ow2 : ∀ a, Ow ρ2 σ a → Ow ρ1 σ a := fun a ⟨i, b, o, q, e⟩ => by
    rcases hs i _ q with ⟨q1, _⟩ | ⟨b', o', o'', a', q1, es, _⟩ | ⟨_, _, _, _, _, es, _⟩
    · exact ⟨i, b, o, q1, e⟩
    · exact ⟨i, b', o', q1, e⟩
    · cases es
  refine ⟨⟨fun a o e w => ?_, fun a z => hf2 a (g1.st.zm a z), fun a z => ?_, fun a w => g1.st.wn a (ow2 a w), fun a e => g1.st.gr a (ga.st.gr a e)⟩, ⟨fun a z => ga.fr.zl a (hf1 a z), by rw [hl]; exact g1.fr.len, fun i d q => ?_, fun i b o q => ?_, fun i ns q => ?_, fun i j b1 b2 o1 o2 a q1 q2 e1 e2 => ?_⟩, fun i o q => ?_⟩
  · refine ga.st.keep a o (g1.st.keep a o e w) fun w' => ?_
    rcases how a w' with z | z
    · exact w z
    · rw [e] at z; cases z
  · rcases ga.st.zn a (hf1 a z) with z | z | z
    · rw [hZ2] at z
      rcases z with z | z | z
      · exact g1.st.zn a z
      · exact .inr (.inl (tm_at h z).2.2)
      · rcases g1.st.wn a (vw_ow z) with z | z
        · exact .inr (.inr z)
        · exact .inr (.inl z)
    · exact .inr (.inl (g1.st.gr a z))
    · rcases how a z with z | z
      · exact .inr (.inr z)
      · exact .inr (.inl z)
  · rcases hs i _ q with ⟨q1, _⟩ | ⟨b', o', o'', a', q1, es, _⟩ | ⟨b', o', v, q1, d', es, e, rd⟩
    · obtain ⟨v, e, rd⟩ := g1.fr.val _ _ q1
      exact ⟨v, e, RD.mono ks1.zm ks1.ls ks1.tp _ _ rd⟩
    · cases es
    · cases es
      exact ⟨v, e, rd⟩
  · rcases hs i _ q with ⟨q1, nz⟩ | ⟨b', o', o'', a', q1, es, e, nz, ro⟩ | ⟨b', o', v, q1, d', es, e, rd⟩
    · obtain ⟨a, e, nz1, ro⟩ := g1.fr.own _ _ _ q1
      obtain ⟨nz, nw⟩ := nz b o rfl a e
      refine ⟨a, e, nz, ?_⟩
      cases o with
      | lst ds => obtain ⟨vs, q, r⟩ := ro; exact ⟨vs, ga.st.keep a _ q nw, RDs.mono ks1.zm ks1.ls ks1.tp _ _ r⟩
      | dct ds => obtain ⟨vs, q, r⟩ := ro; exact ⟨vs, ga.st.keep a _ q nw, RDk.mono ks1.zm ks1.ls ks1.tp _ _ r⟩
      | dtp ds => obtain ⟨vs, q, r⟩ := ro; exact ⟨vs, ga.st.keep a _ q nw, RDt.mono ks1.zm ks1.ls ks1.tp _ _ r.1, r.2⟩
    · cases es
      exact ⟨a', e, nz, ro⟩
    · cases es
  · rcases hs i _ q with ⟨q1, _⟩ | ⟨b', o', o'', a', q1, es, _⟩ | ⟨b', o', v, q1, d', es, e, rd⟩
    · obtain ⟨a, e, sc⟩ := g1.fr.scr _ _ q1
      exact ⟨a, e, sc.keep fun o q => ks1.fz a o _ q⟩
    · cases es
    · cases es
  · obtain ⟨b3, o3, p1⟩ : ∃ b o, ρ1[i]? = some (Sl.own b o) := by
      rcases hs i _ q1 with ⟨q1, _⟩ | ⟨b', o', o'', a', q1, es, _⟩ | ⟨b', o', v, q1, d', es, e, rd⟩
      · exact ⟨_, _, q1⟩
      · exact ⟨_, _, q1⟩
      · cases es
    obtain ⟨b4, o4, p2⟩ : ∃ b o, ρ1[j]? = some (Sl.own b o) := by
      rcases hs j _ q2 with ⟨q1, _⟩ | ⟨b', o', o'', a', q1, es, _⟩ | ⟨b', o', v, q1, d', es, e, rd⟩
      · exact ⟨_, _, q1⟩
      · exact ⟨_, _, q1⟩
      · cases es
    exact g1.fr.apart _ _ _ _ _ _ _ p1 p2 e1 e2
  · rcases hs i _ q with ⟨q1, _⟩ | ⟨b', o', o'', a', q1, es, _⟩ | ⟨b', o', v, q1, d', es, e, rd⟩
    · exact g1.par i o q1
    · cases es; exact g1.par i o' q1
    · cases es

theorem shown_fr {a : Addr} (f : Fr K Z1 H1 ρ1 σ) (h : Paired (RR K H Z1 H1 ρ1 σ) rs vs) {Z2 : AS} (hZ2 : Z2 = fun a => Z1 a ∨ Tm rs vs a ∨ Vw ρ1 σ (vIx ρ1 rs) a) (z : Z2 a) : H1 a ≠ none := by
  rw [hZ2] at z
  rcases z with z | z | z
  · exact f.zl a z
  · exact (tm_at h z).1
  · exact f.live (vw_ow z)
/-- an owned slot that is not shown is not among what became data -/
theorem not_shown {i : Nat} {b : Bool} {o : O} {a : Addr} (f : Fr K Z1 H1 ρ1 σ) (h : Paired (RR K H Z1 H1 ρ1 σ) rs vs) {Z2 : AS} (hZ2 : Z2 = fun a => Z1 a ∨ Tm rs vs a ∨ Vw ρ1 σ (vIx ρ1 rs) a) (q : ρ1[i]? = some (Sl.own b o)) (e : σ[i]? = some (some (V.ref a))) (z : Z2 a) : Vw ρ1 σ (vIx ρ1 rs) a ∧ i ∈ vIx ρ1 rs := by
  rw [hZ2] at z
  rcases z with z | z | z
  · exact (f.nz ⟨i, b, o, q, e⟩ z).elim
  · exact ((tm_at h z).2.1 ⟨i, b, o, q, e⟩).elim
  · refine ⟨z, ?_⟩
    obtain ⟨j, hj, ⟨b', o', q'⟩, e'⟩ := z
    rw [f.apart _ _ _ _ _ _ _ q q' e e']; exact hj
theorem rd_shown {i : Nat} {b : Bool} {o : O} {v : V} (f : Fr K Z1 H1 ρ1 σ) (q : ρ1[i]? = some (Sl.own b o)) (hi : i ∈ vIx ρ1 rs) (e : σ[i]? = some (some v)) : RD K (fun a => Z1 a ∨ Tm rs vs a ∨ Vw ρ1 σ (vIx ρ1 rs) a) H1 o.toD v := by
  obtain ⟨a, ea, _, ro⟩ := f.own _ _ _ q
  rw [e] at ea; cases ea
  refine RD.zmono (fun b' z => ?_) (RO.rd ro)
  rcases z with z | z
  · exact .inl z
  · subst z; exact .inr (.inr ⟨i, hi, ⟨b, o, q⟩, e⟩)
theorem args_fr (f : Fr K Z1 H1 ρ1 σ) (h : Paired (RR K H Z1 H1 ρ1 σ) rs vs) (e : vArgs ρ1 rs = some ρa) {Z2 : AS} (hZ2 : Z2 = fun a => Z1 a ∨ Tm rs vs a ∨ Vw ρ1 σ (vIx ρ1 rs) a) : Fr K Z2 H1 ρa (vs.map some) ∧ ∀ (k : Nat) (b : Bool) (o : O), ρa[k]? ≠ some (Sl.own b o) := by
  have hv := vArgs_ok f h e
  have no : ∀ (k : Nat) (b : Bool) (o : O), ρa[k]? ≠ some (Sl.own b o) := fun k b o q => by obtain ⟨v, _, z⟩ := hv k _ q; exact z
  subst hZ2
  refine ⟨⟨fun a z => shown_fr f h rfl z, by rw [vArgs_len e, List.length_map, paired_len h], fun k d q => ?_, fun k b o q => (no k b o q).elim, fun k ns q => ?_, fun i j b1 b2 o1 o2 a q1 q2 _ _ => (no i _ _ q1).elim⟩, no⟩
  · obtain ⟨v, ev, rd⟩ := hv k _ q
    exact ⟨v, by rw [List.getElem?_map, ev]; rfl, rd⟩
  · obtain ⟨v, ev, a, ea, sc⟩ := hv k _ q
    exact ⟨a, by rw [List.getElem?_map, ev, ea]; rfl, sc⟩
theorem rr_back {r : R} {v : V} {Zf : AS} {ρ2 : Rho} {σ2 : St} (g1 : Go K Z H ρ σ Z1 H1 ρ1 σ) (nb : noBor r = true) (h : RR K H1 Z' H' ρa' σ2 r v) (how : ∀ a, Ow ρ2 σ a → Ow ρ1 σ a) (hz : ∀ a, Zf a → Z' a)
    (hd : ∀ d, r = .val d → RD K Z' H' d v → RD K Zf H' d v) (ho : ∀ o a, r = .own o → RO K Z' H' o a → RO K Zf H' o a) : RR K H Zf H' ρ2 σ r v := by
  cases r with
  | val d => exact hd d rfl h
  | bor _ => cases nb
  | own o =>
    obtain ⟨a, ea, nz, nw, ro, n0⟩ := h
    exact ⟨a, ea, fun z => nz (hz a z), fun w => g1.fr.live (how a w) n0, ho o a rfl ro, g1.st.gr a n0⟩
theorem tE_call {F : ME} {ms : MA} {n : Nat} {E : XK} (hF : ∀ ρ r, F ρ = some r → ρ.length = n) : ∀ σ H Q, tE K (mCall F ms) σ H Q → tCall (spD K F n) [] E (tAR K ms) σ H Q := fun σ H Q ⟨Z, ρ, r, ρ', fr, e, k⟩ => by
  obtain ⟨⟨rs, ρ1⟩, e1, e⟩ := bnd e
  obtain ⟨ρa, e2, e⟩ := bnd e
  obtain ⟨⟨r3, ρa'⟩, e3, e⟩ := bnd e
  split at e
  · rename_i nb
    refine ⟨Z, ρ, rs, ρ1, fr, e1, fun Z1 H1 vs g1 h1 => ?_⟩
    obtain ⟨fa, no⟩ := args_fr g1.fr h1 e2 rfl
    have hl : vs.length = n := by rw [← paired_len h1, ← vArgs_len e2]; exact hF _ _ e3
    show spD K F n (vs ++ []) H1 Q E
    rw [List.append_nil]
    refine ⟨hl, _, ρa, r3, ρa', fa, e3, fun Z' H' v ga hr => ?_⟩
    have now : ∀ a, ¬ Ow ρa (vs.map some) a := fun a ⟨i, b, o, q, _⟩ => no i b o q
    have zin : ∀ a, Z' a → H1 a ≠ none → Z1 a ∨ Tm rs vs a ∨ Vw ρ1 σ (vIx ρ1 rs) a := fun a z hn => by
      rcases ga.st.zn a z with z | z | z
      · exact z
      · exact (hn z).elim
      · exact (now a z).elim
    split at e
    · rename_i cl
      cases e
      have gf : Go K Z H ρ σ (fun a => Z' a ∧ ¬ Vw ρ1 σ (vIx ρ1 rs) a) H' ρ1 σ := by
        refine call_end g1 h1 rfl fa ga (fun a w => (now a w).elim) (fun a w => (now a w).elim) rfl (fun a z => z.1) (fun a z => ⟨ga.st.zm a (.inl z), fun w => g1.fr.nz (vw_ow w) z⟩) (fun a z => ?_) fun i s q => .inl ⟨q, fun b o es a ea => ?_⟩
        · by_cases w : Vw ρ1 σ (vIx ρ1 rs) a
          · exact .inr w
          · exact .inl ⟨z, w⟩
        · subst es
          exact ⟨fun z => z.2 (not_shown g1.fr h1 rfl q ea (zin a z.1 (g1.fr.live ⟨i, b, o, q, ea⟩))).1, now a⟩
      exact k _ H' v gf (rr_back g1 nb hr (fun _ w => w) (fun _ z => z.1) (fun d ed h => by subst ed; exact clean_rd cl h) (fun o a eo h => by subst eo; exact clean_ro cl h))
    · cases e
      have gf : Go K Z H ρ σ Z' H' (frz (vIx ρ1 rs) ρ1) σ := by
        refine call_end g1 h1 rfl fa ga (fun a w => (now a w).elim) (fun a w => (now a w).elim) (frz_len _) (fun a z => z) (fun a z => ga.st.zm a (.inl z)) (fun a z => .inl z) fun i s q => ?_
        rcases frz_get q with ⟨q1, nq⟩ | ⟨hi, b, o, q1, es⟩
        · refine .inl ⟨q1, fun b o es a ea => ⟨fun z => ?_, now a⟩⟩
          subst es
          exact nq (not_shown g1.fr h1 rfl q1 ea (zin a z (g1.fr.live ⟨i, b, o, q1, ea⟩))).2 b o rfl
        · obtain ⟨a, ea, _⟩ := g1.fr.own _ _ _ q1
          exact .inr (.inr ⟨b, o, .ref a, q1, _, es, ea, fa.rd ga.st (rd_shown g1.fr q1 hi ea)⟩)
      have ow2 : ∀ a, Ow (frz (vIx ρ1 rs) ρ1) σ a → Ow ρ1 σ a := fun a ⟨i, b, o, q, e⟩ => by
        rcases frz_get q with ⟨q1, _⟩ | ⟨_, _, _, _, es⟩
        · exact ⟨i, b, o, q1, e⟩
        · cases es
      exact k _ H' v gf (rr_back g1 nb hr ow2 (fun _ z => z) (fun d ed h => h) (fun o a eo h => h))
  · cases e
theorem tE_callIo {F : ME} {ms : MA} {n i : Nat} {E : XK} (hF : ∀ ρ r, F ρ = some r → ρ.length = n) : ∀ σ H Q, tE K (mCallIo F i ms) σ H Q → tCall (spD K F n) [] E (tCons (tVar i) (tAR K ms)) σ H Q := fun σ H Q ⟨Z, ρ, r, ρ', fr, e, k⟩ => by
  unfold mCallIo at e
  split at e
  · rename_i b0 o0 q0
    obtain ⟨⟨rs, ρ1⟩, e1, e⟩ := bnd e
    simp only at e
    split at e
    · rename_i b o q
      split at e
      · cases e
      · rename_i hiv
        obtain ⟨ρr, e2, e⟩ := bnd e
        obtain ⟨⟨r3, ρa'⟩, e3, e⟩ := bnd e
        simp only at e
        split at e
        · rename_i bq o' rest
          obtain ⟨a0, ea0, _, _⟩ := fr.own _ _ _ q0
          refine ⟨.ref a0, ea0, Z, ρ, rs, ρ1, fr, e1, fun Z1 H1 vs g1 h1 => ?_⟩
          obtain ⟨fr', no⟩ := args_fr g1.fr h1 e2 rfl
          have hl : (V.ref a0 :: vs).length = n := by
            have := hF _ _ e3
            rw [List.length_cons, vArgs_len e2, paired_len h1] at this
            exact this
          have nz0 : ¬ (Z1 a0 ∨ Tm rs vs a0 ∨ Vw ρ1 σ (vIx ρ1 rs) a0) := fun z => hiv (not_shown g1.fr h1 rfl q ea0 z).2
          have ro0 : RO K Z1 H1 o a0 := by
            obtain ⟨a, ea, _, ro⟩ := g1.fr.own _ _ _ q
            rw [ea0] at ea; cases ea; exact ro
          have fa : Fr K (fun a => Z1 a ∨ Tm rs vs a ∨ Vw ρ1 σ (vIx ρ1 rs) a) H1 (.own true o :: ρr) ((V.ref a0 :: vs).map some) := by
            refine ⟨fr'.zl, by rw [List.map_cons, List.length_cons, List.length_cons, fr'.len], fun k d q => ?_, fun k b o q => ?_, fun k ns q => ?_, fun k j b1 b2 o1 o2 a q1 q2 _ _ => ?_⟩
            · cases k with
              | zero => cases q
              | succ k => simpa using fr'.val k d (by simpa using q)
            · cases k with
              | zero => cases q; exact ⟨a0, rfl, nz0, ro0.zmono fun b z => .inl z⟩
              | succ k => exact (no k b o (by simpa using q)).elim
            · cases k with
              | zero => cases q
              | succ k => simpa using fr'.scr k ns (by simpa using q)
            · cases k with
              | zero =>
                cases j with
                | zero => rfl
                | succ j => exact (no j b2 o2 (by simpa using q2)).elim
              | succ k => exact (no k b1 o1 (by simpa using q1)).elim
          have owa : ∀ a, Ow (.own true o :: ρr) ((V.ref a0 :: vs).map some) a → a = a0 := fun a ⟨k, b, o, q, e⟩ => by
            cases k with
            | zero => simp at e; exact e.symm
            | succ k => exact (no k b o (by simpa using q)).elim
          show spD K F n ((V.ref a0 :: vs) ++ []) H1 Q E
          rw [List.append_nil]
          refine ⟨hl, _, _, r3, _, fa, e3, fun Z' H' v ga hr => ?_⟩
          obtain ⟨a1, ea1, nz1, ro1⟩ := ga.fr.own 0 bq o' rfl
          cases ea1
          have zin : ∀ a, Z' a → H1 a ≠ none → a ≠ a0 → Z1 a ∨ Tm rs vs a ∨ Vw ρ1 σ (vIx ρ1 rs) a := fun a z hn ne => by
            rcases ga.st.zn a z with z | z | z
            · exact z
            · exact (hn z).elim
            · exact (ne (owa a z)).elim
          have ow1 : ∀ a, Ow (.own true o :: ρr) ((V.ref a0 :: vs).map some) a → Ow ρ1 σ a := fun a w => by rw [owa a w]; exact ⟨i, b, o, q, ea0⟩
          have nv1 : ∀ a, Ow (.own true o :: ρr) ((V.ref a0 :: vs).map some) a → ¬ Vw ρ1 σ (vIx ρ1 rs) a := fun a w z => by rw [owa a w] at z; exact nz0 (.inr (.inr z))
          have ne0 : ∀ {j b' o'' a}, j ≠ i → ρ1[j]? = some (Sl.own b' o'') → σ[j]? = some (some (V.ref a)) → a ≠ a0 := fun hj q' e' z => by
            subst z; exact hj (g1.fr.apart _ _ _ _ _ _ _ q' q e' ea0)
          split at e
          · rename_i nb
            split at e
            · rename_i cl
              cases e
              have gf : Go K Z H ρ σ (fun a => Z' a ∧ ¬ Vw ρ1 σ (vIx ρ1 rs) a) H' (ρ1.set i (.own b o')) σ := by
                refine call_end g1 h1 rfl fa ga (fun a w => g1.st.wn a (ow1 a w)) nv1 List.length_set (fun a z => z.1) (fun a z => ⟨ga.st.zm a (.inl z), fun w => g1.fr.nz (vw_ow w) z⟩) (fun a z => ?_) fun j s qs => ?_
                · by_cases w : Vw ρ1 σ (vIx ρ1 rs) a
                  · exact .inr w
                  · exact .inl ⟨z, w⟩
                · rcases set_get qs with ⟨rfl, es, _⟩ | ⟨hj, qs⟩
                  · exact .inr (.inl ⟨b, o, o', a0, q, es, ea0, fun z => nz1 z.1, clean_ro cl.2 ro1⟩)
                  · refine .inl ⟨qs, fun b2 o2 es a ea => ?_⟩
                    subst es
                    have hne := ne0 hj qs ea
                    exact ⟨fun z => z.2 (not_shown g1.fr h1 rfl qs ea (zin a z.1 (g1.fr.live ⟨j, _, _, qs, ea⟩) hne)).1, fun w => hne (owa a w)⟩
              have ow2 : ∀ a, Ow (ρ1.set i (.own b o')) σ a → Ow ρ1 σ a := fun a ⟨j, b2, o2, q2, e2⟩ => by
                rcases set_get q2 with ⟨rfl, es, _⟩ | ⟨hj, qs⟩
                · exact ⟨_, b, o, q, e2⟩
                · exact ⟨j, b2, o2, qs, e2⟩
              exact k _ H' v gf (rr_back g1 nb hr ow2 (fun _ z => z.1) (fun d ed h => by subst ed; exact clean_rd cl.1 h) (fun o a eo h => by subst eo; exact clean_ro cl.1 h))
            · cases e
              have gf : Go K Z H ρ σ Z' H' (frz (vIx ρ1 rs) (ρ1.set i (.own b o'))) σ := by
                refine call_end g1 h1 rfl fa ga (fun a w => g1.st.wn a (ow1 a w)) nv1 (by rw [frz_len, List.length_set]) (fun a z => z) (fun a z => ga.st.zm a (.inl z)) (fun a z => .inl z) fun j s qs => ?_
                rcases frz_get qs with ⟨q1, nq⟩ | ⟨hjv, b2, o2, q1, es⟩
                · rcases set_get q1 with ⟨rfl, es, _⟩ | ⟨hj, q1⟩
                  · exact .inr (.inl ⟨b, o, o', a0, q, es, ea0, nz1, ro1⟩)
                  · refine .inl ⟨q1, fun b2 o2 es a ea => ?_⟩
                    subst es
                    have hne := ne0 hj q1 ea
                    exact ⟨fun z => nq (not_shown g1.fr h1 rfl q1 ea (zin a z (g1.fr.live ⟨j, _, _, q1, ea⟩) hne)).2 _ _ rfl, fun w => hne (owa a w)⟩
                · rcases set_get q1 with ⟨rfl, _, _⟩ | ⟨hj, q1⟩
                  · exact (hiv hjv).elim
                  · obtain ⟨a, ea, _⟩ := g1.fr.own _ _ _ q1
                    exact .inr (.inr ⟨b2, o2, .ref a, q1, _, es, ea, fa.rd ga.st (rd_shown g1.fr q1 hjv ea)⟩)
              have ow2 : ∀ a, Ow (frz (vIx ρ1 rs) (ρ1.set i (.own b o'))) σ a → Ow ρ1 σ a := fun a ⟨j, b2, o2, q2, e2⟩ => by
                rcases frz_get q2 with ⟨q1, _⟩ | ⟨_, _, _, _, es⟩
                · rcases set_get q1 with ⟨rfl, es, _⟩ | ⟨hj, qs⟩
                  · exact ⟨_, b, o, q, e2⟩
                  · exact ⟨j, b2, o2, qs, e2⟩
                · cases es
              exact k _ H' v gf (rr_back g1 nb hr ow2 (fun _ z => z) (fun d ed h => h) (fun o a eo h => h))
          · cases e
        · cases e
    · cases e
  · cases e
end
def mCallTmp (F m : ME) (ms : MA) : ME := fun ρ => (m ρ).bind fun p => match p.1 with
  | .own o => (ms p.2).bind fun p => (vArgs p.2 p.1).bind fun ρa => (F (.own true o :: ρa)).bind fun q => if noBor q.1 = true then (if cleanR q.1 = true then some (q.1, p.2) else some (q.1, frz (vIx p.2 p.1) p.2)) else none
  | _ => none
section
variable {K : KW} {Z Z1 Z2 Z' : AS} {H H1 H' : Hp} {ρ ρ1 ρ' ρa ρa' : Rho} {σ : St} {rs : List R} {vs : List V}
theorem tE_callTmp {F m : ME} {ms : MA} {n : Nat} {E : XK} (hF : ∀ ρ r, F ρ = some r → ρ.length = n) : ∀ σ H Q, tE K (mCallTmp F m ms) σ H Q → tCall (spD K F n) [] E (tCons (tE K m) (tAR K ms)) σ H Q := fun σ H Q ⟨Z, ρ, r, ρ', fr, e, k⟩ => by
  obtain ⟨⟨r0, ρ0⟩, e0, e⟩ := bnd e
  simp only at e
  split at e
  · rename_i o
    obtain ⟨⟨rs, ρ1⟩, e1, e⟩ := bnd e
    obtain ⟨ρr, e2, e⟩ := bnd e
    obtain ⟨⟨r3, ρa'⟩, e3, e⟩ := bnd e
    split at e
    · rename_i nb
      refine ⟨Z, ρ, .own o, ρ0, fr, e0, fun Z0 H0 v0 g0 h0 => ⟨Z0, ρ0, rs, ρ1, g0.fr, e1, fun Z1 H1 vs g1' h1' => ?_⟩⟩
      have g1 := g0.trans g1'
      have h1 : Paired (RR K H Z1 H1 ρ1 σ) rs vs := Paired.mapP h1' fun _ _ h => h.at0 g0
      obtain ⟨a0, rfl, nz, nw, ro0, n0⟩ := h0.go g0.fr g1'
      have lv0 : H0 a0 ≠ none := by
        obtain ⟨b0, eb0, _, _, rob, _⟩ := h0
        cases eb0
        exact rob.live
      obtain ⟨fr', no⟩ := args_fr g1.fr h1 e2 rfl
      have hl : (V.ref a0 :: vs).length = n := by
        have := hF _ _ e3
        rw [List.length_cons, vArgs_len e2, paired_len h1] at this
        exact this
      have nvw : ¬ Vw ρ1 σ (vIx ρ1 rs) a0 := fun z => nw (vw_ow z)
      have nz0 : ¬ (Z1 a0 ∨ Tm rs vs a0 ∨ Vw ρ1 σ (vIx ρ1 rs) a0) := fun z => z.elim nz fun z => z.elim (fun z => lv0 (tm_at h1' z).2.2) nvw
      have fa : Fr K (fun a => Z1 a ∨ Tm rs vs a ∨ Vw ρ1 σ (vIx ρ1 rs) a) H1 (.own true o :: ρr) ((V.ref a0 :: vs).map some) := by
        refine ⟨fr'.zl, by rw [List.map_cons, List.length_cons, List.length_cons, fr'.len], fun k d q => ?_, fun k b o q => ?_, fun k ns q => ?_, fun k j b1 b2 o1 o2 a q1 q2 _ _ => ?_⟩
        · cases k with
          | zero => cases q
          | succ k => simpa using fr'.val k d (by simpa using q)
        · cases k with
          | zero => cases q; exact ⟨a0, rfl, nz0, ro0.zmono fun b z => .inl z⟩
          | succ k => exact (no k b o (by simpa using q)).elim
        · cases k with
          | zero => cases q
          | succ k => simpa using fr'.scr k ns (by simpa using q)
        · cases k with
          | zero =>
            cases j with
            | zero => rfl
            | succ j => exact (no j b2 o2 (by simpa using q2)).elim
          | succ k => exact (no k b1 o1 (by simpa using q1)).elim
      have owa : ∀ a, Ow (.own true o :: ρr) ((V.ref a0 :: vs).map some) a → a = a0 := fun a ⟨k, b, o, q, e⟩ => by
        cases k with
        | zero => simp at e; exact e.symm
        | succ k => exact (no k b o (by simpa using q)).elim
      show spD K F n ((V.ref a0 :: vs) ++ []) H1 Q E
      rw [List.append_nil]
      refine ⟨hl, _, _, r3, _, fa, e3, fun Z' H' v ga hr => ?_⟩
      have zin : ∀ a, Z' a → H1 a ≠ none → a ≠ a0 → Z1 a ∨ Tm rs vs a ∨ Vw ρ1 σ (vIx ρ1 rs) a := fun a z hn ne => by
        rcases ga.st.zn a z with z | z | z
        · exact z
        · exact (hn z).elim
        · exact (ne (owa a z)).elim
      have ow1 : ∀ a, Ow (.own true o :: ρr) ((V.ref a0 :: vs).map some) a → Ow ρ σ a ∨ H a = none := fun a w => by rw [owa a w]; exact .inr n0
      have nv1 : ∀ a, Ow (.own true o :: ρr) ((V.ref a0 :: vs).map some) a → ¬ Vw ρ1 σ (vIx ρ1 rs) a := fun a w z => by rw [owa a w] at z; exact nvw z
      have ne0 : ∀ {j b' o'' a}, ρ1[j]? = some (Sl.own b' o'') → σ[j]? = some (some (V.ref a)) → a ≠ a0 := fun q' e' z => by
        subst z; exact nw ⟨_, _, _, q', e'⟩
      split at e
      · rename_i cl
        cases e
        have gf : Go K Z H ρ σ (fun a => Z' a ∧ ¬ Vw ρ1 σ (vIx ρ1 rs) a) H' ρ1 σ := by
          refine call_end g1 h1 rfl fa ga ow1 nv1 rfl (fun a z => z.1) (fun a z => ⟨ga.st.zm a (.inl z), fun w => g1.fr.nz (vw_ow w) z⟩) (fun a z => ?_) fun j s qs => .inl ⟨qs, fun b2 o2 es a ea => ?_⟩
          · by_cases w : Vw ρ1 σ (vIx ρ1 rs) a
            · exact .inr w
            · exact .inl ⟨z, w⟩
          · subst es
            have hne := ne0 qs ea
            exact ⟨fun z => z.2 (not_shown g1.fr h1 rfl qs ea (zin a z.1 (g1.fr.live ⟨j, _, _, qs, ea⟩) hne)).1, fun w => hne (owa a w)⟩
        exact k _ H' v gf (rr_back g1 nb hr (fun _ w => w) (fun _ z => z.1) (fun d ed h => by subst ed; exact clean_rd cl h) (fun o a eo h => by subst eo; exact clean_ro cl h))
      · cases e
        have gf : Go K Z H ρ σ Z' H' (frz (vIx ρ1 rs) ρ1) σ := by
          refine call_end g1 h1 rfl fa ga ow1 nv1 (frz_len _) (fun a z => z) (fun a z => ga.st.zm a (.inl z)) (fun a z => .inl z) fun j s qs => ?_
          rcases frz_get qs with ⟨q1, nq⟩ | ⟨hjv, b2, o2, q1, es⟩
          · refine .inl ⟨q1, fun b2 o2 es a ea => ?_⟩
            subst es
            have hne := ne0 q1 ea
            exact ⟨fun z => nq (not_shown g1.fr h1 rfl q1 ea (zin a z (g1.fr.live ⟨j, _, _, q1, ea⟩) hne)).2 _ _ rfl, fun w => hne (owa a w)⟩
          · obtain ⟨a, ea, _⟩ := g1.fr.own _ _ _ q1
            exact .inr (.inr ⟨b2, o2, .ref a, q1, _, es, ea, fa.rd ga.st (rd_shown g1.fr q1 hjv ea)⟩)
        have ow2 : ∀ a, Ow (frz (vIx ρ1 rs) ρ1) σ a → Ow ρ1 σ a := fun a ⟨j, b2, o2, q2, e2⟩ => by
          rcases frz_get q2 with ⟨q1, _⟩ | ⟨_, _, _, _, es⟩
          · exact ⟨j, b2, o2, q1, e2⟩
          · cases es
        exact k _ H' v gf (rr_back g1 nb hr ow2 (fun _ z => z) (fun d ed h => h) (fun o a eo h => h))
    · cases e
  · cases e
end
theorem runF_len {np N : Nat} {m : MS} : ∀ ρ r, runF np N m ρ = some r → ρ.length = np := fun ρ r h => by
  unfold runF at h
  split at h
  · assumption
  · cases h
section
variable {X : Cx} {x : Str} {p pos : Pos} {e : Expr} {es : List Expr} {k n : Nat} {f : Addr} {fd : FuncData} {ps : List Str} {F : ME} {ms : MA}
/-- f(e, ..): containers are shown as data -/
theorem ce_call (G : FnG X.prog X.w X.KW X.mg X.base k f fd ps (spD X.KW F n)) (hF : ∀ ρ r, F ρ = some r → ρ.length = n) (hr : RoomG k X.A) (hg : Gl X x) (hm : X.mg x = some (.ref f)) (hk : PySem.W.keepIn X.KW (.ref f) = true) (hb : Binds X.KW fd ps []) 
    (ha : CA X (e :: es) ms) (hdb : (x == ("__debug__" : Str)) = false := by decide) (he : starEach (e :: es) X.env = (false, eval e X.env) :: starEach es X.env := by rfl) (hpl : (backTo pos (starEach es X.env)).any (·.1) = false := by rfl) :
    CE X (.Call (.Name x p) (e :: es) [] pos) (mCall F ms) :=
  pe_imp (pe_callG G hr hg hm hk hb pass0 ha hdb he hpl) (tE_call hF)
/-- f(y, e, ..), y a name whose container f may change -/
theorem ce_callIo {y : Str} {py : Pos} {i : Nat} (G : FnG X.prog X.w X.KW X.mg X.base k f fd ps (spD X.KW F n)) (hF : ∀ ρ r, F ρ = some r → ρ.length = n) (hr : RoomG k X.A) (hg : Gl X x) (hm : X.mg x = some (.ref f)) (hk : PySem.W.keepIn X.KW (.ref f) = true) (hb : Binds X.KW fd ps [])
    (hy : PE X (.Name y py) (tVar i)) (ha : CA X es ms) (hdb : (x == ("__debug__" : Str)) = false := by decide) (he : starEach (.Name y py :: es) X.env = (false, eval (.Name y py) X.env) :: starEach es X.env := by rfl) (hpl : (backTo pos (starEach es X.env)).any (·.1) = false := by rfl) :
    CE X (.Call (.Name x p) (.Name y py :: es) [] pos) (mCallIo F i ms) :=
  pe_imp (pe_callG G hr hg hm hk hb pass0 (pa_cons hy ha he) hdb he hpl) (tE_callIo hF)
/-- f(g(..), e, ..), the first a container just made, which f may change -/
theorem ce_callTmp {m : ME} (G : FnG X.prog X.w X.KW X.mg X.base k f fd ps (spD X.KW F n)) (hF : ∀ ρ r, F ρ = some r → ρ.length = n) (hr : RoomG k X.A) (hg : Gl X x) (hm : X.mg x = some (.ref f)) (hk : PySem.W.keepIn X.KW (.ref f) = true) (hb : Binds X.KW fd ps [])
    (hy : CE X e m) (ha : CA X es ms) (hdb : (x == ("__debug__" : Str)) = false := by decide) (he : starEach (e :: es) X.env = (false, eval e X.env) :: starEach es X.env := by rfl) (hpl : (backTo pos (starEach es X.env)).any (·.1) = false := by rfl) :
    CE X (.Call (.Name x p) (e :: es) [] pos) (mCallTmp F m ms) :=
  pe_imp (pe_callG G hr hg hm hk hb pass0 (pa_cons hy ha he) hdb he hpl) (tE_callTmp hF)
end
end Zl
end

-- ZMeth
section
namespace Zl
open PySem PySem.Spec PyProof.Rows L2

section
variable {K : KW} {Z Z0 Z1 Z' : AS} {H H0 H1 H' : Hp} {ρ ρ0 ρ1 ρ' : Rho} {σ σ0 : St}
/-- a slot's container is changed where it stands -/
theorem Go.mut {i : Nat} {b : Bool} {o o' : O} {a : Addr} {u : HO} (g : Go K Z0 H0 ρ0 σ0 Z H ρ σ) (q : ρ[i]? = some (Sl.own b o)) (e : σ[i]? = some (some (V.ref a))) (ro : RO K Z (upd H a u) o' a) :
    Go K Z0 H0 ρ0 σ0 Z (upd H a u) (ρ.set i (.own b o')) σ := by
  have w0 : Ow ρ σ a := ⟨i, b, o, q, e⟩
  have nz := g.fr.nz w0
  have live := g.fr.live w0
  have mu := g.fr.mut w0
  have tp : ∀ c ys, TQ K H c ys → TQ K (upd H a u) c ys := fun c ys q => TQ.upd q fun o e => mu.frz e
  have ls : ∀ c o, Z c → H c = some o → (upd H a u) c = some o := fun c o z e => by rw [upd_ne (fun z' => by subst z'; exact nz z)]; exact e
  have ow2 : ∀ c, Ow (ρ.set i (.own b o')) σ c → Ow ρ σ c := fun c ⟨j, b2, o2, q2, e2⟩ => by
    rcases set_get q2 with ⟨rfl, _, _⟩ | ⟨_, q2⟩
    · exact ⟨_, b, o, q, e2⟩
    · exact ⟨j, b2, o2, q2, e2⟩
  have k0 : ∀ c o1, H0 c = some o1 → ¬ Ow ρ0 σ0 c → c ≠ a := fun c o1 h w z => by
    subst z
    rcases g.st.wn _ w0 with z | z
    · exact w z
    · rw [h] at z; cases z
  refine ⟨⟨fun c o1 h w => by rw [upd_ne (k0 c o1 h w)]; exact g.st.keep c o1 h w, g.st.zm, g.st.zn, fun c w => g.st.wn c (ow2 c w), fun c h => ?_⟩, ⟨fun c z h => ?_, by rw [List.length_set]; exact g.fr.len, fun j d q2 => ?_, fun j b2 o2 q2 => ?_, fun j ns q2 => ?_, fun j k b1 b2 o1 o2 c q1 q2 e1 e2 => ?_⟩, fun j o2 q2 => ?_⟩
  · by_cases z : c = a
    · subst z; rw [upd_same] at h; cases h
    · rw [upd_ne z] at h; exact g.st.gr c h
  · rw [upd_ne (fun z' => by subst z'; exact nz z)] at h; exact g.fr.zl c z h
  · rcases set_get q2 with ⟨_, es, _⟩ | ⟨_, q2⟩
    · cases es
    · obtain ⟨v, ev, rd⟩ := g.fr.val _ _ q2
      exact ⟨v, ev, RD.mono (fun _ z => z) ls tp _ _ rd⟩
  · rcases set_get q2 with ⟨rfl, es, _⟩ | ⟨hj, q2⟩
    · cases es; exact ⟨a, e, nz, ro⟩
    · obtain ⟨c, ec, nzc, roc⟩ := g.fr.own _ _ _ q2
      have hne : c ≠ a := fun z => by subst z; exact hj (g.fr.apart _ _ _ _ _ _ _ q2 q ec e)
      refine ⟨c, ec, nzc, ?_⟩
      cases o2 with
      | lst ds => obtain ⟨vs, q, r⟩ := roc; exact ⟨vs, by rw [upd_ne hne]; exact q, RDs.mono (fun _ z => z) ls tp _ _ r⟩
      | dct ds => obtain ⟨vs, q, r⟩ := roc; exact ⟨vs, by rw [upd_ne hne]; exact q, RDk.mono (fun _ z => z) ls tp _ _ r⟩
      | dtp ds => obtain ⟨vs, q, r⟩ := roc; exact ⟨vs, by rw [upd_ne hne]; exact q, RDt.mono (fun _ z => z) ls tp _ _ r.1, r.2⟩
  · rcases set_get q2 with ⟨_, es, _⟩ | ⟨_, q2⟩
    · cases es
    · obtain ⟨c, ec, sc⟩ := g.fr.scr _ _ q2
      exact ⟨c, ec, sc.keep fun o q => by rw [upd_ne (fun z => by subst z; exact mu.frz q)]; exact q⟩
  · obtain ⟨b3, o3, p1⟩ : ∃ b o, ρ[j]? = some (Sl.own b o) := by
      rcases set_get q1 with ⟨rfl, _, _⟩ | ⟨_, q1⟩
      · exact ⟨b, o, q⟩
      · exact ⟨_, _, q1⟩
    obtain ⟨b4, o4, p2⟩ : ∃ b o, ρ[k]? = some (Sl.own b o) := by
      rcases set_get q2 with ⟨rfl, _, _⟩ | ⟨_, q2⟩
      · exact ⟨b, o, q⟩
      · exact ⟨_, _, q2⟩
    exact g.fr.apart _ _ _ _ _ _ _ p1 p2 e1 e2
  · rcases set_get q2 with ⟨rfl, es, _⟩ | ⟨_, q2⟩
    · cases es; exact g.par _ _ q
    · exact g.par _ _ q2
/-- data that stand while a holder's container changes -/
theorem rd_mut {i : Nat} {b : Bool} {o : O} {a : Addr} {u : HO} {d : D} {v : V} (f : Fr K Z H ρ σ) (q : ρ[i]? = some (Sl.own b o)) (e : σ[i]? = some (some (V.ref a))) (r : RD K Z H d v) : RD K Z (upd H a u) d v := by
  have w0 : Ow ρ σ a := ⟨i, b, o, q, e⟩
  have nz := f.nz w0
  have mu := f.mut w0
  refine RD.mono (fun _ z => z) (fun c o z e => by rw [upd_ne (fun z' => by subst z'; exact nz z)]; exact e) (fun c ys q => ?_) _ _ r
  exact TQ.upd q fun o e => mu.frz e
theorem rds_mut {i : Nat} {b : Bool} {o : O} {a : Addr} {u : HO} {f : Fr K Z H ρ σ} (q : ρ[i]? = some (Sl.own b o)) (e : σ[i]? = some (some (V.ref a))) : ∀ {ds : List D} {vs : List V}, RDs K Z H ds vs → RDs K Z (upd H a u) ds vs
  | [], _, h => by simpa only [RDs] using h
  | d :: ds, _, h => by
    simp only [RDs] at h ⊢
    obtain ⟨v, r, ev, h1, h2⟩ := h
    exact ⟨v, r, ev, rd_mut f q e h1, rds_mut (f := f) q e h2⟩
end
/-- a method that changes its receiver: (the container, the arguments as data) to (what is told, the container) -/
def tyO : O → String
  | .lst _ => "list"
  | .dct _ => "dict"
  | .dtp _ => "dtp"
def mMeth (T : String) (f : O → List D → Option (D × O)) (i : Nat) (md : MD) : ME := fun ρ => match ρ[i]? with
  | some (Sl.own _ o0) => if tyO o0 = T then (md ρ).bind fun p => match p.2[i]? with
      | some (Sl.own b o) => (f o p.1).bind fun q => some (.val q.1, p.2.set i (.own b q.2))
      | _ => none
    else none
  | _ => none
def MethOk (K : KW) (f : O → List D → Option (D × O)) (r : V → List V → Hp → VK → Prop) : Prop :=
  ∀ (Z : AS) (H : Hp) (a : Addr) (o o' : O) (ds : List D) (vs : List V) (d : D) (Q : VK), RO K Z H o a → RDs K Z H ds vs → f o ds = some (d, o') →
    (∀ u : HO, (∀ {d : D} {v : V}, RD K Z H d v → RD K Z (upd H a u) d v)) → (∀ (u : HO) (v : V), RD K Z (upd H a u) d v → RO K Z (upd H a u) o' a → Q v (upd H a u)) → r (.ref a) vs H Q
theorem tyV_ro {K : KW} {Z : AS} {H : Hp} {o : O} {a : Addr} (h : RO K Z H o a) (nd : tyO o ≠ "dtp") : tyV K (tyO o) (.ref a) H := by
  cases o with
  | lst ds => obtain ⟨vs, q, _⟩ := h; exact .inl ⟨rfl, vs, .of q⟩
  | dct ds => obtain ⟨vs, q, _⟩ := h; exact .inr (.inr (.inl ⟨rfl, .inl ⟨vs, q⟩⟩))
  | dtp ds => exact absurd rfl nd
section
variable {X : Cx} {x : Str} {px apos cpos : Pos} {e : Expr} {es : List Expr} {md : MD} {i : Nat} {f : O → List D → Option (D × O)} {r : V → List V → Hp → VK → Prop} {T id : String} {name : Str}
theorem tE_meth {K : KW} (nT : T ≠ "dtp") (ok : MethOk K f r) : ∀ σ H Q, tE K (mMeth T f i md) σ H Q → tBM K T r (tVar i) (tAD K md) σ H Q := fun σ H Q ⟨Z, ρ, r0, ρ', fr, e, k⟩ => by
  unfold mMeth at e
  split at e
  · rename_i b0 o0 q0
    obtain ⟨a, ea, nz, ro0⟩ := fr.own _ _ _ q0
    split at e
    · rename_i hT
      obtain ⟨⟨ds, ρ1⟩, e1, e⟩ := bnd e
      simp only at e
      split at e
      · rename_i b o q
        obtain ⟨⟨d, o'⟩, e2, e⟩ := bnd e
        cases e
        refine ⟨.ref a, ea, by rw [← hT]; exact tyV_ro ro0 (by rw [hT]; exact nT), Z, ρ, ds, ρ1, fr, e1, fun Z1 H1 vs g1 h1 => ?_⟩
        obtain ⟨a', ea', nz1, ro1⟩ := g1.fr.own _ _ _ q
        rw [ea] at ea'; cases ea'
        refine ok Z1 H1 a o o' ds vs d Q ro1 h1 e2 (fun u {d v} h => rd_mut g1.fr q ea h) fun u v rd ro => ?_
        exact k Z1 (upd H1 a u) v (g1.mut q ea ro) rd
      · cases e
    · cases e
  · cases e
theorem rds_all {K : KW} {Z Z' : AS} {H H' : Hp} (h : ∀ {d : D} {v : V}, RD K Z H d v → RD K Z' H' d v) : ∀ {ds : List D} {vs : List V}, RDs K Z H ds vs → RDs K Z' H' ds vs
  | [], _, q => by simpa only [RDs] using q
  | d :: ds, _, q => by
    simp only [RDs] at q ⊢
    obtain ⟨v, r, ev, h1, h2⟩ := q
    exact ⟨v, r, ev, h h1, rds_all h h2⟩
theorem ce_meth (pa : PlainAttrs T) (slot : Slot T name id) (hty : typeOf (.builtin id) = pure (.type "method_descriptor")) (hm : MtR X id r) (ok : MethOk X.KW f r) (hx : PE X (.Name x px) (tVar i)) (ha : CD X (e :: es) md)
    (hbase : attributeBase (.Name x px) name X.env (eval (.Name x px) X.env) = eval (.Name x px) X.env := by rfl)
    (hfew : ((backTo cpos (starEach (e :: es) X.env)).all (fun x => !x.1) && (backToKw cpos (keywordEach [] X.env)).all (fun x => x.1.isSome)
      && decide ((e :: es).length + ([] : List Keyword).length + (if ([] : List Keyword).isEmpty then 0 else 1) < 30)) = true := by rfl)
    (hline : (apos.endLine == cpos.line) = true := by rfl) (hs : starEach (e :: es) X.env = (false, eval e X.env) :: starEach es X.env := by rfl) (hplain : (backTo cpos (starEach es X.env)).any (·.1) = false := by rfl) (nT : T ≠ "dtp" := by decide) :
    CE X (.Call (.Attribute (.Name x px) name apos) (e :: es) [] cpos) (mMeth T f i md) :=
  pe_imp (pe_bm pa slot hty hm hx ha hbase hfew hline hs hplain) (tE_meth nT ok)
theorem ce_meth0 (pa : PlainAttrs T) (slot : Slot T name id) (hty : typeOf (.builtin id) = pure (.type "method_descriptor")) (hm : MtR X id r) (ok : MethOk X.KW f r) (hx : PE X (.Name x px) (tVar i))
    (hbase : attributeBase (.Name x px) name X.env (eval (.Name x px) X.env) = eval (.Name x px) X.env := by rfl) (hline : (apos.endLine == cpos.line) = true := by rfl) (nT : T ≠ "dtp" := by decide) :
    CE X (.Call (.Attribute (.Name x px) name apos) [] [] cpos) (mMeth T f i mD0) :=
  pe_imp (pe_bm0 pa slot hty hm hx hbase hline) fun σ H Q h => by
    obtain ⟨v, e, ty, Z, ρ, ds, ρ1, fr, e1, k⟩ := tE_meth nT ok σ H Q h
    cases e1
    exact ⟨v, e, ty, k Z H [] (.refl fr) (by simp only [RDs])⟩
/-! the list's methods -/
def appF : O → List D → Option (D × O)
  | .lst ds, [d] => if ds.length < sizeLine then some (.none, .lst (ds ++ [d])) else none
  | _, _ => none
def extF : O → List D → Option (D × O)
  | .lst ds, [.list es] => if ds.length + es.length ≤ sizeLine then some (.none, .lst (ds ++ es)) else none
  | _, _ => none
def pop0F : O → List D → Option (D × O)
  | .lst ds, [] => (ds[ds.length - 1]?).map fun d => (d, .lst ds.dropLast)
  | _, _ => none
def pop1F : O → List D → Option (D × O)
  | .lst ds, [.int i] => if -(2 ^ 63) ≤ i ∧ i < 2 ^ 63 then (seqIndex? i ds.length).bind fun k => (ds[k]?).map fun d => (d, .lst (ds.eraseIdx k)) else none
  | _, _ => none
def clearF : O → List D → Option (D × O)
  | .lst _, [] => some (.none, .lst [])
  | _, _ => none
def revF : O → List D → Option (D × O)
  | .lst ds, [] => some (.none, .lst ds.reverse)
  | _, _ => none
def insF : O → List D → Option (D × O)
  | .lst ds, [.int i, d] => if ds.length < sizeLine ∧ 0 ≤ i ∧ i < 2 ^ 63 then some (.none, .lst (ds.take i.toNat ++ [d] ++ ds.drop i.toNat)) else none
  | _, _ => none
theorem ok_app {K : KW} : MethOk K appF rAppend := fun Z H a o o' ds vs d Q ro h e m k => by
  unfold appF at e
  split at e
  · split at e
    · rename_i hl; cases e
      obtain ⟨v, rfl, h1⟩ := rds1 h
      obtain ⟨ws, q, r⟩ := ro
      exact ⟨a, ws, v, rfl, rfl, q, by rw [rds_len r]; exact hl, k _ _ rd_none ⟨_, upd_same, rds_app (rds_all (m _) r) (rds_cons (m _ h1) rds_nil)⟩⟩
    · cases e
  · cases e
theorem ok_ext {K : KW} : MethOk K extF rExtend := fun Z H a o o' ds vs d Q ro h e m k => by
  unfold extF at e
  split at e
  · split at e
    · rename_i hl; cases e
      obtain ⟨v, rfl, h1⟩ := rds1 h
      obtain ⟨ws, q, r⟩ := ro
      simp only [RD] at h1
      obtain ⟨b, zs, rfl, _, q2, r2⟩ := h1
      exact ⟨a, b, ws, zs, rfl, rfl, q, q2, by rw [rds_len r, rds_len r2]; exact hl, k _ _ rd_none ⟨_, upd_same, rds_app (rds_all (m _) r) (rds_all (m _) r2)⟩⟩
    · cases e
  · cases e
theorem rds_last {K : KW} {Z : AS} {H : Hp} : ∀ {ds : List D} {vs : List V}, RDs K Z H ds vs → RDs K Z H ds.dropLast vs.dropLast := fun {ds vs} h => by
  rw [List.dropLast_eq_take, List.dropLast_eq_take, rds_len h]; exact rds_take _ h
theorem rds_erase {K : KW} {Z : AS} {H : Hp} : ∀ {ds : List D} {vs : List V} (n : Nat), RDs K Z H ds vs → RDs K Z H (ds.eraseIdx n) (vs.eraseIdx n)
  | [], _, n, h => by simp only [RDs] at h; subst h; simpa using rds_nil
  | d :: ds, _, 0, h => by
    simp only [RDs] at h
    obtain ⟨v, r, rfl, _, h2⟩ := h
    simpa using h2
  | d :: ds, _, n + 1, h => by
    simp only [RDs] at h
    obtain ⟨v, r, rfl, h1, h2⟩ := h
    simpa using rds_cons h1 (rds_erase n h2)
theorem ok_pop0 {K : KW} : MethOk K pop0F rPop := fun Z H a o o' ds vs d Q ro h e m k => by
  unfold pop0F at e
  split at e
  · obtain ⟨d', e1, e⟩ := Option.map_eq_some_iff.mp e
    cases e
    simp only [RDs] at h
    subst h
    obtain ⟨ws, q, r⟩ := ro
    obtain ⟨v, ev, rd⟩ := rds_get r e1
    exact ⟨a, ws, v, rfl, rfl, q, by rw [rds_len r]; exact ev, k _ _ (m _ rd) ⟨_, upd_same, rds_last (rds_all (m _) r)⟩⟩
  · cases e
theorem ok_pop1 {K : KW} : MethOk K pop1F rPopAt := fun Z H a o o' ds vs d Q ro h e m k => by
  unfold pop1F at e
  split at e
  · split at e
    · rename_i hb
      obtain ⟨j, ej, e⟩ := bnd e
      obtain ⟨d', e1, e⟩ := Option.map_eq_some_iff.mp e
      cases e
      obtain ⟨v, rfl, h1⟩ := rds1 h
      simp only [RD] at h1
      subst h1
      obtain ⟨ws, q, r⟩ := ro
      obtain ⟨w, ev, rd⟩ := rds_get r e1
      exact ⟨a, ws, _, j, w, rfl, rfl, q, hb.1, hb.2, by rw [rds_len r]; exact ej, ev, k _ _ (m _ rd) ⟨_, upd_same, rds_erase j (rds_all (m _) r)⟩⟩
    · cases e
  · cases e
theorem ok_clear {K : KW} : MethOk K clearF rClear := fun Z H a o o' ds vs d Q ro h e m k => by
  unfold clearF at e
  split at e
  · cases e
    simp only [RDs] at h
    subst h
    obtain ⟨ws, q, r⟩ := ro
    exact ⟨a, ws, rfl, rfl, q, k _ _ rd_none ⟨_, upd_same, rds_nil⟩⟩
  · cases e
theorem ok_rev {K : KW} : MethOk K revF rReverse := fun Z H a o o' ds vs d Q ro h e m k => by
  unfold revF at e
  split at e
  · cases e
    simp only [RDs] at h
    subst h
    obtain ⟨ws, q, r⟩ := ro
    exact ⟨a, ws, rfl, rfl, q, k _ _ rd_none ⟨_, upd_same, rds_rev (rds_all (m _) r)⟩⟩
  · cases e
theorem ce_append (hx : PE X (.Name x px) (tVar i)) (ha : CD X [e] md) (hbase : attributeBase (.Name x px) "append" X.env (eval (.Name x px) X.env) = eval (.Name x px) X.env := by rfl)
    (hfew : ((backTo cpos (starEach [e] X.env)).all (fun x => !x.1) && (backToKw cpos (keywordEach [] X.env)).all (fun x => x.1.isSome) && decide ([e].length + ([] : List Keyword).length + (if ([] : List Keyword).isEmpty then 0 else 1) < 30)) = true := by rfl)
    (hline : (apos.endLine == cpos.line) = true := by rfl) (hs : starEach [e] X.env = (false, eval e X.env) :: starEach [] X.env := by rfl) (hplain : (backTo cpos (starEach [] X.env)).any (·.1) = false := by rfl) :
    CE X (.Call (.Attribute (.Name x px) "append" apos) [e] [] cpos) (mMeth "list" appF i md) :=
  ce_meth PySem.F.plainAttrs_list PySem.F.slot_list_append PySem.F.type_list_append mt_append ok_app hx ha hbase hfew hline hs hplain
theorem ce_extend (hx : PE X (.Name x px) (tVar i)) (ha : CD X [e] md) (hbase : attributeBase (.Name x px) "extend" X.env (eval (.Name x px) X.env) = eval (.Name x px) X.env := by rfl)
    (hfew : ((backTo cpos (starEach [e] X.env)).all (fun x => !x.1) && (backToKw cpos (keywordEach [] X.env)).all (fun x => x.1.isSome) && decide ([e].length + ([] : List Keyword).length + (if ([] : List Keyword).isEmpty then 0 else 1) < 30)) = true := by rfl)
    (hline : (apos.endLine == cpos.line) = true := by rfl) (hs : starEach [e] X.env = (false, eval e X.env) :: starEach [] X.env := by rfl) (hplain : (backTo cpos (starEach [] X.env)).any (·.1) = false := by rfl) :
    CE X (.Call (.Attribute (.Name x px) "extend" apos) [e] [] cpos) (mMeth "list" extF i md) :=
  ce_meth PySem.F.plainAttrs_list PySem.F.slot_list_extend PySem.F.type_list_extend mt_extend ok_ext hx ha hbase hfew hline hs hplain
theorem ce_pop1 (hx : PE X (.Name x px) (tVar i)) (ha : CD X [e] md) (hbase : attributeBase (.Name x px) "pop" X.env (eval (.Name x px) X.env) = eval (.Name x px) X.env := by rfl)
    (hfew : ((backTo cpos (starEach [e] X.env)).all (fun x => !x.1) && (backToKw cpos (keywordEach [] X.env)).all (fun x => x.1.isSome) && decide ([e].length + ([] : List Keyword).length + (if ([] : List Keyword).isEmpty then 0 else 1) < 30)) = true := by rfl)
    (hline : (apos.endLine == cpos.line) = true := by rfl) (hs : starEach [e] X.env = (false, eval e X.env) :: starEach [] X.env := by rfl) (hplain : (backTo cpos (starEach [] X.env)).any (·.1) = false := by rfl) :
    CE X (.Call (.Attribute (.Name x px) "pop" apos) [e] [] cpos) (mMeth "list" pop1F i md) :=
  ce_meth PySem.F.plainAttrs_list PySem.F.slot_list_pop PySem.F.type_list_pop mt_popAt ok_pop1 hx ha hbase hfew hline hs hplain
theorem ce_pop0 (hx : PE X (.Name x px) (tVar i)) (hbase : attributeBase (.Name x px) "pop" X.env (eval (.Name x px) X.env) = eval (.Name x px) X.env := by rfl) (hline : (apos.endLine == cpos.line) = true := by rfl) :
    CE X (.Call (.Attribute (.Name x px) "pop" apos) [] [] cpos) (mMeth "list" pop0F i mD0) :=
  ce_meth0 PySem.F.plainAttrs_list PySem.F.slot_list_pop PySem.F.type_list_pop mt_pop ok_pop0 hx hbase hline
theorem ce_clear (hx : PE X (.Name x px) (tVar i)) (hbase : attributeBase (.Name x px) "clear" X.env (eval (.Name x px) X.env) = eval (.Name x px) X.env := by rfl) (hline : (apos.endLine == cpos.line) = true := by rfl) :
    CE X (.Call (.Attribute (.Name x px) "clear" apos) [] [] cpos) (mMeth "list" clearF i mD0) :=
  ce_meth0 PySem.F.plainAttrs_list PySem.F.slot_list_clear PySem.F.type_list_clear mt_clear ok_clear hx hbase hline
theorem ce_reverse (hx : PE X (.Name x px) (tVar i)) (hbase : attributeBase (.Name x px) "reverse" X.env (eval (.Name x px) X.env) = eval (.Name x px) X.env := by rfl) (hline : (apos.endLine == cpos.line) = true := by rfl) :
    CE X (.Call (.Attribute (.Name x px) "reverse" apos) [] [] cpos) (mMeth "list" revF i mD0) :=
  ce_meth0 PySem.F.plainAttrs_list PySem.F.slot_list_reverse PySem.F.type_list_reverse mt_reverse ok_rev hx hbase hline
/-! ### x[i] = e -/
def setF : O → D → D → Option O
  | .lst ds, .int k, d => (ixN ds.length k).map fun j => .lst (ds.set j d)
  | _, _, _ => none
/-- x[i] = e: e, then x, then i -/
def mSetIx (i : Nat) (me mi : ME) : MS := fun ρ => (me ρ).bind fun p => (fz p.2 p.1).bind fun w => match w.2[i]? with
  | some (Sl.own _ _) => (mi w.2).bind fun q => match q.1 with
    | .val (.int k) => match q.2[i]? with
      | some (Sl.own b o) => (setF o (.int k) w.1).bind fun o' => some (.nx, q.2.set i (.own b o'))
      | _ => none
    | _ => none
  | _ => none
theorem cs_setIx {ix v : Expr} {tpos pos : Pos} {me mi : ME} (hx : PE X (.Name x px) (tVar i)) (hi : CE X ix mi) (hv : CE X v me)
    (ha : ∀ v, assign (.Subscript (.Name x px) ix tpos) X.env v = (do
      let ov ← holding [v] (eval (.Name x px) X.env)
      let iv ← holding [v, ov] (eval ix X.env)
      standAt tpos
      holding [v, ov, iv] (setItem ov iv v)
      release [v, ov, iv] []) := by intro _; rfl)
    (hs : swapsWithSole [.Subscript (.Name x px) ix tpos] v pos.line X.env = pure false := by rfl) (hw : swappedStores [.Subscript (.Name x px) ix tpos] v X.env = pure none := by rfl) (h1 : (assignEach [.Subscript (.Name x px) ix tpos] X.env).map (·.2) = [assign (.Subscript (.Name x px) ix tpos) X.env] := by rfl) :
    CS X (.Assign [.Subscript (.Name x px) ix tpos] v pos) (mSetIx i me mi) :=
  ps_imp (ps_asg hv (pg_sub hx hi set_list ha) hs hw h1) fun Dn σ H ⟨Z, ρ, fl, ρ', fr, e, k⟩ => by
    obtain ⟨⟨r1, ρ1⟩, e1, e⟩ := bnd e
    obtain ⟨⟨d, ρ2⟩, e2, e⟩ := bnd e
    simp only at e
    split at e
    · rename_i b0 o0 q0
      obtain ⟨⟨r3, ρ3⟩, e3, e⟩ := bnd e
      simp only at e
      split at e
      · split at e
        · rename_i b o q
          obtain ⟨o', e4, e⟩ := bnd e
          cases e
          refine ⟨Z, ρ, r1, ρ1, fr, e1, fun Z1 H1 v g1 h1 => ?_⟩
          obtain ⟨Z2, _, g2, rd⟩ := fz_ok g1 h1 e2
          obtain ⟨a, ea, _, _⟩ := g2.fr.own _ _ _ q0
          refine ⟨.ref a, ea, Z2, ρ2, _, ρ3, g2.fr, e3, fun Z3 H3 w g3 h3 => ?_⟩
          simp only [RR, RD] at h3
          subst h3
          have g := g2.trans g3
          obtain ⟨a', ea', nz, ro⟩ := g.fr.own _ _ _ q
          rw [ea] at ea'; cases ea'
          cases o with
          | dct _ => cases e4
          | dtp _ => cases e4
          | lst ds =>
            obtain ⟨j, ej, e4⟩ := Option.map_eq_some_iff.mp e4
            cases e4
            obtain ⟨ws, hq, r⟩ := ro
            refine ⟨a, ws, _, j, rfl, rfl, hq, by rw [rds_len r]; exact ej, ?_⟩
            exact k Z3 _ σ (g.mut q ea ⟨_, upd_same, rds_set j (rds_all (fun h => rd_mut g.fr q ea h) r) (rd_mut g.fr q ea (g2.fr.rd g3.st rd))⟩)
        · cases e
      · cases e
    · cases e
/-! ### x += e, x -= e: ints, texts -/
def mAug (i : Nat) (f : D → D → Option R) (me : ME) : MS := fun ρ => match ρ[i]? with
  | some (Sl.val x) => (me ρ).bind fun p => (rsT p.2 p.1).bind fun y => (f x y).bind fun r => match r with
    | .val d => (stS i (.val d) p.2).bind fun ρ' => some (.nx, ρ')
    | _ => none
  | _ => none
theorem cs_aug {v : Expr} {op : Operator} {ti : TIp} {F : D → D → Option R} {me : ME} {pos : Pos} (hN : X.N.Nodup) (hi : X.N[i]? = some x) (hx : Loc X.env.scope x) (he : CE X v me) (ho : PIp X op ti) (of' : OpD X.KW F ti) (hf : X.fn x = true ∨ X.env.scope.names.lookup x = some .local := by first | exact .inl rfl | exact .inr rfl | assumption) :
    CS X (.AugAssign (.Name x px) op v pos) (mAug i F me) :=
  ps_imp (ps_aug hN hi hx he ho hf) fun Dn σ H ⟨Z, ρ, fl, ρ', fr, e, k⟩ => by
    unfold mAug at e
    split at e
    · rename_i d0 q0
      obtain ⟨⟨r1, ρ1⟩, e1, e⟩ := bnd e
      obtain ⟨y, e2, e⟩ := bnd e
      obtain ⟨r3, e3, e⟩ := bnd e
      obtain ⟨v0, ev, rd0⟩ := fr.val _ _ q0
      refine ⟨v0, ev, Z, ρ, r1, ρ1, fr, e1, fun Z1 H1 w g1 h1 => ?_⟩
      refine of' Z1 H1 v0 w d0 y r3 _ g1.fr.zl (RD.rt (fr.rd g1.st rd0)) (rsT_ok g1.fr h1 e2) e3 fun Z2 H2 u n nr => ?_
      cases r3 with
      | val d =>
        obtain ⟨ρ4, e4, e⟩ := bnd e
        cases e
        exact k Z2 H2 _ (stS_val (g1.trans (n.go g1.fr)) e4 nr)
      | own _ => cases e
      | bor _ => cases e
    · cases e
theorem pip_of {op : Operator} {r : R2} (h : OpR X (inplaceOp op) r) : PIp X op r := fun pins s σ H x y v u Q I rx ry q => h pins s σ H x y v u Q I rx ry q
def augAddD : D → D → Option R
  | .int i, .int j => some (.val (.int (i + j)))
  | .str x, .str y => if x.length + y.length ≤ sizeLine then some (.val (.str (x ++ y))) else none
  | _, _ => none
theorem o_augAdd {K : KW} : OpD K augAddD (fun x y H Q => (rI0 fun i j => .int (i + j)) x y H Q ∨ (∃ i j, x = .str i ∧ y = .str j ∧ i.length + j.length ≤ sizeLine ∧ Q (.str (i ++ j)) H)) := fun Z H x y d e r Q zl hx hy er k => by
  unfold augAddD at er
  split at er
  · cases er
    cases rt_int hx; cases rt_int hy
    exact .inl ⟨_, _, rfl, rfl, k Z H _ (.refl _ _) nr_int⟩
  · split at er
    · rename_i hl; cases er
      cases rt_str hx; cases rt_str hy
      exact .inr ⟨_, _, rfl, rfl, hl, k Z H _ (.refl _ _) nr_str⟩
    · cases er
  · cases er
theorem cs_augAdd {v : Expr} {me : ME} {pos : Pos} (hN : X.N.Nodup) (hi : X.N[i]? = some x) (hx : Loc X.env.scope x) (he : CE X v me) (hf : X.fn x = true ∨ X.env.scope.names.lookup x = some .local := by first | exact .inl rfl | exact .inr rfl | assumption) :
    CS X (.AugAssign (.Name x px) .Add v pos) (mAug i augAddD me) := cs_aug hN hi hx he (pip_of (OpR.or iop_add iop_add_str)) o_augAdd hf
theorem cs_augSub {v : Expr} {me : ME} {pos : Pos} (hN : X.N.Nodup) (hi : X.N[i]? = some x) (hx : Loc X.env.scope x) (he : CE X v me) (hf : X.fn x = true ∨ X.env.scope.names.lookup x = some .local := by first | exact .inl rfl | exact .inr rfl | assumption) :
    CS X (.AugAssign (.Name x px) .Sub v pos) (mAug i subD me) := cs_aug hN hi hx he (pip_of iop_sub) o_sub hf
end
end Zl
end

-- ZText
section
namespace Zl
open PySem PySem.Spec PyProof.Rows L2

/-! ### methods of a text -/
def mSM (f : Str → List D → Option R) (me : ME) (ms : MA) : ME := fun ρ => (me ρ).bind fun p => match p.1 with
  | .val (.str z) => (ms p.2).bind fun q => (rsL q.2 q.1).bind fun ds => (f z ds).map fun r => (r, q.2)
  | _ => none
def OpM (K : KW) (f : Str → List D → Option R) (r : V → List V → Hp → VK → Prop) : Prop :=
  ∀ (Z : AS) (H : Hp) (z : Str) (vs : List V) (ds : List D) (r0 : R) (Q : VK), (∀ a, Z a → H a ≠ none) → RVs K Z H ds vs → f z ds = some r0 → (∀ Z' H' v, Nw Z H Z' H' → NR K H Z' H' r0 v → Q v H') → r (.str z) vs H Q
section
variable {X : Cx} {o e : Expr} {es : List Expr} {apos cpos : Pos} {me : ME} {ms : MA} {f : Str → List D → Option R} {r : V → List V → Hp → VK → Prop} {id : String} {name : Str}
theorem tE_SM {K : KW} (ok : OpM K f r) : ∀ σ H Q, tE K (mSM f me ms) σ H Q → tBM K "str" r (tE K me) (tAR K ms) σ H Q := fun σ H Q ⟨Z, ρ, r0, ρ', fr, e, k⟩ => by
  obtain ⟨⟨r1, ρ1⟩, e1, e⟩ := bnd e
  simp only at e
  split at e
  · obtain ⟨⟨rr, ρ2⟩, e2, e⟩ := bnd e
    obtain ⟨ds, e3, e⟩ := bnd e
    obtain ⟨r', er, e⟩ := Option.map_eq_some_iff.mp e
    cases e
    refine ⟨Z, ρ, _, ρ1, fr, e1, fun Z1 H1 v g1 h1 => ?_⟩
    simp only [RR, RD] at h1
    subst h1
    refine ⟨rfl, Z1, ρ1, rr, ρ2, g1.fr, e2, fun Z2 H2 vs g2 h2 => ?_⟩
    have g := g1.trans g2
    exact ok Z2 H2 _ vs ds r0 Q g.fr.zl (rsL_ok g.fr h2 e3) er fun Z' H' v n nr => k Z' H' v (g.trans (n.go g.fr)) (nr.rr g n)
  · cases e
theorem ce_sm (slot : Slot "str" name id) (hty : typeOf (.builtin id) = pure (.type "method_descriptor")) (hm : MtR X id r) (ok : OpM X.KW f r) (ho : CE X o me) (ha : CA X (e :: es) ms)
    (hbase : attributeBase o name X.env (eval o X.env) = eval o X.env := by rfl)
    (hfew : ((backTo cpos (starEach (e :: es) X.env)).all (fun x => !x.1) && (backToKw cpos (keywordEach [] X.env)).all (fun x => x.1.isSome)
      && decide ((e :: es).length + ([] : List Keyword).length + (if ([] : List Keyword).isEmpty then 0 else 1) < 30)) = true := by rfl)
    (hline : (apos.endLine == cpos.line) = true := by rfl) (hs : starEach (e :: es) X.env = (false, eval e X.env) :: starEach es X.env := by rfl) (hplain : (backTo cpos (starEach es X.env)).any (·.1) = false := by rfl) :
    CE X (.Call (.Attribute o name apos) (e :: es) [] cpos) (mSM f me ms) :=
  pe_imp (pe_bm PySem.F.plainAttrs_str slot hty hm ho ha hbase hfew hline hs hplain) (tE_SM ok)
theorem ce_sm0 (slot : Slot "str" name id) (hty : typeOf (.builtin id) = pure (.type "method_descriptor")) (hm : MtR X id r) (ok : OpM X.KW f r) (ho : CE X o me)
    (hbase : attributeBase o name X.env (eval o X.env) = eval o X.env := by rfl) (hline : (apos.endLine == cpos.line) = true := by rfl) :
    CE X (.Call (.Attribute o name apos) [] [] cpos) (mSM f me mA0) :=
  pe_imp (pe_bm0 PySem.F.plainAttrs_str slot hty hm ho hbase hline) fun σ H Q h => by
    obtain ⟨Z, ρ, r1, ρ1, fr, e1, k⟩ := tE_SM ok σ H Q h
    refine ⟨Z, ρ, r1, ρ1, fr, e1, fun Z1 H1 v g1 h1 => ?_⟩
    obtain ⟨ty, Z2, ρ2, rr, ρ3, fr2, e2, k2⟩ := k Z1 H1 v g1 h1
    cases e2
    exact ⟨ty, k2 Z2 H1 [] (.refl fr2) .nil⟩
def joinF (z : Str) : List D → Option R
  | [.list ds] => (strsOf ds).bind fun ys => if (ys.map (·.length)).sum + ys.length * z.length ≤ 16777216 then some (.val (.str (Txt.join z ys))) else none
  | [.tuple ds] => (strsOf ds).bind fun ys => if (ys.map (·.length)).sum + ys.length * z.length ≤ 16777216 then some (.val (.str (Txt.join z ys))) else none
  | _ => none
theorem o_join {K : KW} : OpM K joinF (fun x xs H Q => ∃ a p, ∃ ys : List Str, x = .str a ∧ xs = [.ref p] ∧ (SqL K H p (ys.map V.str) ∨ SqT K H p (ys.map V.str)) ∧ (ys.map (·.length)).sum + ys.length * a.length ≤ 16777216 ∧ Q (.str (Txt.join a ys)) H) := fun Z H z vs ds r Q zl hx er k => by
  unfold joinF at er
  split at er
  · obtain ⟨ys, ey, er⟩ := bnd er
    split at er
    · rename_i hl; cases er
      obtain ⟨v, rfl, p, vs, rfl, hq, hd⟩ := rvs1 hx
      cases strs_vs hd ey
      exact ⟨z, p, ys, rfl, rfl, .inl hq, hl, k Z H _ (.refl _ _) nr_str⟩
    · cases er
  · obtain ⟨ys, ey, er⟩ := bnd er
    split at er
    · rename_i hl; cases er
      obtain ⟨v, rfl, hx'⟩ := rvs1 hx
      obtain ⟨p, vs, rfl, hq, hd⟩ := rv_tup hx'
      cases strs_vs hd ey
      exact ⟨z, p, ys, rfl, rfl, .inr hq.sq, hl, k Z H _ (.refl _ _) nr_str⟩
    · cases er
  · cases er
theorem ce_join (ho : CE X o me) (ha : CA X [e] ms) (hbase : attributeBase o "join" X.env (eval o X.env) = eval o X.env := by rfl)
    (hfew : ((backTo cpos (starEach [e] X.env)).all (fun x => !x.1) && (backToKw cpos (keywordEach [] X.env)).all (fun x => x.1.isSome) && decide ([e].length + ([] : List Keyword).length + (if ([] : List Keyword).isEmpty then 0 else 1) < 30)) = true := by rfl)
    (hline : (apos.endLine == cpos.line) = true := by rfl) (hs : starEach [e] X.env = (false, eval e X.env) :: starEach [] X.env := by rfl) (hplain : (backTo cpos (starEach [] X.env)).any (·.1) = false := by rfl) :
    CE X (.Call (.Attribute o "join" apos) [e] [] cpos) (mSM joinF me ms) := ce_sm PySem.F.slot_str_join PySem.F.type_str_join mt_join o_join ho ha hbase hfew hline hs hplain
/-! ### sorted -/
def insS (x : Str) : List Str → List Str
  | [] => [x]
  | y :: r => if ltCps y.cps.toList x.cps.toList = true then y :: insS x r else x :: y :: r
def sortS : List Str → List Str
  | [] => []
  | x :: r => insS x (sortS r)
def insI (x : Int) : List Int → List Int
  | [] => [x]
  | y :: r => if y < x then y :: insI x r else x :: y :: r
def sortI : List Int → List Int
  | [] => []
  | x :: r => insI x (sortI r)
theorem insS_perm (x : Str) : ∀ l, (insS x l).Perm (x :: l)
  | [] => .refl _
  | y :: r => by
    unfold insS
    split
    · exact ((insS_perm x r).cons y).trans (.swap x y r)
    · exact .refl _
theorem sortS_perm : ∀ l, (sortS l).Perm l
  | [] => .refl _
  | x :: r => (insS_perm x _).trans ((sortS_perm r).cons x)
theorem insI_perm (x : Int) : ∀ l, (insI x l).Perm (x :: l)
  | [] => .refl _
  | y :: r => by
    unfold insI
    split
    · exact ((insI_perm x r).cons y).trans (.swap x y r)
    · exact .refl _
theorem sortI_perm : ∀ l, (sortI l).Perm l
  | [] => .refl _
  | x :: r => (insI_perm x _).trans ((sortI_perm r).cons x)
theorem ltC_irr : ∀ a : List Nat, ltCps a a = false
  | [] => rfl
  | x :: r => by simp [ltCps, ltC_irr r]
theorem ltC_trans : ∀ {a b c : List Nat}, ltCps a b = true → ltCps b c = true → ltCps a c = true
  | [], [], _, h, _ => by simp [ltCps] at h
  | [], _ :: _, [], _, h => by simp [ltCps] at h
  | [], _ :: _, _ :: _, _, _ => by simp [ltCps]
  | _ :: _, [], _, h, _ => by simp [ltCps] at h
  | _ :: _, _ :: _, [], _, h => by simp [ltCps] at h
  | x :: a, y :: b, z :: c, h, h' => by
    simp only [ltCps, Bool.or_eq_true, decide_eq_true_eq, Bool.and_eq_true, beq_iff_eq] at h h' ⊢
    rcases h with h | ⟨h, q⟩
    · rcases h' with h' | ⟨h', q'⟩
      · exact .inl (by omega)
      · exact .inl (by omega)
    · rcases h' with h' | ⟨h', q'⟩
      · exact .inl (by omega)
      · exact .inr ⟨by omega, ltC_trans q q'⟩
theorem ltC_tri : ∀ {a b : List Nat}, ltCps a b = false → ltCps b a = false → a = b
  | [], [], _, _ => rfl
  | [], _ :: _, h, _ => by simp [ltCps] at h
  | _ :: _, [], _, h => by simp [ltCps] at h
  | x :: a, y :: b, h, h' => by
    simp only [ltCps, Bool.or_eq_false_iff, decide_eq_false_iff_not, Bool.and_eq_false_iff, beq_eq_false_iff_ne] at h h'
    have e : x = y := by omega
    subst e
    rcases h.2 with h1 | h1
    · exact absurd rfl h1
    rcases h'.2 with h2 | h2
    · exact absurd rfl h2
    rw [ltC_tri h1 h2]
theorem str_eq {x y : Str} (h : x.cps.toList = y.cps.toList) : x = y := by
  obtain ⟨a⟩ := x
  obtain ⟨b⟩ := y
  simp only at h
  congr 1
  exact Array.ext' h
/-- x is not above y -/
def leS (x y : Str) : Prop := ltCps y.cps.toList x.cps.toList = false
theorem leS_tot (x y : Str) : leS x y ∨ leS y x := by
  unfold leS
  cases h : ltCps y.cps.toList x.cps.toList with
  | false => exact .inl rfl
  | true =>
    right
    cases h' : ltCps x.cps.toList y.cps.toList with
    | false => rfl
    | true => have := ltC_trans h h'; rw [ltC_irr] at this; cases this
theorem leS_trans {x y z : Str} (h : leS x y) (h' : leS y z) : leS x z := by
  unfold leS at h h' ⊢
  cases q : ltCps z.cps.toList x.cps.toList with
  | false => rfl
  | true =>
    cases q' : ltCps x.cps.toList y.cps.toList with
    | true => rw [ltC_trans q q'] at h'; cases h'
    | false => rw [ltC_tri q' h] at q; rw [q] at h'; cases h'
theorem leS_anti {x y : Str} (h : leS x y) (h' : leS y x) : x = y := str_eq (ltC_tri h' h)
theorem risS_pw : ∀ {p : Str} {l : List Str}, risingS p l = true → (p :: l).Pairwise leS
  | _, [], _ => List.pairwise_singleton _ _
  | p, x :: r, h => by
    simp only [risingS, Bool.and_eq_true, Bool.not_eq_true'] at h
    have ih := risS_pw h.2
    refine List.pairwise_cons.mpr ⟨fun y hy => ?_, ih⟩
    rcases List.mem_cons.mp hy with rfl | hy
    · exact h.1
    · exact leS_trans (y := x) h.1 ((List.pairwise_cons.mp ih).1 y hy)
theorem sortedS_pw {l : List Str} (h : sortedS l = true) : l.Pairwise leS := by
  cases l with
  | nil => exact .nil
  | cons x r => exact risS_pw h
theorem insS_pw (x : Str) : ∀ {l : List Str}, l.Pairwise leS → (insS x l).Pairwise leS
  | [], _ => List.pairwise_singleton _ _
  | y :: r, h => by
    obtain ⟨h1, h2⟩ := List.pairwise_cons.mp h
    unfold insS
    split
    · rename_i q
      refine List.pairwise_cons.mpr ⟨fun z hz => ?_, insS_pw x h2⟩
      rcases List.mem_cons.mp ((insS_perm x r).mem_iff.mp hz) with rfl | hz
      · rcases leS_tot y z with t | t
        · exact t
        · unfold leS at t; rw [q] at t; cases t
      · exact h1 z hz
    · rename_i q
      have t : leS x y := by unfold leS; exact Bool.eq_false_iff.mpr q
      refine List.pairwise_cons.mpr ⟨fun z hz => ?_, h⟩
      rcases List.mem_cons.mp hz with rfl | hz
      · exact t
      · exact leS_trans t (h1 z hz)
theorem sortS_pw : ∀ l : List Str, (sortS l).Pairwise leS
  | [] => .nil
  | x :: r => insS_pw x (sortS_pw r)
theorem pw_uniq {α : Type} {le : α → α → Prop} (anti : ∀ {x y}, le x y → le y x → x = y) : ∀ {l l' : List α}, l.Pairwise le → l'.Pairwise le → l.Perm l' → l = l'
  | [], l', _, _, p => (List.nil_perm.mp p).symm
  | x :: r, [], _, _, p => by have := p.length_eq; simp at this
  | x :: r, y :: r', h, h', p => by
    obtain ⟨h1, h2⟩ := List.pairwise_cons.mp h
    obtain ⟨h3, h4⟩ := List.pairwise_cons.mp h'
    have e : x = y := by
      rcases List.mem_cons.mp (p.mem_iff.mp List.mem_cons_self) with e | hx
      · exact e
      rcases List.mem_cons.mp (p.mem_iff.mpr (List.mem_cons_self (a := y) (l := r'))) with e | hy
      · exact e.symm
      · exact anti (h1 y hy) (h3 x hx)
    subst e
    rw [pw_uniq anti h2 h4 ((List.perm_cons x).mp p)]
theorem sortS_of {l l' : List Str} (p : l'.Perm l) (h : sortedS l' = true) : l' = sortS l := pw_uniq leS_anti (sortedS_pw h) (sortS_pw l) (p.trans (sortS_perm l).symm)
theorem insI_pw (x : Int) : ∀ {l : List Int}, l.Pairwise (· ≤ ·) → (insI x l).Pairwise (· ≤ ·)
  | [], _ => List.pairwise_singleton _ _
  | y :: r, h => by
    obtain ⟨h1, h2⟩ := List.pairwise_cons.mp h
    unfold insI
    split
    · rename_i q
      refine List.pairwise_cons.mpr ⟨fun z hz => ?_, insI_pw x h2⟩
      rcases List.mem_cons.mp ((insI_perm x r).mem_iff.mp hz) with rfl | hz
      · omega
      · exact h1 z hz
    · rename_i q
      refine List.pairwise_cons.mpr ⟨fun z hz => ?_, h⟩
      rcases List.mem_cons.mp hz with rfl | hz
      · omega
      · have := h1 z hz; omega
theorem sortI_pw : ∀ l : List Int, (sortI l).Pairwise (· ≤ ·)
  | [] => .nil
  | x :: r => insI_pw x (sortI_pw r)
theorem sortI_of {l l' : List Int} (p : l'.Perm l) (h : l'.Pairwise (· ≤ ·)) : l' = sortI l := pw_uniq (fun a b => by omega) h (sortI_pw l) (p.trans (sortI_perm l).symm)
def sortedF : List D → Option R
  | [.list ds] => match strsOf ds with
    | some ys => if ys.length < 64 then some (.own (.lst ((sortS ys).map PyData.str))) else none
    | none => (intsOf ds).bind fun ns => if ns.length < 64 then some (.own (.lst ((sortI ns).map PyData.int))) else none
  | _ => none
theorem rds_strs {K : KW} {Z : AS} {H : Hp} : ∀ ns : List Str, RDs K Z H (ns.map PyData.str) (ns.map V.str)
  | [] => by simp only [List.map_nil, RDs]
  | n :: ns => by
    simp only [List.map_cons, RDs, RD]
    exact ⟨_, _, rfl, rfl, rds_strs ns⟩
theorem o_sorted {K : KW} : OpL K sortedF (fun xs H Q => rSortedS K xs H Q ∨ rSorted K xs H Q) := fun Z H vs ds r Q zl hx er k => by
  unfold sortedF at er
  split at er
  · split at er
    · rename_i ys ey
      split at er
      · rename_i hl; cases er
        obtain ⟨v, rfl, p, vs, rfl, hq, hd⟩ := rvs1 hx
        cases strs_vs hd ey
        refine .inl ⟨p, ys, rfl, hq, hl, fun zs q hp hs hn => ?_⟩
        rw [sortS_of hp hs]
        exact q_lst zl (rds_strs _) k q hn
      · cases er
    · obtain ⟨ns, en, er⟩ := bnd er
      split at er
      · rename_i hl; cases er
        obtain ⟨v, rfl, p, vs, rfl, hq, hd⟩ := rvs1 hx
        cases ints_vs hd en
        refine .inr ⟨p, ns, rfl, hq, hl, fun zs q hp hs hn => ?_⟩
        rw [sortI_of hp hs]
        exact q_lst zl (rds_ints _) k q hn
      · cases er
  · cases er
theorem ce_sorted {p pos : Pos} (hg : Gl X "sorted") (hm : X.mg "sorted" = none) (ha : CA X [e] ms) (he : starEach [e] X.env = (false, eval e X.env) :: starEach [] X.env := by rfl) : CE X (.Call (.Name "sorted" p) [e] [] pos) (mCB sortedF ms) :=
  ce_callB (CallR.or cr_sortedS cr_sorted) o_sorted PyProof.Rows.boot_sorted hg hm ha (he := he)
/-! ### a < b < c -/
def mChain (f g : D → D → Option R) (ma mb mc : ME) : ME := fun ρ => (ma ρ).bind fun p => (mb p.2).bind fun q => (rs q.2 p.1).bind fun x => (rs q.2 q.1).bind fun y => (f x y).bind fun r => match r with
  | .val (.bool true) => (mc q.2).bind fun s => (rs s.2 q.1).bind fun y' => (rs s.2 s.1).bind fun z => (g y' z).map fun r' => (r', s.2)
  | .val (.bool false) => some (.val (.bool false), q.2)
  | _ => none
theorem tE_chain {K : KW} {f g : D → D → Option R} {r r' : R2} {ma mb mc : ME} (o : OpV K f r) (o' : OpV K g r') : ∀ σ H Q, tE K (mChain f g ma mb mc) σ H Q → tChain r r' (tE K ma) (tE K mb) (tE K mc) σ H Q := fun σ H Q ⟨Z, ρ, r0, ρ', fr, e, k⟩ => by
  obtain ⟨⟨r1, ρ1⟩, e1, e⟩ := bnd e
  obtain ⟨⟨r2, ρ2⟩, e2, e⟩ := bnd e
  obtain ⟨d1, ex, e⟩ := bnd e
  obtain ⟨d2, ey, e⟩ := bnd e
  obtain ⟨r3, er, e⟩ := bnd e
  refine ⟨Z, ρ, r1, ρ1, fr, e1, fun Z1 H1 x g1 h1 => ⟨Z1, ρ1, r2, ρ2, g1.fr, e2, fun Z2 H2 y g2 h2 => ?_⟩⟩
  have h1' := h1.go g1.fr g2
  have gg := g1.trans g2
  refine o Z2 H2 x y d1 d2 r3 _ g2.fr.zl (rs_ok g2.fr h1' ex) (rs_ok g2.fr h2 ey) er fun Z3 H3 v n3 nr => ?_
  have g3 := gg.trans (n3.go gg.fr)
  simp only at e
  split at e
  · simp only [NR, RD] at nr
    subst nr
    refine ⟨true, rfl, iteT ?_⟩
    obtain ⟨⟨r4, ρ4⟩, e4, e⟩ := bnd e
    obtain ⟨d5, e5, e⟩ := bnd e
    obtain ⟨d6, e6, e⟩ := bnd e
    obtain ⟨r7, e7, e⟩ := Option.map_eq_some_iff.mp e
    cases e
    refine ⟨Z3, ρ2, r4, ρ4, g3.fr, e4, fun Z4 H4 w g4 h4 => ?_⟩
    have g5 := g3.trans g4
    have h2' := (h2.go g2.fr (n3.go g2.fr)).go g3.fr g4
    refine o' Z4 H4 y w d5 d6 r0 Q g5.fr.zl (rs_ok g5.fr h2' e5) (rs_ok g5.fr h4 e6) e7 fun Z' H' v n nr => k Z' H' v (g5.trans (n.go g5.fr)) (nr.rr g5 n)
  · cases e
    simp only [NR, RD] at nr
    subst nr
    exact ⟨false, rfl, iteF (k Z3 H3 _ g3 (by simp only [RR, RD]))⟩
  · cases e
theorem ce_chain {a b c : Expr} {op op' : CmpOp} {f g : D → D → Option R} {r r' : R2} {ma mb mc : ME} {pos : Pos} (ho : OpR X (compareOp op) r) (ho' : OpR X (compareOp op') r') (o : OpV X.KW f r) (o' : OpV X.KW g r') (ha : CE X a ma) (hb : CE X b mb) (hc : CE X c mc)
    (hm : lastMarks [op, op'] [b, c] = false := by first | rfl | decide) : CE X (.Compare a [op, op'] [b, c] pos) (mChain f g ma mb mc) := by
  first | exact pe_imp (pe_chain ho ho' ha hb hc) (tE_chain o o') | exact pe_imp (pe_chain ho ho' ha hb hc hm) (tE_chain o o')
end
end Zl
end

-- ZKw
section
namespace Zl
open PySem PySem.Spec PyProof.Rows L2

/-! ### keywords -/
def perm {α : Type} : List Nat → List α → List α
  | [], _ => []
  | i :: is, l => match l[i]? with
    | some a => a :: perm is l
    | none => perm is l
theorem perm_paired {α β : Type} {F : α → β → Prop} {l : List α} {l' : List β} (h : Paired F l l') : ∀ is : List Nat, Paired F (perm is l) (perm is l')
  | [] => .nil
  | i :: is => by
    unfold perm
    cases q : l[i]? with
    | some a =>
      obtain ⟨b, e, f⟩ := paired_at h q
      rw [e]
      exact .cons f (perm_paired h is)
    | none =>
      have : l'[i]? = none := by rw [List.getElem?_eq_none_iff] at q ⊢; rw [← paired_len h]; exact q
      rw [this]
      exact perm_paired h is
/-- a call by keywords alone: the values in their written order to the parameters' -/
structure KB0 (K : KW) (fd : FuncData) (ps ks : List Str) (is : List Nat) : Prop where
  to : ∀ (s : Shared) (ws : List Value), (perm is ws).length = ps.length → BindsTo s fd ⟨[], ks.zip ws⟩ (ps.zip (perm is ws))
theorem kb0 {K : KW} {x qual : Str} {st : Stmt} {f : Addr} {fd : FuncData} {ps ks : List Str} {is : List Nat} (F : Fun K x qual st f fd)
    (h : ∀ (kV doc pm : Value) (an : Option Addr) (cdv ct : Value) (ws : List Value), (perm is ws).length = ps.length → bindArgs (PySem.W.fnOf x qual (defArgs st) (defBody st) (defScope st) .none kV doc pm an cdv ct) ⟨[], ks.zip ws⟩ = pure (ps.zip (perm is ws))) : KB0 K fd ps ks is := by
  obtain ⟨oc, od, kV, doc, pm, an, cdv, ct, osl, rfl, lk, hcd⟩ := F.ex
  exact ⟨fun s ws hl => .of_eq (h kV doc pm an cdv ct ws hl)⟩
section
variable {X : Cx} {CX : CXT} {k : Nat} {f : Addr} {fd : FuncData} {ps ks : List Str} {sp : Sp} {E : XK} {x : Str} {p pos : Pos} {e : Expr} {kws : List Keyword} {tk : TA} {is : List Nat}
theorem pe_callK0 (F : FnG X.prog X.w X.KW X.mg X.base k f fd ps sp) (hr : RoomG k X.A) (hg : Gl X x) (hm : X.mg x = some (.ref f)) (hk : PySem.W.keepIn X.KW (.ref f) = true) (hb : KB0 X.KW fd ps ks is) (hx : Passes CX0 X E)
    (hkw : PK X kws tk) (hall : (backToKw pos (keywordEach kws X.env)).all (·.1.isSome) = true := by rfl) (hks : (backToKw pos (keywordEach kws X.env)).filterMap (·.1) = ks := by rfl)
    (hdb : (x == ("__debug__" : Str)) = false := by decide) (hpl : ((backTo pos (starEach [] X.env)).any (·.1) || (backToKw pos (keywordEach kws X.env)).any (·.1.isNone)) = false := by rfl) :
    PE X (.Call (.Name x p) [] kws pos) (fun σ H Q => tk σ H fun zs H2 => sp (perm is zs) H2 Q E) := by
  refine ⟨fun pins s σ H Q I h => ?_⟩
  refine wpAny_Call_Name_kw (ld_glob I hg hm ?_ hdb)
  refine PySem.W.callWith_KW0 (h₀ := X.base) I.ok.mod.kin hk hall (thn (hkw.run pos pins s σ H _ I h) fun ws s2 ⟨zs, H2, I2, rz, q2⟩ => ⟨I2.kIn, ?_⟩) hpl
  rw [hks]
  exact run_G (args := ⟨[], ks.zip ws⟩) F hr (fun hl => hb.to s2 ws hl) hx I2 (perm_paired rz is) q2
/-- keywords' values, from the left -/
def CK (X : Cx) (kws : List Keyword) (m : MA) : Prop := PK X kws (tAR X.KW m)
theorem pk_imp {t t' : TA} (h : PK X kws t) (i : ∀ σ H Q, t' σ H Q → t σ H Q) : PK X kws t' := ⟨fun p pins s σ H Q I hw => h.run p pins s σ H Q I (i σ H Q hw)⟩
variable {m : ME} {ms : MA} {nm : Option Str} {kpos : Pos}
theorem ck_nil : CK X [] mA0 := pk_imp pk_nil fun σ H Q ⟨Z, ρ, r, ρ', fr, e, q⟩ => by cases e; exact q Z H _ (.refl fr) .nil
theorem ck_cons (h : CE X e m) (hs : CK X kws ms) : CK X (⟨nm, e, kpos⟩ :: kws) (mA1 m ms) :=
  pk_imp (pk_cons h hs) fun σ H Q ⟨Z, ρ, r, ρ', fr, e, q⟩ => by
    obtain ⟨⟨k1, ρ1⟩, e1, e⟩ := bnd e
    obtain ⟨⟨k2, ρ2⟩, e2, e⟩ := bnd e
    cases e
    refine ⟨Z, ρ, k1, ρ1, fr, e1, fun Z1 H1 x g1 h1 => ⟨Z1, ρ1, k2, ρ2, g1.fr, e2, fun Z2 H2 y g2 h2 => ?_⟩⟩
    exact q Z2 H2 _ (g1.trans g2) (.cons (h1.go g1.fr g2) (Paired.mapP h2 fun _ _ h => h.at0 g1))
def mPerm (is : List Nat) (ms : MA) : MA := fun ρ => (ms ρ).map fun p => (perm is p.1, p.2)
theorem ce_callK0 {F : ME} {n : Nat} (G : FnG X.prog X.w X.KW X.mg X.base k f fd ps (spD X.KW F n)) (hF : ∀ ρ r, F ρ = some r → ρ.length = n) (hr : RoomG k X.A) (hg : Gl X x) (hm : X.mg x = some (.ref f)) (hk : PySem.W.keepIn X.KW (.ref f) = true)
    (hb : KB0 X.KW fd ps ks is) (ha : CK X kws ms) (hall : (backToKw pos (keywordEach kws X.env)).all (·.1.isSome) = true := by rfl) (hks : (backToKw pos (keywordEach kws X.env)).filterMap (·.1) = ks := by rfl)
    (hdb : (x == ("__debug__" : Str)) = false := by decide) (hpl : ((backTo pos (starEach [] X.env)).any (·.1) || (backToKw pos (keywordEach kws X.env)).any (·.1.isNone)) = false := by rfl) :
    CE X (.Call (.Name x p) [] kws pos) (mCall F (mPerm is ms)) :=
  pe_imp (pe_callK0 G hr hg hm hk hb pass0 ha hall hks hdb hpl) fun σ H Q h => by
    obtain ⟨Z, ρ, rs, ρ1, fr, e1, q⟩ := tE_call (E := E0) hF σ H Q h
    obtain ⟨⟨rs0, ρ0⟩, e0, e⟩ := Option.map_eq_some_iff.mp e1
    cases e
    refine ⟨Z, ρ, rs0, _, fr, e0, fun Z1 H1 vs g1 h1 => ?_⟩
    have := q Z1 H1 (perm is vs) g1 (perm_paired h1 is)
    have t : spD X.KW F n (perm is vs ++ []) H1 Q E0 := this
    rw [List.append_nil] at t
    exact t
end
end Zl
namespace Zl
open PySem PySem.Spec PyProof.Rows L2
/-! ### truth -/
def truD : D → Option Bool
  | .none => some false
  | .bool b => some b
  | .int i => some (i != 0)
  | .str y => if y.length ≤ sizeLine then some ((y.length : Int) != 0) else none
  | .list ds => some (!ds.isEmpty)
  | .tuple ds => some (!ds.isEmpty)
  | .dict _ => none
def mT (m : ME) : MT := fun ρ => (m ρ).bind fun p => (rs p.2 p.1).bind fun d => (truD d).map fun b => (b, p.2)
theorem rds_emp {K : KW} {Z : AS} {H : Hp} {ds : List D} {vs : List V} (h : RDs K Z H ds vs) : vs.isEmpty = ds.isEmpty := by
  have := rds_len h
  cases ds <;> cases vs <;> simp_all
theorem tru_ok {K : KW} {Z : AS} {H : Hp} {d : D} {v : V} {b : Bool} (h : RV K Z H d v) (e : truD d = some b) : TruV K v H b := by
  cases d with
  | none => cases e; cases rv_none h; exact rfl
  | bool b => cases e; cases rv_bool h; exact rfl
  | int b => cases e; cases rv_int h; exact rfl
  | str y =>
    cases rv_str h
    simp only [truD] at e
    split at e
    · rename_i hl; cases e; exact ⟨hl, rfl⟩
    · cases e
  | list ds =>
    cases e
    obtain ⟨a, vs, rfl, q, r⟩ := h
    exact .inl ⟨vs, q, by rw [rds_emp r]⟩
  | tuple ds =>
    cases e
    obtain ⟨a, vs, rfl, q, r⟩ := rv_tup h
    exact .inr (.inl ⟨vs, q.sq, by rw [rds_emp r]⟩)
  | dict ks => cases e
section
variable {X : Cx} {e : Expr} {m : ME}
theorem ct_tru (h : CE X e m) (he : ∀ whole, isTrue e X.env whole = (do let v ← whole; standAt e.pos; holding [v] (truthy v)) := by intro _; rfl) : CT X e (mT m) :=
  pt_imp (pt_truth h he) fun σ H Q ⟨Z, ρ, b, ρ', fr, e, k⟩ => by
    obtain ⟨⟨r1, ρ1⟩, e1, e⟩ := bnd e
    obtain ⟨d, e2, e⟩ := bnd e
    obtain ⟨b', e3, e⟩ := Option.map_eq_some_iff.mp e
    cases e
    exact ⟨Z, ρ, r1, ρ1, fr, e1, fun Z1 H1 x g1 h1 => ⟨_, tru_ok (rs_ok g1.fr h1 e2) e3, k Z1 H1 g1⟩⟩
theorem ct_chain {a b c : Expr} {op op' : CmpOp} {f g : D → D → Option R} {r r' : R2} {ma mb mc : ME} {pos : Pos} (ho : OpR X (compareOp op) r) (ho' : OpR X (compareOp op') r') (o : OpV X.KW f r) (o' : OpV X.KW g r') (ha : CE X a ma) (hb : CE X b mb) (hc : CE X c mc)
    (hm : lastMarks [op, op'] [b, c] = false := by with_unfolding_all rfl) : CT X (.Compare a [op, op'] [b, c] pos) (mB (mChain f g ma mb mc)) :=
  pt_imp (pt_chain ho ho' ha hb hc hm) fun σ H Q h => tE_chain o o' _ _ _ (tT_B _ _ _ h)
theorem ce_chn {a b c : Expr} {op op' : CmpOp} {f g : D → D → Option R} {r r' : R2} {ma mb mc : ME} {pos : Pos} (ho : OpR X (compareOp op) r) (ho' : OpR X (compareOp op') r') (o : OpV X.KW f r) (o' : OpV X.KW g r') (ha : CE X a ma) (hb : CE X b mb) (hc : CE X c mc)
    (hm : lastMarks [op, op'] [b, c] = false := by with_unfolding_all rfl) : CE X (.Compare a [op, op'] [b, c] pos) (mChain f g ma mb mc) := pe_imp (pe_chain ho ho' ha hb hc hm) (tE_chain o o')
end
/-! ### a def of the text, for its callers -/
structure Cal (P : Program) (w : World) (K : PySem.W.Frag) (mg : Str → Option Value) (base : Heap) (x : Str) (st : Stmt) (lev : Nat) (ps : List Str) (F : ME) : Prop where
  ex : ∃ f fd, Fun K x x st f fd ∧ FnG P w K mg base lev f fd ps (spD ⟨K, P, w⟩ F ps.length) ∧ mg x = some (.ref f) ∧ Binds K fd ps []
  len : ∀ ρ r, F ρ = some r → ρ.length = ps.length
section
variable {X : Cx} {x : Str} {p pos : Pos} {e : Expr} {es : List Expr} {k lev : Nat} {ps ks : List Str} {F : ME} {ms : MA} {st : Stmt} {kws : List Keyword} {is : List Nat}
theorem cc_call (C : Cal X.prog X.w X.K X.mg X.base x st lev ps F) (hr : RoomG k X.A) (hk : lev ≤ k) (hg : Gl X x) (ha : CA X (e :: es) ms) (hdb : (x == ("__debug__" : Str)) = false := by decide) (he : starEach (e :: es) X.env = (false, eval e X.env) :: starEach es X.env := by rfl) (hpl : (backTo pos (starEach es X.env)).any (·.1) = false := by rfl) :
    CE X (.Call (.Name x p) (e :: es) [] pos) (mCall F ms) := by
  obtain ⟨f, fd, FF, G, hm, hb⟩ := C.ex
  exact ce_call G C.len (hr.mono hk) hg hm FF.kp hb ha hdb he hpl
theorem cc_callIo {y : Str} {py : Pos} {i : Nat} (C : Cal X.prog X.w X.K X.mg X.base x st lev ps F) (hr : RoomG k X.A) (hk : lev ≤ k) (hg : Gl X x) (hy : PE X (.Name y py) (tVar i)) (ha : CA X es ms) (hdb : (x == ("__debug__" : Str)) = false := by decide) (he : starEach (.Name y py :: es) X.env = (false, eval (.Name y py) X.env) :: starEach es X.env := by rfl) (hpl : (backTo pos (starEach es X.env)).any (·.1) = false := by rfl) :
    CE X (.Call (.Name x p) (.Name y py :: es) [] pos) (mCallIo F i ms) := by
  obtain ⟨f, fd, FF, G, hm, hb⟩ := C.ex
  exact ce_callIo G C.len (hr.mono hk) hg hm FF.kp hb hy ha hdb he hpl
theorem cc_callTmp {m : ME} (C : Cal X.prog X.w X.K X.mg X.base x st lev ps F) (hr : RoomG k X.A) (hk : lev ≤ k) (hg : Gl X x) (hy : CE X e m) (ha : CA X es ms) (hdb : (x == ("__debug__" : Str)) = false := by decide) (he : starEach (e :: es) X.env = (false, eval e X.env) :: starEach es X.env := by rfl) (hpl : (backTo pos (starEach es X.env)).any (·.1) = false := by rfl) :
    CE X (.Call (.Name x p) (e :: es) [] pos) (mCallTmp F m ms) := by
  obtain ⟨f, fd, FF, G, hm, hb⟩ := C.ex
  exact ce_callTmp G C.len (hr.mono hk) hg hm FF.kp hb hy ha hdb he hpl
theorem cc_callK (C : Cal X.prog X.w X.K X.mg X.base x st lev ps F) (hr : RoomG k X.A) (hk : lev ≤ k) (hg : Gl X x)
    (hb : ∀ (kV doc pm : Value) (an : Option Addr) (cdv ct : Value) (ws : List Value), (perm is ws).length = ps.length → bindArgs (PySem.W.fnOf x x (defArgs st) (defBody st) (defScope st) .none kV doc pm an cdv ct) ⟨[], ks.zip ws⟩ = pure (ps.zip (perm is ws)))
    (ha : CK X kws ms) (hall : (backToKw pos (keywordEach kws X.env)).all (·.1.isSome) = true := by rfl) (hks : (backToKw pos (keywordEach kws X.env)).filterMap (·.1) = ks := by rfl) (hdb : (x == ("__debug__" : Str)) = false := by decide) (hpl : ((backTo pos (starEach [] X.env)).any (·.1) || (backToKw pos (keywordEach kws X.env)).any (·.1.isNone)) = false := by rfl) :
    CE X (.Call (.Name x p) [] kws pos) (mCall F (mPerm is ms)) := by
  obtain ⟨f, fd, FF, G, hm, _⟩ := C.ex
  exact ce_callK0 G C.len (hr.mono hk) hg hm FF.kp (kb0 FF hb) ha hall hks hdb hpl
end
/-- a def whose body is m -/
theorem cal_mk {P : Program} {w : World} {K : PySem.W.Frag} {mg : Str → Option Value} {base : Heap} {x : Str} {st : Stmt} {f : Addr} {fd : FuncData} {N ps : List Str} {k np nN : Nat} {m : MS} (F : Fun K x x st f fd) (S : FnScope N ps (defScope st)) (g : mg x = some (.ref f)) (b : Binds K fd ps [])
    (hp : ps.length = np) (hN : N.length = nN)
    (hb : ∀ (cdv : Value) (A : Around) (outer : List Env) (s : Shared) (H : Hp) (E : XK), RoomG k (A.deeper (envOfC x (defScope st) s.heap.objs.size f cdv)) → CSs (cxOf CX0 P w K mg base N x (defScope st) f cdv A outer s H E).nox (defBody st) m) :
    Cal P w K mg base x st (k + 1) ps (runF np nN m) := by
  subst hp hN
  exact ⟨⟨f, fd, F, fn_z F S hb, g, b⟩, runF_len⟩
def mNever : MS := fun _ => none
theorem css_never {X : Cx} {st : List Stmt} : CSs X st mNever := ⟨fun pins s σ H Dn I ⟨Z, ρ, fl, ρ', fr, e, k⟩ => by cases e⟩
theorem ms_of {X : Cx} {st : List Stmt} {m m' : MS} (h : CSs X st m) (e : m = m') : CSs X st m' := e ▸ h
end Zl
end

-- ZIt
section
/-! zip of two tuples of one length, strict=True -/
namespace Zi
open PySem PySem.Spec PyProof.Rows L2 RZ
/-- a strict zip's own cell -/
abbrev Zs (h : Heap) (z I O : Addr) (f : Value) : Prop :=
  h.get? z = some { cls := .type "zip", dict := none, data := .fields #[f, .bool false, .bool true, .ref I, .ref O], slots := #[] }
section
variable {prog : Program} {w : World} {A : Around} {E : Value → Shared → Prop} {s : Shared}
theorem draw_it {j a : Addr} {k : Nat} {xs : Array Value} {x : Value} {Q : Option Value → Shared → Prop} (hj : s.heap.IsTupleIter j a k) (ha : s.heap.IsTuple a xs) (hx : xs[k]? = some x)
    (q : ∀ h', h'.IsTupleIter j a (k + 1) → Heap.SameBut j s.heap h' → Q (some x) { s with heap := h' }) : wpAny (model prog w) A (Builtin.SmallTypes.nextOrEnd (.ref j)) Q E s := by
  unfold Builtin.SmallTypes.nextOrEnd
  exact wpAny_bind (wpAny_attempt (nextOf_tuple_item hj ha hx fun h' u v => wpAny_pure (q h' u v)))
theorem draw_no {j a : Addr} {k : Nat} {xs : Array Value} {Q : Option Value → Shared → Prop} (hh : A.handled = none) (hj : s.heap.IsTupleIter j a k) (ha : s.heap.IsTuple a xs) (hx : xs[k]? = none)
    (q : ∀ h', Heap.ExtBut j s.heap h' → Q none { s with heap := h' }) : wpAny (model prog w) A (Builtin.SmallTypes.nextOrEnd (.ref j)) Q E s := by
  unfold Builtin.SmallTypes.nextOrEnd
  refine wpAny_bind (wpAny_attempt (nextOf_tuple_end hh hj ha hx fun h' e ex he => ?_))
  exact wpAny_bind (wpAny_isInstance (T := "StopIteration") (b := true) he isSubtype_stop (wpAny_pure (q h' ex)))
theorem zs_go {es : List Expr} {c} {pos : Pos} {z I O T : Addr} {Q : Unit → Shared → Prop} (hz : Zs s.heap z I O (rawInt T)) (q : ∀ h', Zs h' z I O .none → Heap.SameBut z s.heap h' → Q () { s with heap := h' }) :
    wpAny (model prog w) A (letOwnedTupleGo (.Tuple es c pos) (.ref z) (.ref T)) Q E s := by
  unfold letOwnedTupleGo; refine wpAny_bind (wpAny_load hz ?_)
  refine (show wpAny _ _ (if (["enumerate", "zip", "dict_itemiterator", "dict_reverseitemiterator", "odict_iterator", "itertools.zip_longest", "itertools.pairwise"].contains "zip" && (#[rawInt T, .bool false, .bool true, .ref I, .ref O] : Array Value)[0]? == some (rawInt T)) = true then _ else _) Q E s from ?_)
  rw [if_pos (by simp)]; refine wpAny_bind (wpAny_rule ?_)
  refine (show wpAny _ _ (setField (.ref z) 0 .none) Q E s from wpAny_setField_rec hz (by simp) fun h' u v => q h' u v)
theorem zs_iter {z I O : Addr} {f : Value} {Q : Value → Shared → Prop} (hz : Zs s.heap z I O f) (q : Q (.ref z) s) : wpAny (model prog w) A (pyIter (.ref z)) Q E s := by
  have t : s.TypeIs (.ref z) "zip" := ⟨_, hz, rfl⟩
  exact wpAny_pyIter_slot t F.slot_zip_iter (wpAny_call_entry F.slot_zip_iter t F.entry_zip_iter (wpAny_pure ⟨_, rfl, "zip", _, t, F.slot_zip_next.lookup, q⟩) (F.args_zip_iter_1 _))
/-- the common beginning of a draw -/
theorem zs_item {z I O i j a b : Addr} {k : Nat} {xs ys : Array Value} {x y u v : Value} {Q : Value → Shared → Prop} (D : ZipApart z I O i j a b)
    (hz : Zs s.heap z I O .none) (hI : IsPair s.heap I (.ref i) (.ref j)) (hO : IsPair s.heap O u v) (g1 : s.heap.IsTupleIter i a k) (g2 : s.heap.IsTupleIter j b k) (ha : s.heap.IsTuple a xs) (hb : s.heap.IsTuple b ys)
    (hx : xs[k]? = some x) (hy : ys[k]? = some y)
    (q : ∀ h', Zs h' z I O (rawInt s.heap.objs.size) → IsPair h' O x y → h'.IsTupleIter i a (k + 1) → h'.IsTupleIter j b (k + 1) → IsPair h' s.heap.objs.size x y →
      (∀ c o, c ≠ z → c ≠ O → c ≠ i → c ≠ j → s.heap.get? c = some o → h'.get? c = some o) → Q (.ref s.heap.objs.size) { s with heap := h' }) :
    wpAny (model prog w) A (Builtin.«zip.__next__» ⟨[.ref z], []⟩) (fun fin s' => ∃ v, fin = .done (.ret v) ∧ Q v s') E s := by
  refine (show wpAny _ _ (field (.ref z) 2 >>= _) _ _ _ from wpAny_bind (wpAny_field hz rfl (x := .bool true) rfl ?_))
  refine (show wpAny _ _ (field (.ref z) 3 >>= _) _ _ _ from wpAny_bind (wpAny_field hz rfl (x := .ref I) rfl (wpAny_bind (wpAny_seqItems hI rfl ?_))))
  refine (show wpAny _ _ (Builtin.SmallTypes.ownedTupleIsFree (.ref z) >>= _) _ _ _ from wpAny_bind ?_)
  unfold Builtin.SmallTypes.ownedTupleIsFree; refine wpAny_bind (wpAny_field hz rfl (x := .none) rfl (wpAny_pure ?_))
  simp only [if_true]
  refine wpAny_bind (wpAny_rule (wpAny_bind (wpAny_field hz rfl (x := .ref O) rfl ?_)))
  refine wpAny_bind (wpAny_setField_rec hz (by simp) fun m1 z1 k1 => ?_)
  have z1 : Zs m1 z I O .ellipsis := z1
  refine wpAny_bind ?_; simp only [List.zipIdx_cons, List.zipIdx_nil, List.forIn_cons, List.forIn_nil]
  refine wpAny_bind (wpAny_bind (wpAny_onRaise ?_))
  refine (show wpAny _ _ (Builtin.SmallTypes.nextOrEnd (.ref i)) _ _ _ from draw_it (g1.extBut k1.extBut D.i1z) (ha.extBut k1.extBut D.l1z) hx fun m2 g1' k2 => ?_)
  have o2 : IsPair m2 O u v := k2.extBut _ _ D.TOi1 (k1.extBut _ _ D.TOz hO)
  refine wpAny_bind (wpAny_seqItems o2 rfl (wpAny_bind (wpAny_updateSeq_pair o2 fun m3 o3 k3 => ?_)))
  have o3 : IsPair m3 O x v := o3
  refine wpAny_bind (wpAny_letGo (wpAny_pure ?_)); refine wpAny_bind (wpAny_bind (wpAny_onRaise ?_))
  refine (show wpAny _ _ (Builtin.SmallTypes.nextOrEnd (.ref j)) _ _ _ from draw_it (((g2.extBut k1.extBut D.i2z).extBut k2.extBut D.i12.symm).extBut k3.extBut D.TOi2.symm) (((hb.extBut k1.extBut D.l2z).extBut k2.extBut D.l2i1).extBut k3.extBut D.l2TO) hy fun m4 g2' k4 => ?_)
  have o4 : IsPair m4 O x v := k4.extBut _ _ D.TOi2 o3
  refine wpAny_bind (wpAny_seqItems o4 rfl (wpAny_bind (wpAny_updateSeq_pair o4 fun m5 o5 k5 => ?_)))
  have o5 : IsPair m5 O x y := o5
  refine wpAny_bind (wpAny_letGo (wpAny_pure (wpAny_pure ?_))); refine wpAny_bind (wpAny_seqItems o5 rfl (wpAny_bind (wpAny_newTuple ?_)))
  have e5 : m5.objs.size = s.heap.objs.size := by rw [k5.1, k4.1, k3.1, k2.1, k1.1]
  have z5 : Zs m5 z I O .ellipsis := k5.extBut _ _ D.TOz.symm (k4.extBut _ _ D.i2z.symm (k3.extBut _ _ D.TOz.symm (k2.extBut _ _ D.i1z.symm z1)))
  have l5 : z < m5.objs.size := Heap.lt_size z5
  refine (show wpAny _ _ (Builtin.SmallTypes.ownedTupleHandOut (.ref z) (.ref m5.objs.size) >>= _) _ _ _ from wpAny_bind ?_)
  unfold Builtin.SmallTypes.ownedTupleHandOut
  have z6 : Zs (m5.push { cls := .type "tuple", data := .seq #[x, y] }) z I O .ellipsis := Heap.get?_push_of_some _ z5
  refine wpAny_bind (wpAny_setField_rec z6 (by simp) fun m7 z7 k7 => ?_)
  have z7 : Zs m7 z I O (rawInt m5.objs.size) := z7
  refine wpAny_setField_rec z7 (by simp) fun m8 z8 k8 => ?_
  have z8 : Zs m8 z I O (rawInt m5.objs.size) := z8
  have up : ∀ c o, c ≠ z → m5.get? c = some o → m8.get? c = some o := fun c o n e => k8.extBut _ _ n (k7.extBut _ _ n (Heap.get?_push_of_some _ e))
  have t8 : IsPair m8 m5.objs.size x y := k8.extBut _ _ (Nat.ne_of_gt l5) (k7.extBut _ _ (Nat.ne_of_gt l5) (Heap.get?_push_size _ rfl))
  rw [e5] at z8 t8
  refine wpAny_pure ⟨_, rfl, (show Q (.ref m5.objs.size) _ from ?_)⟩
  rw [e5]
  exact q m8 z8 (up _ _ D.TOz o5) ((((g1'.extBut k3.extBut D.TOi1.symm).extBut k4.extBut D.i12).extBut k5.extBut D.TOi1.symm).at fun o e => up _ o D.i1z e) ((g2'.extBut k5.extBut D.TOi2.symm).at fun o e => up _ o D.i2z e) t8
    fun c o n1 n2 n3 n4 e => up c o n1 (k5.extBut _ _ n2 (k4.extBut _ _ n4 (k3.extBut _ _ n2 (k2.extBut _ _ n3 (k1.extBut _ _ n1 e)))))
theorem stop_now {Q : Fin → Shared → Prop} (hh : A.handled = none) (q : ∀ h' e, (∀ c o, s.heap.get? c = some o → h'.get? c = some o) → (∃ o, h'.get? e = some o ∧ o.cls = .type "StopIteration") → E (.ref e) { s with heap := h' }) :
    wpAny (model prog w) A (Builtin.SmallTypes.stopIteration) Q E s := by
  unfold Builtin.SmallTypes.stopIteration
  refine wpAny_bind ?_
  simp only [newExc, newTuple]
  refine wpAny_bind (wpAny_newObj_type ?_ (by size_fits))
  refine wpAny_bind (m := firstArgMember _ _) (wpAny_of_eq (a := Value.none) (by first | rfl | (simp only [firstArgMember]; rfl)) (wpAny_newObj_type ?_ (by size_fits)))
  simp only [raiseNew]; refine wpAny_bind (wpAny_handled ?_)
  rw [hh]; refine wpAny_bind (wpAny_pure (wpAny_throw ?_))
  exact q _ _ (fun c o e => Heap.get?_push_of_some _ (Heap.get?_push_of_some _ e)) ⟨_, Heap.get?_push_size _ rfl, rfl⟩
theorem zs_end {z I O i j a b : Addr} {k : Nat} {xs ys : Array Value} {u v : Value} {Q : Fin → Shared → Prop} (hh : A.handled = none) (D : ZipApart z I O i j a b)
    (hz : Zs s.heap z I O .none) (hI : IsPair s.heap I (.ref i) (.ref j)) (hO : IsPair s.heap O u v) (g1 : s.heap.IsTupleIter i a k) (g2 : s.heap.IsTupleIter j b k) (ha : s.heap.IsTuple a xs) (hb : s.heap.IsTuple b ys)
    (hx : xs[k]? = none) (hy : ys[k]? = none)
    (q : ∀ h' e, (∀ c o, c ≠ z → c ≠ O → c ≠ i → c ≠ j → s.heap.get? c = some o → h'.get? c = some o) → (∃ o, h'.get? e = some o ∧ o.cls = .type "StopIteration") → E (.ref e) { s with heap := h' }) :
    wpAny (model prog w) A (Builtin.«zip.__next__» ⟨[.ref z], []⟩) Q E s := by
  refine (show wpAny _ _ (field (.ref z) 2 >>= _) _ _ _ from wpAny_bind (wpAny_field hz rfl (x := .bool true) rfl ?_))
  refine (show wpAny _ _ (field (.ref z) 3 >>= _) _ _ _ from wpAny_bind (wpAny_field hz rfl (x := .ref I) rfl (wpAny_bind (wpAny_seqItems hI rfl ?_))))
  refine (show wpAny _ _ (Builtin.SmallTypes.ownedTupleIsFree (.ref z) >>= _) _ _ _ from wpAny_bind ?_)
  unfold Builtin.SmallTypes.ownedTupleIsFree; refine wpAny_bind (wpAny_field hz rfl (x := .none) rfl (wpAny_pure ?_))
  simp only [if_true]
  refine wpAny_bind (wpAny_rule (wpAny_bind (wpAny_field hz rfl (x := .ref O) rfl ?_)))
  refine wpAny_bind (wpAny_setField_rec hz (by simp) fun m1 z1 k1 => ?_)
  have z1 : Zs m1 z I O .ellipsis := z1
  refine wpAny_bind ?_; simp only [List.zipIdx_cons, List.zipIdx_nil, List.forIn_cons, List.forIn_nil]
  refine wpAny_bind (wpAny_bind (wpAny_onRaise ?_))
  refine (show wpAny _ _ (Builtin.SmallTypes.nextOrEnd (.ref i)) _ _ _ from draw_no hh (g1.extBut k1.extBut D.i1z) (ha.extBut k1.extBut D.l1z) hx fun m2 k2 => ?_)
  have z2 : Zs m2 z I O .ellipsis := k2 _ _ D.i1z.symm z1
  refine wpAny_bind (wpAny_setField_rec z2 (by simp) fun m3 z3 k3 => ?_)
  refine wpAny_bind ?_
  refine (show wpAny _ _ (_ >>= _) _ _ _ from wpAny_bind ?_)
  simp only [List.drop_succ_cons, List.drop_zero, List.zipIdx_cons, List.zipIdx_nil, List.forIn_cons, List.forIn_nil]
  refine wpAny_bind (wpAny_bind (draw_no hh (((g2.extBut k1.extBut D.i2z).extBut k2 D.i12.symm).extBut k3.extBut D.i2z) (((hb.extBut k1.extBut D.l2z).extBut k2 D.l2i1).extBut k3.extBut D.l2z) hy fun m4 k4 => ?_))
  simp only [Option.isSome_none, Bool.false_eq_true, if_false]
  refine wpAny_pure (wpAny_pure (wpAny_bind (wpAny_rule (stop_now hh fun h' e kp he => q h' e (fun c o n1 n2 n3 n4 f => ?_) he))))
  exact kp _ _ (k4 _ _ n4 (k3.extBut _ _ n1 (k2 _ _ n3 (k1.extBut _ _ n1 f))))
end
end Zi
namespace Zi
open PySem PySem.Spec PyProof.Rows L2 RZ
section
variable {prog : Program} {w : World} {A : Around} {E : Value → Shared → Prop} {s : Shared}
theorem zs_next {z I O i j a b : Addr} {k : Nat} {xs ys : Array Value} {x y u v : Value} {Q : Option Value → Shared → Prop} (D : ZipApart z I O i j a b)
    (hz : Zs s.heap z I O .none) (hI : IsPair s.heap I (.ref i) (.ref j)) (hO : IsPair s.heap O u v) (g1 : s.heap.IsTupleIter i a k) (g2 : s.heap.IsTupleIter j b k) (ha : s.heap.IsTuple a xs) (hb : s.heap.IsTuple b ys)
    (hx : xs[k]? = some x) (hy : ys[k]? = some y)
    (q : ∀ h', Zs h' z I O (rawInt s.heap.objs.size) → IsPair h' O x y → h'.IsTupleIter i a (k + 1) → h'.IsTupleIter j b (k + 1) → IsPair h' s.heap.objs.size x y →
      (∀ c o, c ≠ z → c ≠ O → c ≠ i → c ≠ j → s.heap.get? c = some o → h'.get? c = some o) → Q (some (.ref s.heap.objs.size)) { s with heap := h' }) :
    wpAny (model prog w) A (pyNext (.ref z)) Q E s := by
  have t : s.TypeIs (.ref z) "zip" := ⟨_, hz, rfl⟩
  unfold pyNext
  exact wpAny_bind (wpAny_attempt (wpAny_callSpecial?_slot (name := Str.ofString "__next__") t F.slot_zip_next
    (wpAny_call_entry F.slot_zip_next t F.entry_zip_next (zs_item D hz hI hO g1 g2 ha hb hx hy fun h' b1 b2 b3 b4 b5 b6 => wpAny_pure (q h' b1 b2 b3 b4 b5 b6)) (F.args_zip_next_1 _))))
theorem zs_over {z I O i j a b : Addr} {k : Nat} {xs ys : Array Value} {u v : Value} {Q : Option Value → Shared → Prop} (hh : A.handled = none) (D : ZipApart z I O i j a b)
    (hz : Zs s.heap z I O .none) (hI : IsPair s.heap I (.ref i) (.ref j)) (hO : IsPair s.heap O u v) (g1 : s.heap.IsTupleIter i a k) (g2 : s.heap.IsTupleIter j b k) (ha : s.heap.IsTuple a xs) (hb : s.heap.IsTuple b ys)
    (hx : xs[k]? = none) (hy : ys[k]? = none) (q : ∀ h', (∀ c o, c ≠ z → c ≠ O → c ≠ i → c ≠ j → s.heap.get? c = some o → h'.get? c = some o) → Q none { s with heap := h' }) :
    wpAny (model prog w) A (pyNext (.ref z)) Q E s := by
  have t : s.TypeIs (.ref z) "zip" := ⟨_, hz, rfl⟩
  unfold pyNext
  refine wpAny_bind (wpAny_attempt (wpAny_callSpecial?_slot (name := Str.ofString "__next__") t F.slot_zip_next
    (wpAny_call_entry F.slot_zip_next t F.entry_zip_next (zs_end hh D hz hI hO g1 g2 ha hb hx hy fun h' e k he => ?_) (F.args_zip_next_1 _))))
  exact wpAny_bind (wpAny_isInstance (T := "StopIteration") (b := true) he isSubtype_stop (wpAny_pure (q _ k)))
theorem typeCall_zs (a b : Value) : checkTypeCall "zip" ⟨[a, b], [(Str.ofString "strict", .bool true)]⟩ = pure () := by kernel_rfl
theorem newCall_zs (a b : Value) : checkBuiltinCall "zip.__new__" ⟨[.type "zip", a, b], [(Str.ofString "strict", .bool true)]⟩ = pure () := by kernel_rfl
theorem init_zs (o a b : Value) : argsOk "object.__init__" ⟨[o, a, b], [(Str.ofString "strict", .bool true)]⟩ := by unfold argsOk; kernel_rfl
abbrev itO (a : Addr) : Obj := { cls := .type "tuple_iterator", data := .fields #[.ref a, .int 0 0] }
abbrev m2 (h : Heap) (a b : Addr) : Heap := (h.push (itO a)).push (itO b)
abbrev m3 (h : Heap) (a b : Addr) : Heap := (m2 h a b).push { cls := .type "tuple", data := .seq #[.ref h.objs.size, .ref (h.push (itO a)).objs.size] }
abbrev m4 (h : Heap) (a b : Addr) : Heap := (m3 h a b).push { cls := .type "tuple", data := .seq #[.none, .none] }
abbrev m5 (h : Heap) (a b : Addr) : Heap := (m4 h a b).push { cls := .type "zip", data := .fields #[.none, .bool false, .bool true, .ref (m2 h a b).objs.size, .ref (m3 h a b).objs.size] }
theorem meets_zs (a b : Addr) (xs ys : Array Value) : Meets (Builtin.«zip.__new__» ⟨[.type "zip", .ref a, .ref b], [(Str.ofString "strict", .bool true)]⟩) (fun _ R s => s.heap.IsTuple a xs ∧ s.heap.IsTuple b ys ∧
      R (.ok (.ret (.ref (m4 s.heap a b).objs.size))) { s with heap := m5 s.heap a b }) :=
  .of_wp fun prog w A R s ⟨ha, hb, h⟩ => by
    obtain ⟨hp, g, d, tk, os⟩ := s
    have hsub := sub_zip
    have ta : Heap.IsTuple (Shared.heap ⟨hp, g, d, tk, os⟩) a xs := ha
    have tb : Heap.IsTuple (Shared.heap ⟨hp.push (itO a), g, d, tk, os⟩) b ys := Heap.IsTuple.push hb _
    have e1 : (Str.ofString "strict" != ("strict" : Str)) = false := by decide +kernel
    wp_walk using wpAny_pyIter_tuple ta, wpAny_pyIter_tuple tb
    exact ⟨_, rfl, h⟩
theorem call_zs {a b : Addr} {xs ys : Array Value} {Q : Value → Shared → Prop} (ha : s.heap.IsTuple a xs) (hb : s.heap.IsTuple b ys)
    (q : ∀ h' N, N = s.heap.objs.size → Zs h' (N + 4) (N + 2) (N + 3) .none → IsPair h' (N + 2) (.ref N) (.ref (N + 1)) → IsPair h' (N + 3) .none .none → h'.IsTupleIter N a 0 → h'.IsTupleIter (N + 1) b 0 →
      (∀ c o, s.heap.get? c = some o → h'.get? c = some o) → Q (.ref (N + 4)) { s with heap := h' }) :
    wpAny (model prog w) A (call (.type "zip") [.ref a, .ref b] [(Str.ofString "strict", .bool true)]) Q E s := by
  refine callType_newKw F.called_zip (by decide) (typeCall_zs _ _) (newCall_zs _ _) (fun o => init_zs o _ _) F.entry_zip_new (meets_zs a b xs ys) ⟨ha, hb, ?_⟩
  have n1 : (s.heap.push (itO a)).objs.size = s.heap.objs.size + 1 := Heap.size_push ..
  have n2 : (m2 s.heap a b).objs.size = s.heap.objs.size + 2 := by rw [Heap.size_push, n1]
  have n3 : (m3 s.heap a b).objs.size = s.heap.objs.size + 3 := by rw [Heap.size_push, n2]
  have n4 : (m4 s.heap a b).objs.size = s.heap.objs.size + 4 := by rw [Heap.size_push, n3]
  have r5 : (m5 s.heap a b).get? (m4 s.heap a b).objs.size = some _ := Heap.get?_push_size _ rfl
  have r4 : (m5 s.heap a b).get? (m3 s.heap a b).objs.size = some _ := Heap.get?_push_of_some _ (Heap.get?_push_size _ rfl)
  have r3 : (m5 s.heap a b).get? (m2 s.heap a b).objs.size = some _ := Heap.get?_push_of_some _ (Heap.get?_push_of_some _ (Heap.get?_push_size _ rfl))
  have r2 : (m5 s.heap a b).get? (s.heap.push (itO a)).objs.size = some _ := Heap.get?_push_of_some _ (Heap.get?_push_of_some _ (Heap.get?_push_of_some _ (Heap.get?_push_size _ rfl)))
  have r1 : (m5 s.heap a b).get? s.heap.objs.size = some _ := Heap.get?_push_of_some _ (Heap.get?_push_of_some _ (Heap.get?_push_of_some _ (Heap.get?_push_of_some _ (Heap.get?_push_size _ rfl))))
  refine (show _ ∧ _ from ?_)
  rw [n2, n3, n4] at r5; rw [n1, n2] at r3; rw [n3] at r4; rw [n1] at r2; rw [n4]
  exact ⟨⟨_, r5, rfl⟩, q _ _ rfl r5 r3 r4 ⟨_, r1, rfl, rfl⟩ ⟨_, r2, rfl, rfl⟩ fun c o h => by
    iterate 5 refine Heap.get?_push_of_some _ ?_
    exact h⟩
theorem cw_typeKw {pos : Pos} {T : String} {env : Env} {e : Expr} {rest : List Expr} {kws : List Keyword} {M : Model} {Q : Value → Shared → Prop}
    (h : wpAny M A (spliced (backTo pos (starEach (e :: rest) env))) (fun vs s1 => wpAny M A (evalAll ((backToKw pos (keywordEach kws env)).map (·.2)))
      (fun kvs s2 => wpAny M A (call (.type T) vs (((backToKw pos (keywordEach kws env)).filterMap (·.1)).zip kvs)) Q E s2) E s1) E s)
    (he : backTo pos (starEach (e :: rest) env) = (false, eval e env) :: backTo pos (starEach rest env)) (hp : (backTo pos (starEach (e :: rest) env)).any (·.1) = false)
    (hall : (backToKw pos (keywordEach kws env)).all (·.1.isSome) = true) (hk : (backToKw pos (keywordEach kws env)).any (·.1.isNone) = false) :
    wpAny M A (callWith pos (.type T) [] (backTo pos (starEach (e :: rest) env)) (backToKw pos (keywordEach kws env))) Q E s := by
  unfold callWith
  have hh : wpAny M A (evalArgs (.type T) true (backTo pos (starEach (e :: rest) env)) (backToKw pos (keywordEach kws env))) (fun a s1 => wpAny M A (call (.type T) ([] ++ a.pos) a.kw) Q E s1) E s := by
    rw [he] at h ⊢; exact evalArgs_kwB hall h
  refine wpAny_bind (wpAny_holding (wpAny_mono hh (fun a s1 h1 => wpAny_bind (wpAny_standAt ?_)) fun _ _ x => x))
  simp only [hp, hk, Bool.or_false]
  exact wpAny_bind (wpAny_pure (wpAny_bind (wpAny_mono h1 (fun r s2 hr => wpAny_bind (wpAny_holding (wpAny_point (wpAny_pure hr)))) fun _ _ x => x)))
end
/-- the tuples at a and b, of one length, item beside item -/
def Itzs (K : PySem.W.Frag) (a b : Addr) : It :=
  ⟨(ItzT K a b).go, (ItzT K a b).yld, fun i H => ∃ xs ys : List V, SqT K H a xs ∧ SqT K H b ys ∧ xs.length ≤ i ∧ ys.length ≤ i⟩
theorem turn_zs {P : Program} {w : World} {K : PySem.W.Frag} {es : List Expr} {kk : Nat} {tp : Pos} {a b z I O i j : Addr} (D : ZipApart z I O i j a b) :
    Turn P w K (.Tuple es kk tp) (Itzs K a b) [z, I, O, i, j] z (fun k h => Zs h z I O .none ∧ IsPair h I (.ref i) (.ref j) ∧ (∃ x y, IsPair h O x y) ∧ h.IsTupleIter i a k ∧ h.IsTupleIter j b k) where
  mem := List.mem_cons_self ..
  obj := fun k h ⟨hz, hI, ⟨x, y, hO⟩, ⟨o1, e1, _, d1⟩, ⟨o2, e2, _, d2⟩⟩ c hc => by
    simp only [List.mem_cons, List.not_mem_nil, or_false] at hc
    rcases hc with rfl | rfl | rfl | rfl | rfl
    · exact ⟨_, hz, fun v q => nomatch q⟩
    · exact ⟨_, hI, fun v q => nomatch q⟩
    · exact ⟨_, hO, fun v q => nomatch q⟩
    · exact ⟨o1, e1, fun v q => by rw [d1] at q; cases q⟩
    · exact ⟨o2, e2, fun v q => by rw [d2] at q; cases q⟩
  keep := fun k h h' ⟨hz, hI, ⟨x, y, hO⟩, g1, g2⟩ kk => ⟨kk z (by simp) _ hz, kk I (by simp) _ hI, ⟨x, y, kk O (by simp) _ hO⟩, g1.at fun o q => kk i (by simp) o q, g2.at fun o q => kk j (by simp) o q⟩
  item := by
    intro X hP hw hK hc k pins s σ H E In hf ⟨hz, hI, ⟨x0, y0, hO⟩, g1, g2⟩ ⟨xs, ys, x, y, hqx, hqy, hx, hy⟩
    subst hP hw hK
    obtain ⟨ia, ra, pa, _⟩ := In.tuple hqx
    obtain ⟨ib, rb, pb, _⟩ := In.tuple hqy
    obtain ⟨u, hu, ru⟩ := ra.get hx
    obtain ⟨v, hv, rv⟩ := rb.get hy
    have lz : z < s.heap.objs.size := Heap.lt_size hz
    refine zs_next D hz hI hO g1 g2 pa pb (x := u) (y := v) (by simpa using hu) (by simpa using hv) fun h' z' O' g1' g2' T' kp => ⟨_, rfl, ?_⟩
    refine zs_go (s := { s with heap := h' }) z' fun h2 z2 sb => ?_
    have T2 : h2.get? s.heap.objs.size = some { cls := .type "tuple", data := .seq #[u, v] } := (sb.2 _ (Nat.ne_of_gt lz)).trans T'
    have new : ObjOk X.prog X.w (upd H s.heap.objs.size (.tup [x, y])) h2 s.heap.objs.size (.tup [x, y]) := ⟨show 2 ≤ sizeLine by decide, [u, v], .cons ru (.cons rv .nil), ⟨_, T2, rfl, _, rfl⟩⟩
    have I1 : Inv X pins σ (upd H s.heap.objs.size (.tup [x, y])) { s with heap := h2 } := In.turnedNew (t' := s.toks) (ch := [z, I, O, i, j]) (fun c o nb q => by
      simp only [List.mem_cons, List.not_mem_nil, or_false, not_or] at nb
      exact (sb.2 c nb.1).trans (kp c o nb.1 nb.2.2.1 nb.2.2.2.1 nb.2.2.2.2 q)) hf (Nat.le_refl _) new
    refine ⟨.ref s.heap.objs.size, _, I1, rfl, ⟨_, x, y, rfl, In.hok.fresh (Nat.le_refl _), rfl, fun l hl => by rw [In.tuple_inj hl hqx]; exact hx, fun l hl => by rw [In.tuple_inj hl hqy]; exact hy⟩,
      ⟨z2, (sb.2 _ D.TIz).trans (kp _ _ D.TIz D.TITO D.TIi1 D.TIi2 hI), ⟨u, v, (sb.2 _ D.TOz).trans O'⟩, g1'.at fun o q => (sb.2 _ D.i1z).trans q, g2'.at fun o q => (sb.2 _ D.i2z).trans q⟩, fun c hm => ?_⟩
    have lc : c < s.heap.objs.size := by
      simp only [List.mem_cons, List.not_mem_nil, or_false] at hm
      obtain ⟨_, f1, _⟩ := g1
      obtain ⟨_, f2, _⟩ := g2
      rcases hm with rfl | rfl | rfl | rfl | rfl
      · exact lz
      · exact Heap.lt_size hI
      · exact Heap.lt_size hO
      · exact Heap.lt_size f1
      · exact Heap.lt_size f2
    rw [upd_ne (Nat.ne_of_lt lc)]; exact (hf c hm).1
  done := by
    intro X hP hw hK hc k pins s σ H E In hf ⟨hz, hI, ⟨x0, y0, hO⟩, g1, g2⟩ ⟨xs, ys, hqx, hqy, q1, q2⟩
    subst hP hw hK
    obtain ⟨ia, ra, pa, _⟩ := In.tuple hqx
    obtain ⟨ib, rb, pb, _⟩ := In.tuple hqy
    have l1 := ra.length
    have l2 := rb.length
    refine zs_over (In.ok.hd hc) D hz hI hO g1 g2 pa pb (by simp; omega) (by simp; omega) fun h' kp => ⟨rfl, In.turnedL (t' := s.toks) (ch := [z, I, O, i, j]) (fun c o nb q => ?_) hf⟩
    simp only [List.mem_cons, List.not_mem_nil, or_false, not_or] at nb
    exact kp c o nb.1 nb.2.2.1 nb.2.2.2.1 nb.2.2.2.2 q
  self := fun A k s Q E st h => zs_iter st.1 h
def iZipS (K : PySem.W.Frag) (ta tk : TA) : TI := fun σ H R => ta σ H fun vs H1 => tk σ H1 fun ks H2 => ∃ a b xs ys, vs = [.ref a, .ref b] ∧ ks = [.bl true] ∧ SqT K H2 a xs ∧ SqT K H2 b ys ∧ R (Itzs K a b) H2
theorem pi_zipS {X : Cx} {e e2 ev : Expr} {ta tk : TA} {p pos kp tp : Pos} {es : List Expr} {kk : Nat} (hg : Gl X "zip") (hm : X.mg "zip" = none) (ha : PA X [e, e2] ta) (hk : PK X [⟨some "strict", ev, kp⟩] tk)
    (he : backTo pos (starEach [e, e2] X.env) = (false, eval e X.env) :: backTo pos (starEach [e2] X.env)) (hp : (backTo pos (starEach [e, e2] X.env)).any (·.1) = false) :
    PI X (.Tuple es kk tp) (.Call (.Name "zip" p) [e, e2] [⟨some "strict", ev, kp⟩] pos) (iZipS X.K ta tk) := by
  refine ⟨fun pins s σ H R In h => ?_⟩
  refine wpAny_Call_Name_kw (ld_blt In hg hm PyProof.Rows.boot_zip ?_)
  refine cw_typeKw (thn (ha.run pos pins s σ H _ In h) fun us s1 ⟨vs, H1, I1, r1, q1⟩ => thn (hk.run pos pins s1 σ H1 _ I1 q1) fun ws s2 ⟨ks, H2, I2, r2, q2⟩ => ?_) he hp rfl rfl
  obtain ⟨a, b, xs, ys, rfl, rfl, hqx, hqy, q⟩ := q2
  cases r1 with
  | cons ra rr =>
    cases rr with
    | cons rb rr =>
      cases rr
      cases ra
      cases rb
      cases r2 with
      | cons rk rr =>
        cases rr
        cases rk
        obtain ⟨ia, va, pa, _⟩ := I2.tuple hqx
        obtain ⟨ib, vb, pb, _⟩ := I2.tuple hqy
        obtain ⟨o1, f1, _⟩ := id pa
        obtain ⟨o2, f2, _⟩ := id pb
        refine (show wpAny _ _ (call (.type "zip") [.ref a, .ref b] [(Str.ofString "strict", .bool true)]) _ _ s2 from call_zs pa pb fun h' N eN hz hI hO g1 g2 kp => zs_iter hz ?_)
        have fr : ∀ c, c ∈ [N + 4, N + 2, N + 3, N, N + 1] → FpOk X pins H2 c := fun c hc => by
          simp only [List.mem_cons, List.not_mem_nil, or_false] at hc
          have le : s2.heap.objs.size ≤ c := by omega
          exact I2.fpOk le (I2.hok.fresh le)
        have I3 : Inv X pins σ H2 { s2 with heap := h' } := I2.kept (t' := s2.toks) kp
        subst eN
        exact ⟨_, [s2.heap.objs.size + 4, s2.heap.objs.size + 2, s2.heap.objs.size + 3, s2.heap.objs.size, s2.heap.objs.size + 1], _, _, H2, rfl, I3, turn_zs (PySem.W.ktu_apart s2.heap.objs.size a b (Heap.lt_size f1) (Heap.lt_size f2)), ⟨hz, hI, ⟨_, _, hO⟩, g1, g2⟩, fr, q⟩
end Zi
end

-- ZEn
section
/-! enumerate of a tuple -/
namespace Zi
open PySem PySem.Spec PyProof.Rows L2 RZ
open AutoSeq1 (wpAny_loadPart')
theorem meets_enT (a : Addr) (xs : Array Value) (n : Nat) (dct : Option Addr) (sl : Array (Option Value)) : Meets (Builtin.«enumerate.__new__» ⟨[.type "enumerate", .ref a], []⟩)
      (fun _ R s => s.heap.get? a = some { cls := .type "tuple", dict := dct, data := .seq xs n, slots := sl } ∧ R (.ok (.ret (.ref (s.heap.push (itO a)).objs.size)))
        { s with heap := (s.heap.push (itO a)).push { cls := .type "enumerate", data := .fields #[.none, .bool false, .ref s.heap.objs.size, rawInt 0, .none, .none] } }) :=
  .of_wp fun prog w A R s ⟨hl, h⟩ => by
    obtain ⟨hp, g, d, tk, os⟩ := s
    have hsub := sub_enumerate
    have ta : Heap.IsTuple (Shared.heap ⟨hp, g, d, tk, os⟩) a xs := ⟨_, hl, rfl, n, rfl⟩
    wp_walk using wpAny_loadPart' hl
    refine wpAny_stack_any fun st => wpAny_pure ?_
    split
    · rename_i c _ _ _ _ _
      cases (c == Value.type "enumerate") <;> (wp_walk using wpAny_loadPart' hl, wpAny_pyIter_tuple ta; exact ⟨_, rfl, h⟩)
    · wp_walk using wpAny_loadPart' hl, wpAny_pyIter_tuple ta
      exact ⟨_, rfl, h⟩
section
variable {prog : Program} {w : World} {A : Around} {E : Value → Shared → Prop} {s : Shared}
theorem call_enT {a : Addr} {xs : Array Value} {Q : Value → Shared → Prop} (ha : s.heap.IsTuple a xs)
    (q : ∀ h' N, N = s.heap.objs.size → IsEnum h' (N + 1) N 0 .none → h'.IsTupleIter N a 0 → (∀ b o, s.heap.get? b = some o → h'.get? b = some o) → Q (.ref (N + 1)) { s with heap := h' }) :
    wpAny (model prog w) A (call (.type "enumerate") [.ref a]) Q E s := by
  obtain ⟨⟨c, dct, dt, sl⟩, hl, hc, n, hd⟩ := ha
  have hc : c = .type "tuple" := hc
  have hd : dt = .seq xs n := hd
  subst hc hd
  refine callType_new F.called_enumerate (by decide) (F.typeCall_enumerate_1 _) (F.newCall_enumerate_1 _) (fun o => F.args_object_init_2 o _) F.entry_enumerate_new (meets_enT a xs n dct sl) ⟨hl, ?_⟩
  have n1 : (s.heap.push (itO a)).objs.size = s.heap.objs.size + 1 := Heap.size_push ..
  have r2 : ((s.heap.push (itO a)).push { cls := .type "enumerate", data := .fields #[.none, .bool false, .ref s.heap.objs.size, rawInt 0, .none, .none] }).get? (s.heap.push (itO a)).objs.size = some _ := Heap.get?_push_size _ rfl
  refine (show _ ∧ _ from ?_)
  rw [n1] at r2; rw [n1]
  exact ⟨⟨_, r2, rfl⟩, q _ _ rfl r2 ⟨_, Heap.get?_push_of_some _ (Heap.get?_push_size _ rfl), rfl, rfl⟩ fun b o h => Heap.get?_push_of_some _ (Heap.get?_push_of_some _ h)⟩
end
/-- the tuple at a, each item beside its number -/
def IteT (K : PySem.W.Frag) (a : Addr) : It :=
  ⟨fun i H => ∃ (xs : List V) (x : V), SqT K H a xs ∧ xs[i]? = some x, fun i H v H' => ∃ T x, v = .ref T ∧ H T = none ∧ H' = upd H T (.tup [.int (i : Nat), x]) ∧ ∀ xs, SqT K H a xs → xs[i]? = some x, fun i H => ∃ xs : List V, SqT K H a xs ∧ xs.length ≤ i⟩
theorem turn_enT {P : Program} {w : World} {K : PySem.W.Frag} {es : List Expr} {kk : Nat} {tp : Pos} {a e j : Addr} (n1 : e ≠ j) (n2 : e ≠ a) (n3 : a ≠ j) :
    Turn P w K (.Tuple es kk tp) (IteT K a) [e, j] e (fun i h => (∃ old, IsEnum h e j ((i : Nat) : Int) old) ∧ h.IsTupleIter j a i) where
  mem := List.mem_cons_self ..
  obj := fun i h ⟨⟨old, he⟩, ⟨o, ho, _, hd⟩⟩ b hb => by
    simp only [List.mem_cons, List.not_mem_nil, or_false] at hb
    rcases hb with rfl | rfl
    · exact ⟨_, he, fun v q => nomatch q⟩
    · exact ⟨o, ho, fun v q => by rw [hd] at q; cases q⟩
  keep := fun i h h' ⟨⟨old, he⟩, hi⟩ k => ⟨⟨old, k e (by simp) _ he⟩, hi.at fun o q => k j (by simp) o q⟩
  item := by
    intro X hP hw hK hc i pins s σ H E In hf ⟨⟨old, he⟩, hit⟩ ⟨xs, x, hq, hx⟩
    subst hP hw hK
    obtain ⟨ia, ra, pa, _⟩ := In.tuple hq
    obtain ⟨u, hu, ru⟩ := ra.get hx
    have le : e < s.heap.objs.size := Heap.lt_size he
    have lj : j < s.heap.objs.size := by obtain ⟨_, f, _⟩ := hit; exact Heap.lt_size f
    have hi : i < ia.toArray.size := by
      have := (List.getElem?_eq_some_iff.mp hu).1
      simpa using this
    refine wpAny_pyNext_enum_itemD (Draws.tuple (show X.A.in1.handled = none from In.ok.hd hc) j a n3 ia.toArray) he ⟨hit, pa⟩ hi n1 (by simp [n1, n2]) fun v h' tk hv ho st T' hsz kp => ⟨_, rfl, ?_⟩
    have ev : v = u := by
      have e1 : ia[i]? = some v := by simpa using hv
      rw [hu] at e1; cases e1; rfl
    subst ev
    refine wpAny_letOwnedTupleGo_enum (s := { s with heap := h', toks := tk + 1 }) ho fun h2 he2 sb => ?_
    have T2 : h2.get? s.heap.objs.size = some { cls := .type "tuple", data := .seq #[.int i tk, v] } := (sb.2 _ (Nat.ne_of_gt le)).trans T'
    have new : ObjOk X.prog X.w (upd H s.heap.objs.size (.tup [.int (i : Nat), x])) h2 s.heap.objs.size (.tup [.int (i : Nat), x]) := ⟨show 2 ≤ sizeLine by decide, [.int i tk, v], .cons ⟨_, rfl⟩ (.cons ru .nil), ⟨_, T2, rfl, _, rfl⟩⟩
    have I1 : Inv X pins σ (upd H s.heap.objs.size (.tup [.int (i : Nat), x])) { s with heap := h2, toks := tk + 1 } := In.turnedNew (ch := [e, j]) (fun b o nb q => by
      simp only [List.mem_cons, List.not_mem_nil, or_false, not_or] at nb
      exact (sb.2 b nb.1).trans (kp b o nb.1 nb.2 q)) hf (Nat.le_refl _) new
    refine ⟨.ref s.heap.objs.size, _, I1, rfl, ⟨_, x, rfl, In.hok.fresh (Nat.le_refl _), rfl, fun ys hy => by rw [In.tuple_inj hy hq]; exact hx⟩, ⟨⟨v, ?_⟩, st.1.at fun o q => (sb.2 j (Ne.symm n1)).trans q⟩, fun b hb => ?_⟩
    · have e1 : ((i + 1 : Nat) : Int) = (i : Int) + 1 := by omega
      rw [e1]; exact he2
    · have lb : b < s.heap.objs.size := by
        simp only [List.mem_cons, List.not_mem_nil, or_false] at hb
        rcases hb with rfl | rfl
        · exact le
        · exact lj
      rw [upd_ne (Nat.ne_of_lt lb)]; exact (hf b hb).1
  done := by
    intro X hP hw hK hc i pins s σ H E In hf ⟨⟨old, he⟩, hit⟩ ⟨xs, hq, hx⟩
    subst hP hw hK
    obtain ⟨ia, ra, pa, _⟩ := In.tuple hq
    obtain ⟨f0, f1, f2, f3, f4, f5⟩ := hf j (by simp)
    have hl := ra.length
    have hh : X.A.in1.handled = none := In.ok.hd hc
    have hT : s.TypeIs (.ref e) "enumerate" := ⟨_, he, rfl⟩
    unfold pyNext
    refine wpAny_bind (wpAny_attempt (wpAny_callSpecial?_slot (name := Str.ofString "__next__") hT F.slot_enumerate_next
      (wpAny_call_entry F.slot_enumerate_next hT F.entry_enumerate_next ?_ (F.args_enumerate_next_1 _))))
    refine (show wpAny _ _ (field (.ref e) 2 >>= _) _ _ _ from wpAny_bind (wpAny_field he rfl (x := .ref j) rfl (wpAny_bind ?_)))
    refine wpAny_nextOf_tuple_end hh hit pa (by simp; omega) fun h' x' eb hx' => ?_
    exact wpAny_bind (wpAny_isInstance (T := "StopIteration") (b := true) hx' isSubtype_stop (wpAny_pure ⟨rfl, In.turned (t' := s.toks) (fun b o hb q => eb b o hb q) f0 f1 f3 f4 f5⟩))
  self := fun A i s Q E ⟨⟨_, he⟩, _⟩ h => wpAny_pyIter_enum he h
def iEnT (K : PySem.W.Frag) (ta : TA) : TI := fun σ H R => ta σ H fun vs H1 => ∃ a xs, vs = [.ref a] ∧ SqT K H1 a xs ∧ R (IteT K a) H1
theorem pi_enT {X : Cx} {e : Expr} {ta : TA} {p pos tp : Pos} {es : List Expr} {kk : Nat} (hg : Gl X "enumerate") (hm : X.mg "enumerate" = none) (ha : PA X [e] ta) (hs : starEach [e] X.env = [(false, eval e X.env)] := by rfl) :
    PI X (.Tuple es kk tp) (.Call (.Name "enumerate" p) [e] [] pos) (iEnT X.K ta) := by
  refine ⟨fun pins s σ H R In h => ?_⟩
  refine Call_ (ld_blt In hg hm boot_enumerate (PyProof.Rows.callWith_type1 (thn (ha.run pos pins s σ H _ In h) fun us s1 ⟨vs, H1, I1, r1, q1⟩ => ?_) hs rfl))
  obtain ⟨a, xs, rfl, hq, q⟩ := q1
  cases r1 with
  | cons r rr =>
    cases rr
    cases r
    obtain ⟨ia, ra, pa, _⟩ := I1.tuple hq
    have la : a < s1.heap.objs.size := by obtain ⟨_, f, _⟩ := pa; exact Heap.lt_size f
    refine call_enT pa fun h' N eN he hit kp => wpAny_pyIter_enum he ?_
    have I2 : Inv X pins σ H1 { s1 with heap := h' } := I1.kept (t' := s1.toks) kp
    refine ⟨_, [N + 1, N], _, _, H1, rfl, I2, turn_enT (a := a) (e := N + 1) (j := N) (Nat.succ_ne_self N) (Nat.ne_of_gt (Nat.lt_succ_of_lt (eN ▸ la))) (Nat.ne_of_lt (eN ▸ la)), ⟨⟨.none, he⟩, hit⟩, fun b hb => ?_, q⟩
    simp only [List.mem_cons, List.not_mem_nil, or_false] at hb
    have lb : s1.heap.objs.size ≤ b := by
      rcases hb with f | f
      · rw [f, eN]; exact Nat.le_succ _
      · rw [f, eN]; exact Nat.le_refl _
    exact I1.fpOk lb (I1.hok.fresh lb)
end Zi
namespace Zl
open PySem PySem.Spec PyProof.Rows L2
def mEnumA (ms : MD) : MI := fun ρ => (ms ρ).bind fun p => match p.1 with
  | [.list ds] => some (enumL ds, p.2)
  | [.tuple ds] => some (enumL ds, p.2)
  | _ => none
def mZipS (ms : MD) (mk : MA) : MI := fun ρ => (ms ρ).bind fun p => (mk p.2).bind fun q => match p.1, q.1 with
  | [.tuple ds, .tuple es], [.val (.bool true)] => if ds.length = es.length then some (zipL ds es, q.2) else none
  | _, _ => none
theorem walk_enT {K : KW} {a : Addr} {xs : List V} : Walk (Zi.IteT K a) xs.length (fun H => SqT K H a xs) (YPair (fun i => some (.int (i : Nat))) (fun i => xs[i]?)) := by
  refine ⟨fun i _ hi q => ⟨xs, xs[i], q, by simp [hi]⟩, fun _ q => ⟨xs, q, Nat.le_refl _⟩, fun i H v H' _ q y => ?_⟩
  obtain ⟨T, x, h1, h2, h3, h4⟩ := y
  exact ⟨T, _, x, h1, h2, h3, rfl, h4 xs q⟩
theorem walk_zs {K : KW} {a b : Addr} {xs ys : List V} {n : Nat} (e1 : n = xs.length) (e2 : n = ys.length) : Walk (Zi.Itzs K a b) n (fun H => SqT K H a xs ∧ SqT K H b ys) (YPair (fun i => xs[i]?) (fun i => ys[i]?)) := by
  refine ⟨fun i _ hi q => ?_, fun _ q => ⟨xs, ys, q.1, q.2, by omega, by omega⟩, fun i H v H' _ q y => ?_⟩
  · exact ⟨xs, ys, xs[i]'(by omega), ys[i]'(by omega), q.1, q.2, by simp, by simp⟩
  · obtain ⟨T, x, z, h1, h2, h3, h4, h5⟩ := y
    exact ⟨T, x, z, h1, h2, h3, h4 xs q.1, h5 ys q.2⟩
section
variable {X : Cx} {e e2 ev : Expr} {md : MD} {mk : MA} {pos p kp tp : Pos} {es : List Expr} {kk : Nat}
theorem ci_enumA (hg : Gl X "enumerate") (hm : X.mg "enumerate" = none) (ha : CD X [e] md) (hs : starEach [e] X.env = [(false, eval e X.env)] := by rfl) : CI X (.Tuple es kk tp) (.Call (.Name "enumerate" p) [e] [] pos) (mEnumA md) :=
  pi_imp (pi_or (pi_enum hg hm ha hs) (Zi.pi_enT hg hm ha hs)) fun σ H R ⟨Z, ρ, ds, ρ', fr, e, k⟩ => by
    obtain ⟨⟨r1, ρ1⟩, e1, e⟩ := bnd e
    try simp only at e
    split at e
    · cases e
      refine .inl ⟨Z, ρ, _, _, fr, e1, fun Z1 H1 vs g1 h1 => ?_⟩
      obtain ⟨v, rfl, h2⟩ := rds1 h1
      simp only [RD] at h2
      obtain ⟨a, vs, rfl, hz, hq, rd⟩ := h2
      exact ⟨a, vs, rfl, .of hq, k Z1 H1 _ g1 (walkd_enum walk_enum (fun Z2 H2 ks => .of (ks.ls a _ hz hq)) rd)⟩
    · cases e
      refine .inr ⟨Z, ρ, _, _, fr, e1, fun Z1 H1 vs g1 h1 => ?_⟩
      obtain ⟨v, rfl, h2⟩ := rds1 h1
      simp only [RD] at h2
      obtain ⟨a, vs, rfl, hq, rd⟩ := h2
      exact ⟨a, vs, rfl, hq.sq, k Z1 H1 _ g1 (walkd_enum (walk_enT (K := X.KW)) (fun Z2 H2 ks => (ks.tp a _ hq).sq) rd)⟩
    · cases e
theorem ci_zipS (hg : Gl X "zip") (hm : X.mg "zip" = none) (ha : CD X [e, e2] md) (hk : CK X [⟨some "strict", ev, kp⟩] mk) (he : backTo pos (starEach [e, e2] X.env) = (false, eval e X.env) :: backTo pos (starEach [e2] X.env) := by rfl)
    (hp : (backTo pos (starEach [e, e2] X.env)).any (·.1) = false := by rfl) : CI X (.Tuple es kk tp) (.Call (.Name "zip" p) [e, e2] [⟨some "strict", ev, kp⟩] pos) (mZipS md mk) :=
  pi_imp (Zi.pi_zipS hg hm ha hk he hp) fun σ H R ⟨Z, ρ, ds, ρ', fr, e, k⟩ => by
    obtain ⟨⟨r1, ρ1⟩, e1, e⟩ := bnd e
    obtain ⟨⟨r2, ρ2⟩, e2, e⟩ := bnd e
    try simp only at e
    split at e
    · split at e
      · rename_i hl
        cases e
        refine ⟨Z, ρ, _, _, fr, e1, fun Z1 H1 vs g1 h1 => ⟨Z1, ρ1, _, _, g1.fr, e2, fun Z2 H2 ks g2 h2 => ?_⟩⟩
        obtain ⟨v, v', rfl, h3, h4⟩ := rds2 h1
        simp only [RD] at h3 h4
        obtain ⟨a, vs, rfl, hq, rd⟩ := h3
        obtain ⟨b, ws, rfl, hq', rd'⟩ := h4
        have eks : ks = [.bl true] := by
          cases h2 with
          | cons h5 h6 =>
            cases h6
            have h7 : RD X.KW Z2 H2 (.bool true) _ := h5
            simp only [RD] at h7
            rw [h7]
        subst eks
        have l1 := rds_len rd
        have l2 := rds_len rd'
        have kq := g1.fr.sqT g2.st
        exact ⟨a, b, vs, ws, rfl, rfl, (kq _ _ hq).sq, (kq _ _ hq').sq, k Z2 H2 _ (g1.trans g2) (walkd_zip (n := vs.length) (by omega) (walk_zs (K := X.KW) (xs := vs) (ys := ws) rfl (by omega)) (fun Z3 H3 ks => ⟨(ks.tp a _ (kq _ _ hq)).sq, (ks.tp b _ (kq _ _ hq')).sq⟩) (g1.fr.rds g2.st rd) (g1.fr.rds g2.st rd'))⟩
      · cases e
    · cases e
end
end Zl
end

-- ZThaw
section
/-! containers that were shown within a display come back, where what the expression told holds none of them -/
namespace Zl
open PySem PySem.Spec PyProof.Rows L2
def thS : Sl → Sl → Option Sl
  | .own b _, .own _ o' => if cleanO o' = true then some (.own b o') else none
  | .own b (.lst _), .val (.list ds) => if cleans ds = true then some (.own b (.lst ds)) else none
  | .own _ _, _ => none
  | s, _ => some s
def thw : Rho → Rho → Option Rho
  | [], [] => some []
  | s :: r, s' :: r' => (thS s s').bind fun t => (thw r r').map fun q => t :: q
  | _, _ => none
def mThaw (m : ME) : ME := fun ρ => (m ρ).bind fun p => if cleanR p.1 = true then match thw ρ p.2 with
    | some ρ2 => some (p.1, ρ2)
    | none => some p
  else some p
section
variable {K : KW} {Z Z' : AS} {H H' : Hp} {ρ ρ' ρ2 : Rho} {σ : St}
theorem thw_len : ∀ {ρ ρ' ρ2 : Rho}, thw ρ ρ' = some ρ2 → ρ2.length = ρ.length
  | [], [], _, e => by cases e; rfl
  | [], _ :: _, _, e => by cases e
  | _ :: _, [], _, e => by cases e
  | s :: r, s' :: r', _, e => by
    obtain ⟨t, _, e⟩ := bnd e
    obtain ⟨q, e2, e⟩ := Option.map_eq_some_iff.mp e
    cases e
    simp only [List.length_cons, thw_len e2]
theorem thw_get : ∀ {ρ ρ' ρ2 : Rho} {i : Nat} {t : Sl}, thw ρ ρ' = some ρ2 → ρ2[i]? = some t → ∃ s s', ρ[i]? = some s ∧ ρ'[i]? = some s' ∧ thS s s' = some t
  | [], [], _, _, _, e, h => by cases e; simp at h
  | [], _ :: _, _, _, _, e, _ => by cases e
  | _ :: _, [], _, _, _, e, _ => by cases e
  | s :: r, s' :: r', _, i, t, e, h => by
    obtain ⟨t', e1, e⟩ := bnd e
    obtain ⟨q, e2, e⟩ := Option.map_eq_some_iff.mp e
    cases e
    cases i with
    | zero => simp at h; subst h; exact ⟨s, s', rfl, rfl, e1⟩
    | succ i =>
      obtain ⟨a, b, h1, h2, h3⟩ := thw_get (i := i) e2 (by simpa using h)
      exact ⟨a, b, by simpa using h1, by simpa using h2, h3⟩
theorem thS_own {s s' : Sl} {b : Bool} {o : O} (h : thS s s' = some (.own b o)) : ∃ o0, s = .own b o0 ∧ cleanO o = true ∧ ((∃ b', s' = .own b' o) ∨ ∃ ds, o = .lst ds ∧ s' = .val (.list ds)) := by
  unfold thS at h
  split at h
  · split at h
    · rename_i c; cases h; exact ⟨_, rfl, c, .inl ⟨_, rfl⟩⟩
    · cases h
  · split at h
    · rename_i c; cases h; exact ⟨_, rfl, c, .inr ⟨_, rfl, rfl⟩⟩
    · cases h
  · cases h
  · rename_i h1 _ _; cases h; exact (h1 _ _ rfl).elim
theorem thS_other {s s' t : Sl} (h : thS s s' = some t) (n : ∀ b o, t ≠ .own b o) : s = t := by
  unfold thS at h
  split at h
  · split at h
    · cases h; exact (n _ _ rfl).elim
    · cases h
  · split at h
    · cases h; exact (n _ _ rfl).elim
    · cases h
  · cases h
  · cases h; rfl
theorem thw_ow (e : thw ρ ρ' = some ρ2) (a : Addr) (w : Ow ρ2 σ a) : Ow ρ σ a := by
  obtain ⟨i, b, o, h, hs⟩ := w
  obtain ⟨s, s', h1, h2, h3⟩ := thw_get e h
  obtain ⟨o0, rfl, _⟩ := thS_own h3
  exact ⟨i, b, o0, h1, hs⟩
theorem thaw_go (f : Fr K Z H ρ σ) (g : Go K Z H ρ σ Z' H' ρ' σ) (e : thw ρ ρ' = some ρ2) : Go K Z H ρ σ (fun a => Z' a ∧ ¬ Ow ρ σ a) H' ρ2 σ := by
  refine ⟨⟨g.st.keep, fun a z => ⟨g.st.zm a z, fun w => f.nz w z⟩, fun a z => g.st.zn a z.1, fun a w => .inl (thw_ow e a w), g.st.gr⟩, ⟨fun a z => g.fr.zl a z.1, by rw [thw_len e]; exact f.len, fun i d h => ?_, fun i b o h => ?_, fun i ns h => ?_, fun i j b b' o o' a h1 h2 e1 e2 => ?_⟩, fun i o h => ?_⟩
  · obtain ⟨s, s', h1, h2, h3⟩ := thw_get e h
    have es := thS_other h3 (fun b o => fun z => nomatch z)
    subst es
    obtain ⟨v, hv, rd⟩ := f.val i d h1
    exact ⟨v, hv, RD.mono (fun a z => ⟨g.st.zm a z, fun w => f.nz w z⟩) (fun a o z q => g.st.keep a o q fun w => f.nz w z) (f.sqT g.st) d v rd⟩
  · obtain ⟨s, s', h1, h2, h3⟩ := thw_get e h
    obtain ⟨o0, rfl, c, hs⟩ := thS_own h3
    obtain ⟨a, ha, _, _⟩ := f.own i b o0 h1
    refine ⟨a, ha, fun z => z.2 ⟨i, b, o0, h1, ha⟩, ?_⟩
    rcases hs with ⟨b', rfl⟩ | ⟨ds, rfl, rfl⟩
    · obtain ⟨a', ha', _, ro⟩ := g.fr.own i b' o h2
      rw [ha] at ha'; cases ha'
      exact clean_ro c ro
    · obtain ⟨v, hv, rd⟩ := g.fr.val i _ h2
      rw [ha] at hv; cases hv
      simp only [RD] at rd
      obtain ⟨a', vs, ea, _, q, rr⟩ := rd
      cases ea
      exact ⟨vs, q, clean_rds c rr⟩
  · obtain ⟨s, s', h1, h2, h3⟩ := thw_get e h
    have es := thS_other h3 (fun b o => fun z => nomatch z)
    subst es
    obtain ⟨a, ha, sc⟩ := f.scr i ns h1
    refine ⟨a, ha, sc.keep fun o q => g.st.keep a _ q fun w => ?_⟩
    exact (f.mut w).frz q
  · obtain ⟨s, s', h3, _, h5⟩ := thw_get e h1
    obtain ⟨t, t', h6, _, h8⟩ := thw_get e h2
    obtain ⟨p1, rfl, _⟩ := thS_own h5
    obtain ⟨p2, rfl, _⟩ := thS_own h8
    exact f.apart i j _ _ _ _ a h3 h6 e1 e2
  · obtain ⟨s, s', h1, _, h3⟩ := thw_get e h
    obtain ⟨o0, rfl, _⟩ := thS_own h3
    exact ⟨⟨o0, h1⟩, rfl⟩
theorem tE_thaw {m : ME} : ∀ σ H Q, tE K (mThaw m) σ H Q → tE K m σ H Q := fun σ H Q ⟨Z, ρ, r, ρ', f, e, k⟩ => by
  obtain ⟨⟨r1, ρ1⟩, e1, e⟩ := bnd e
  refine ⟨Z, ρ, r1, ρ1, f, e1, fun Z1 H1 v g rr => ?_⟩
  simp only at e
  split at e
  · rename_i c
    split at e
    · rename_i ρ2 e2
      cases e
      refine k _ H1 v (thaw_go f g e2) ?_
      cases r with
      | val d => exact clean_rd c rr
      | own o =>
        obtain ⟨a, ea, nz, nw, ro, n0⟩ := rr
        exact ⟨a, ea, fun z => nz z.1, fun w => f.live (thw_ow e2 a w) n0, clean_ro c ro, n0⟩
      | bor i => cases c
    · cases e; exact k Z1 H1 v g rr
  · cases e; exact k Z1 H1 v g rr
theorem ce_thaw {X : Cx} {e : Expr} {m : ME} (h : CE X e m) : CE X e (mThaw m) := pe_imp h tE_thaw
end
end Zl
end

-- ZMore
section
/-! repr, the order of texts, is of bools, insert, upper, a tuple's repetition -/
namespace Zl
open PySem PySem.Spec PyProof.Rows L2
def shownOk (d : D) : Bool := SeqAt.shaped d && d.showable && decide (d.shown.length ≤ sizeLine)
def reprF : List D → Option R
  | [d] => if shownOk d = true then some (.val (.str d.shown)) else none
  | _ => none
def rReprD (K : KW) : List V → Hp → VK → Prop := fun xs H Q => ∃ x d, xs = [x] ∧ Dp K H x d ∧ shownOk d = true ∧ Q (.str d.shown) H
section
variable {X : Cx} {k : Nat}
theorem call_reprD (hr : RoomG k X.A) : CallR X (.builtin "repr") (rReprD X.KW) := by
  intro pins s σ H xs us Q I r h
  obtain ⟨x, d, rfl, hd, hs, q⟩ := h
  obtain ⟨u, rfl, rx⟩ := vals1 r
  obtain ⟨as, rd⟩ := Dp.reads I d x u hd rx
  simp only [shownOk, Bool.and_eq_true, decide_eq_true_eq] at hs
  obtain ⟨⟨h1, h2⟩, h3⟩ := hs
  have lay := SeqAt.canLay_of_shaped h1
  have dep := SeqAt.depth_of_shaped h1
  have hu : X.A.units + 64 < cLine := hr.r.units
  have un := hr.r.un
  have big : ∀ a, u = .ref a → wpAny (model X.prog X.w) X.A (call (.builtin "repr") [u]) (EP X pins σ Q) X.xe s := fun a ea => by
    subst ea
    exact repr_of_reads' rd h2 (PyData.noDict_hsm (PyData.hasDict_of_canLay d lay)) hr.g (by omega) (fun _ _ e => e) (fun h' u tk hk => ⟨.str d.shown, H, I.kept hk, ⟨_, rfl⟩, q⟩) h3
  cases d with
  | none => cases rd; exact PySem.P.repr_of_none ⟨.str _, H, I.tok _, ⟨_, rfl⟩, q⟩
  | bool b => cases rd; exact PySem.P.repr_of_bool ⟨.str _, H, I.tok _, ⟨_, rfl⟩, q⟩
  | int i => cases rd; exact PySem.P.repr_of_int (by simpa [PyData.showable] using h2) ⟨.str _, H, I.tok _, ⟨_, rfl⟩, q⟩
  | str z => cases rd; exact PySem.P.repr_of_str ⟨.str _, H, I.tok _, ⟨_, rfl⟩, q⟩ h3
  | list xs => cases rd; exact big _ rfl
  | tuple xs => cases rd; exact big _ rfl
  | dict ks => simp [PyData.canLay0] at lay
theorem o_repr {K : KW} : OpL K reprF (rReprD K) := fun Z H vs ds r Q zl hx er k => by
  unfold reprF at er
  split at er
  · split at er
    · rename_i d h
      cases er
      obtain ⟨v, rfl, hv⟩ := rvs1 hx
      have h1 : SeqAt.shaped d = true := by simp only [shownOk, Bool.and_eq_true] at h; exact h.1.1
      exact ⟨v, d, rfl, dp_rv hv (shaped_lay h1), h, k Z H _ (.refl _ _) (by simp only [NR, RD])⟩
    · cases er
  · cases er
theorem ce_repr {e : Expr} {p pos : Pos} {ms : MA} (hr : RoomG k X.A) (hg : Gl X "repr") (hm : X.mg "repr" = none) (ha : CA X [e] ms) (he : starEach [e] X.env = (false, eval e X.env) :: starEach [] X.env := by rfl) : CE X (.Call (.Name "repr" p) [e] [] pos) (mCB reprF ms) :=
  ce_callB (call_reprD hr) o_repr PyProof.Rows.boot_repr hg hm ha (he := he)
/-! the order of texts -/
def ltSD : D → D → Option R
  | .int i, .int j => some (.val (.bool (decide (i < j))))
  | .str x, .str y => some (.val (.bool (decide (x.cps.toList < y.cps.toList))))
  | _, _ => none
theorem o_ltS {K : KW} : OpV K ltSD (fun x y H Q => rI0 (fun i j => .bl (decide (i < j))) x y H Q ∨ (fun x y H Q => ∃ i j, x = V.str i ∧ y = V.str j ∧ Q (.bl (decide (i.cps.toList < j.cps.toList))) H) x y H Q) := fun Z H x y d e r Q zl hx hy er k => by
  unfold ltSD at er
  split at er
  · cases er; cases rv_int hx; cases rv_int hy
    exact .inl ⟨_, _, rfl, rfl, k Z H _ (.refl _ _) nr_bool⟩
  · cases er; cases rv_str hx; cases rv_str hy
    exact .inr ⟨_, _, rfl, rfl, k Z H _ (.refl _ _) nr_bool⟩
  · cases er
variable {a b : Expr} {ma mb : ME} {pos : Pos}
theorem ce_ltS (ha : CE X a ma) (hb : CE X b mb) : CE X (.Compare a [.Lt] [b] pos) (mOpV ltSD ma mb) := ce_cmp (OpR.or op_lt op_lt_str) o_ltS ha hb
theorem ct_ltS (ha : CE X a ma) (hb : CE X b mb) : CT X (.Compare a [.Lt] [b] pos) (mB (mOpV ltSD ma mb)) := ct_cmp (OpR.or op_lt op_lt_str) o_ltS ha hb
/-! is of bools -/
def isBD (neg : Bool) : D → D → Option R
  | .bool a, .bool b => some (.val (.bool (if neg then !decide (a = b) else decide (a = b))))
  | _, _ => none
theorem o_isB {K : KW} : OpV K (isBD false) rIsB := fun Z H x y d e r Q zl hx hy er k => by
  unfold isBD at er
  split at er
  · cases er; cases rv_bool hx; cases rv_bool hy
    exact ⟨_, _, rfl, rfl, k Z H _ (.refl _ _) nr_bool⟩
  · cases er
theorem o_notB {K : KW} : OpV K (isBD true) rNotB := fun Z H x y d e r Q zl hx hy er k => by
  unfold isBD at er
  split at er
  · cases er; cases rv_bool hx; cases rv_bool hy
    exact ⟨_, _, rfl, rfl, k Z H _ (.refl _ _) nr_bool⟩
  · cases er
theorem ce_isB (ha : CE X a ma) (hb : CE X b mb) : CE X (.Compare a [.Is] [b] pos) (mOpV (isBD false) ma mb) := ce_cmp op_isBl o_isB ha hb
theorem ce_notB (ha : CE X a ma) (hb : CE X b mb) : CE X (.Compare a [.IsNot] [b] pos) (mOpV (isBD true) ma mb) := ce_cmp op_notBl o_notB ha hb
theorem ct_isB (ha : CE X a ma) (hb : CE X b mb) : CT X (.Compare a [.Is] [b] pos) (mB (mOpV (isBD false) ma mb)) := ct_cmp op_isBl o_isB ha hb
theorem ct_notB (ha : CE X a ma) (hb : CE X b mb) : CT X (.Compare a [.IsNot] [b] pos) (mB (mOpV (isBD true) ma mb)) := ct_cmp op_notBl o_notB ha hb
end
end Zl
end

-- ZRev
section
/-! x[::-1] of lists, tuples, texts -/
namespace Zi
open PySem PySem.Spec PyProof.Rows L2
def revS (z : Str) : Str := ⟨z.cps.toList.reverse.toArray⟩
theorem pick_back (xs : Array Value) : ((List.range xs.size).filterMap fun (k : Nat) => xs[(((xs.size : Int) - 1) + (k : Int) * (-1)).toNat]?) = xs.toList.reverse := by
  have e : (fun (k : Nat) => xs[(((xs.size : Int) - 1) + (k : Int) * (-1)).toNat]?) = (fun i : Nat => xs[i]?) ∘ fun (k : Nat) => (((xs.size : Int) - 1) + (k : Int) * (-1)).toNat := rfl
  rw [e, ← List.filterMap_map]
  have e2 : (List.range xs.size).map (fun (k : Nat) => (((xs.size : Int) - 1) + (k : Int) * (-1)).toNat) = (List.range xs.size).map fun k => xs.size - 1 - k := List.map_congr_left fun k hk => by
    have := List.mem_range.mp hk; omega
  rw [e2, PySem.W.krv_range, List.filterMap_reverse, PySem.W.krv_all]
section
variable {prog : Program} {w : World} {A : Around} {E : Value → Shared → Prop} {s : Shared}
theorem applied_back {sl : Addr} {t : Tok} {n : Nat} {Q : Int × Int × Nat → Shared → Prop} (hs : s.heap.IsSliceOf sl .none .none (.int (-1) t)) (h : Q ((n : Int) - 1, -1, n) s) :
    wpAny (model prog w) A (Builtin.Slice.sliceApplied (.ref sl) (pure (n : Int))) Q E s := by
  obtain ⟨os, hos, hcs, hds⟩ := id hs
  unfold Builtin.Slice.sliceApplied Builtin.Slice.sliceFields
  refine wpAny_bind (wpAny_bind (wpAny_field hos hds (x := .none) rfl (wpAny_bind (wpAny_field hos hds (x := .none) rfl (wpAny_bind (wpAny_field hos hds (x := .int (-1) t) rfl (wpAny_pure ?_)))))))
  refine wpAny_bind (slicePart_int (show wpAny _ _ (if ((-1 : Int) == 0) = true then _ else _) _ _ s from ?_))
  rw [if_neg (by decide)]
  refine wpAny_bind (slicePart_none (wpAny_bind (slicePart_none (wpAny_bind (wpAny_pure ?_)))))
  have e : Builtin.Slice.slicePlaces ((n : Int) - 1) (-1) (-1) = n := by
    unfold Builtin.Slice.slicePlaces
    have h1 : ¬ ((-1 : Int) > 0) := by decide
    simp only [h1, if_false]
    split
    · have : ((n : Int) - 1 - -1 - 1) / (- -1) = (n : Int) - 1 := by rw [show (- -1 : Int) = 1 by decide, Int.ediv_one]; omega
      rw [this]; omega
    · omega
  refine (show wpAny _ _ (pure ((n : Int) - 1, (-1 : Int), Builtin.Slice.slicePlaces ((n : Int) - 1) (-1) (-1))) _ _ s from ?_)
  rw [e]
  exact wpAny_pure h
theorem item_back {t sl : Addr} {xs : Array Value} {u : Tok} {Q : Value → Shared → Prop} (ht : IsTup s.heap t xs) (hs : s.heap.IsSliceOf sl .none .none (.int (-1) u)) (hz : xs.size ≤ sizeLine)
    (h : Q (.ref s.heap.objs.size) { s with heap := s.heap.push { cls := .type "tuple", data := .seq xs.toList.reverse.toArray } }) : wpAny (model prog w) A (getItem (.ref t) (.ref sl)) Q E s := by
  have fits : sizeOk (.seq xs.toList.reverse.toArray) := show xs.toList.reverse.toArray.size ≤ sizeLine by simpa using hz
  obtain ⟨os, hos, hcs, hds⟩ := id hs
  have hT : s.TypeIs (.ref sl) "slice" := ⟨os, hos, hcs⟩
  unfold getItem
  try with_reducible refine wpAny_holding ?_
  first | refine wpAny_bind (wpAny_pure ?_) | skip
  refine wpAny_bind (wpAny_sequenceKey ht.typeIs (by decide) (wpAny_bind (wpAny_callSpecial?_slot (name := Str.ofString "__getitem__") ht.typeIs PyProof.Rows.slot_tuple_getitem (wpAny_call_entry PyProof.Rows.slot_tuple_getitem ht.typeIs entry_tuple_getitem ?_ (args_tuple_getitem _ _)))))
  refine (show wpAny _ _ (Builtin.Tuple.tupleItemsOf (.ref t) >>= _) _ _ s from wpAny_bind (tupleItemsOf_ ht (wpAny_bind (wpAny_typeOf hT ?_))))
  rw [if_pos (by decide)]
  refine wpAny_bind (applied_back hs ?_)
  have no : ¬ ((((xs.size : Int) - 1) == 0 && (-1 : Int) == 1 && xs.size == xs.size) = true) := by
    have : ((-1 : Int) == 1) = false := by decide
    rw [this]; simp
  refine (show wpAny _ _ (if (((xs.size : Int) - 1) == 0 && (-1 : Int) == 1 && xs.size == xs.size) = true then _ else _) _ _ s from ?_)
  rw [if_neg no, pick_back xs]
  first
    | exact wpAny_bind (m := Builtin.Tuple.tupleExact _) (wpAny_newObj_type (wpAny_pure ⟨_, rfl, wpAny_pure h⟩) fits)
    | exact wpAny_bind (wpAny_bind (m := Builtin.Tuple.tupleExact _) (wpAny_newObj_type (wpAny_pure ⟨_, rfl, wpAny_pure h⟩) fits))
    | exact wpAny_bind (m := Builtin.Tuple.tupleExact _) (wpAny_newObj_type (wpAny_bind (wpAny_pure (wpAny_pure ⟨_, rfl, wpAny_pure h⟩))) fits)
    | exact wpAny_bind (wpAny_bind (m := Builtin.Tuple.tupleExact _) (wpAny_newObj_type (wpAny_pure (wpAny_pure ⟨_, rfl, wpAny_pure h⟩)) fits))
theorem text_back {z : Str} {t u : Tok} {sl : Addr} {Q : Value → Shared → Prop} (hs : s.heap.IsSliceOf sl .none .none (.int (-1) u)) (hz : z.length ≤ sizeLine)
    (h : Q (.str (revS z) s.toks) { s with toks := s.toks + 1 }) : wpAny (model prog w) A (getItem (.str z t) (.ref sl)) Q E s := by
  obtain ⟨os, hos, hcs, hds⟩ := hs
  refine wpAny_getItem_str_slice (l := none) (u := none) (st := some (-1, u)) ⟨os, hos, hcs, hds⟩ rfl ?_
  have e : (Builtin.Str.strSliceIndices none none (-1) z.length).filterMap (z.cps[·]?) = z.cps.toList.reverse := by
    have : Builtin.Str.strSliceIndices none none (-1) z.length = sliceRange ((z.length : Int) - 1) (-1) (-1) := rfl
    rw [this, PySem.W.krv_sliceRange, PySem.W.krv_range, List.filterMap_reverse]
    exact congrArg List.reverse (PySem.W.krv_all z.cps)
  refine (show Made.post (if ((-1 : Int) == 1 && (Builtin.Str.strSliceIndices none none (-1) z.length).length == z.length) = true then Made.val (.str z t) else Made.str ⟨((Builtin.Str.strSliceIndices none none (-1) z.length).filterMap (z.cps[·]?)).toArray⟩) Q s from ?_)
  rw [if_neg (by simp), e]
  exact ⟨by show (z.cps.toList.reverse.toArray).size ≤ sizeLine; simpa [Str.length] using hz, h⟩
end
def rRev (K : PySem.W.Frag) : V → Hp → VK → Prop := fun x H Q => (∃ a xs, x = .ref a ∧ SqL K H a xs ∧ ∀ p, H p = none → Q (.ref p) (upd H p (.lst xs.reverse))) ∨
  (∃ a xs, x = .ref a ∧ SqT K H a xs ∧ Zl.NewT xs.reverse H Q) ∨ ∃ z, x = .str z ∧ z.length ≤ sizeLine ∧ Q (.str (revS z)) H
theorem pe_rev {X : Cx} {e : Expr} {te : TE} {k : Nat} {p1 p2 p3 pos : Pos} (he : PE X e te) : PE X (.Subscript e (.Slice none none (some (.UnaryOp .USub (.Constant (.int 1) k p1) p2)) p3) pos) (tUn (rRev X.K) te) := by
  refine ⟨fun pins s σ H Q I h => Subscript_ (thn (he.run pins s σ H _ I h) fun v s1 ⟨x, H1, I1, r1, q⟩ => ?_)⟩
  have step : PO X (some (.UnaryOp .USub (.Constant (.int 1) k p1) p2)) (tPart (tUn (rU fun i => .int (-i)) (tC (.int 1)))) := po_some (pe_un un_neg pe_int)
  refine wpAny_Slice (thn (po_none.run pins s1 σ H1 (fun o H2 => o = none ∧ H2 = H1) I1 ⟨rfl, rfl⟩) fun vl s2 ⟨l, H2, I2, pl, el, e2⟩ => ?_)
  subst el e2
  refine thn (po_none.run pins s2 σ H2 (fun o H3 => o = none ∧ H3 = H2) I2 ⟨rfl, rfl⟩) fun vu s3 ⟨u, H3, I3, pu, eu, e3⟩ => ?_
  subst eu e3
  refine thn (step.run pins s3 σ H3 (fun o H4 => o = some (-1) ∧ H4 = H3) I3 ⟨1, rfl, -1, rfl, rfl, rfl⟩) fun vs s4 ⟨o, H4, I4, ps, eo, e4⟩ => ?_
  subst eo e4
  cases pl
  cases pu
  obtain ⟨tk, rfl⟩ : ∃ tk, vs = .int (-1) tk := by cases ps; exact ⟨_, rfl⟩
  have I5 : L2.Inv X pins σ H4 { s4 with heap := s4.heap.push { cls := .type "slice", data := .fields #[.none, .none, .int (-1) tk] } } := I4.kept (t' := s4.toks) fun b ob q => Heap.get?_push_of_some _ q
  refine (show wpAny (model X.prog X.w) X.A (subscriptTail e (.Slice none none (some (.UnaryOp .USub (.Constant (.int 1) k p1) p2)) p3) v (.ref s4.heap.objs.size)) (EP X pins σ Q) X.xe { s4 with heap := s4.heap.push { cls := .type "slice", data := .fields #[.none, .none, .int (-1) tk] } } from ?_)
  rcases q with ⟨a, xs, rfl, hx, q⟩ | ⟨a, xs, rfl, hx, q⟩ | ⟨z, rfl, hz, q⟩
  · cases r1
    obtain ⟨its, r, ht, hz⟩ := I5.list hx
    have hl := r.length
    refine tail_any (ops := [.ref a, .ref s4.heap.objs.size]) ht.isList.typeIs (PySem.slot_list_getitem.lookup) ?_ (by with_unfolding_all rfl)
    refine wpAny_getItem_list_slice ht.isList (Heap.IsSliceOf.new _ .none .none (.int (-1) tk)) .none .none (.int _ _) (by decide) ?_ (by rw [List.size_toArray]; omega)
    rw [PySem.W.krv_pick]
    refine ⟨.ref _, _, I5.laid (t' := s4.toks) (o := .lst xs.reverse) (fun b ob q => Heap.get?_push_of_some _ q) (Nat.le_refl _) ?_, rfl, q _ (I5.hok.fresh (Nat.le_refl _))⟩
    exact ⟨by rw [List.length_reverse]; exact hz, _, 0, r.reverse, Heap.get?_push_size _ rfl⟩
  · cases r1
    obtain ⟨its, r, ht, hz⟩ := I5.tuple hx
    have hl := r.length
    refine tail_any (ops := [.ref a, .ref s4.heap.objs.size]) ht.typeIs PyProof.Rows.slot_tuple_getitem.lookup ?_ (by with_unfolding_all rfl)
    refine item_back ht (Heap.IsSliceOf.new _ .none .none (.int (-1) tk)) (by rw [List.size_toArray]; omega) ?_
    exact Zl.ep_T I5 r.reverse (by rw [List.length_reverse]; exact hz) q
  · obtain ⟨t, rfl⟩ := r1
    refine tail_any (ops := [.ref s4.heap.objs.size]) (typeIs_str _ _ _) F.slot_str_getitem.lookup ?_ (by with_unfolding_all rfl)
    exact text_back (Heap.IsSliceOf.new _ .none .none (.int (-1) tk)) hz ⟨.str _, H4, I5.tok _, ⟨_, rfl⟩, q⟩
end Zi
namespace Zl
open PySem PySem.Spec PyProof.Rows L2
def revD : D → Option R
  | .list ds => some (.own (.lst ds.reverse))
  | .tuple ds => some (.val (.tuple ds.reverse))
  | .str z => if z.length ≤ sizeLine then some (.val (.str (Zi.revS z))) else none
  | _ => none
theorem o_revD {K : KW} : Op1 K revD (Zi.rRev K) := fun Z H x d r Q zl hx er k => by
  unfold revD at er
  split at er
  · cases er
    obtain ⟨a, vs, rfl, hq, rd⟩ := hx
    exact .inl ⟨a, vs, rfl, hq, q_lst zl (rds_rev rd) k⟩
  · cases er
    obtain ⟨a, vs, rfl, hq, rd⟩ := rv_tup hx
    exact .inr (.inl ⟨a, vs, rfl, hq.sq, q_tup (rds_rev rd) k⟩)
  · split at er
    · rename_i hz; cases er
      cases rv_str hx
      exact .inr (.inr ⟨_, rfl, hz, k Z H _ (.refl _ _) (by simp only [NR, RD])⟩)
    · cases er
  · cases er
theorem ce_rev {X : Cx} {e : Expr} {m : ME} {k : Nat} {p1 p2 p3 pos : Pos} (he : CE X e m) : CE X (.Subscript e (.Slice none none (some (.UnaryOp .USub (.Constant (.int 1) k p1) p2)) p3) pos) (mUn revD m) := pe_imp (Zi.pe_rev he) (tE_Un o_revD)
end Zl
end

-- ZFew
section
namespace Zl
open PySem PySem.Spec PyProof.Rows L2
/-! insert, upper -/
abbrev rInsert : V → List V → Hp → VK → Prop := fun x vs H Q => ∃ (l : Addr) (xs : List V) (i : Int) (y : V), x = .ref l ∧ vs = [.int i, y] ∧ H l = some (.lst xs) ∧ xs.length < sizeLine ∧ 0 ≤ i ∧ i < 2 ^ 63 ∧ Q .non (upd H l (.lst (xs.take i.toNat ++ [y] ++ xs.drop i.toNat)))
theorem ok_ins {K : KW} : MethOk K insF rInsert := fun Z H a o o' ds vs d Q ro h e m k => by
  unfold insF at e
  split at e
  · split at e
    · rename_i hl; cases e
      obtain ⟨v, v', rfl, h1, h2⟩ := rds2 h
      simp only [RD] at h1
      subst h1
      obtain ⟨ws, q, r⟩ := ro
      exact ⟨a, ws, _, v', rfl, rfl, q, by rw [rds_len r]; exact hl.1, hl.2.1, hl.2.2, k _ _ rd_none ⟨_, upd_same, rds_app (rds_app (rds_take _ (rds_all (m _) r)) (rds_cons (m _ h2) rds_nil)) (rds_drop _ (rds_all (m _) r))⟩⟩
    · cases e
  · cases e
section
variable {X : Cx} {x : Str} {px cpos apos : Pos} {i : Nat} {e e2 : Expr} {md : MD}
theorem ce_insert (hx : PE X (.Name x px) (tVar i)) (ha : CD X [e, e2] md) (hbase : attributeBase (.Name x px) "insert" X.env (eval (.Name x px) X.env) = eval (.Name x px) X.env := by rfl)
    (hfew : ((backTo cpos (starEach [e, e2] X.env)).all (fun x => !x.1) && (backToKw cpos (keywordEach [] X.env)).all (fun x => x.1.isSome) && decide ([e, e2].length + ([] : List Keyword).length + (if ([] : List Keyword).isEmpty then 0 else 1) < 30)) = true := by rfl)
    (hline : (apos.endLine == cpos.line) = true := by rfl) (hs : starEach [e, e2] X.env = (false, eval e X.env) :: starEach [e2] X.env := by rfl) (hplain : (backTo cpos (starEach [e2] X.env)).any (·.1) = false := by rfl) :
    CE X (.Call (.Attribute (.Name x px) "insert" apos) [e, e2] [] cpos) (mMeth "list" insF i md) :=
  ce_meth PySem.F.plainAttrs_list PySem.F.slot_list_insert PySem.F.type_list_insert mt_insert ok_ins hx ha hbase hfew hline hs hplain
def upperF (z : Str) : List D → Option R
  | [] => if z.length ≤ 5592405 then some (.val (.str (Txt.upper z))) else none
  | _ => none
theorem ok_upper {K : KW} : OpM K upperF (fun x xs H Q => ∃ a, x = .str a ∧ xs = [] ∧ a.length ≤ 5592405 ∧ Q (.str (Txt.upper a)) H) := fun Z H z vs ds r0 Q zl hv er k => by
  unfold upperF at er
  split at er
  · split at er
    · rename_i hz; cases er
      cases hv
      exact ⟨z, rfl, rfl, hz, k Z H _ (.refl _ _) nr_str⟩
    · cases er
  · cases er
theorem ce_upper {o : Expr} {m : ME} (ho : CE X o m) (hbase : attributeBase o "upper" X.env (eval o X.env) = eval o X.env := by rfl) (hline : (apos.endLine == cpos.line) = true := by rfl) :
    CE X (.Call (.Attribute o "upper" apos) [] [] cpos) (mSM upperF m mA0) :=
  ce_sm0 PySem.F.slot_str_upper PySem.F.type_str_upper mt_upper ok_upper ho hbase hline
end
end Zl
end

-- ZFrz
section
namespace Zl
open PySem PySem.Spec PyProof.Rows L2
/-! a slot's container becomes data ahead of a step -/
def frzO (ρ : Rho) (i : Nat) : Rho := match ρ[i]? with
  | some (Sl.own _ o) => ρ.set i (.val o.toD)
  | _ => ρ
def mFrz (i : Nat) (m : ME) : ME := fun ρ => m (frzO ρ i)
def mFrzS (i : Nat) (m : MS) : MS := fun ρ => m (frzO ρ i)
section
variable {K : KW} {Z Z0 : AS} {H H0 : Hp} {ρ ρ0 : Rho} {σ : St}
theorem go_frz (g : Go K Z0 H0 ρ0 σ Z H ρ σ) (i : Nat) : ∃ Z', Go K Z0 H0 ρ0 σ Z' H (frzO ρ i) σ := by
  unfold frzO
  split
  · rename_i b o q
    obtain ⟨a, e, nz, r⟩ := g.fr.own i _ _ q
    have hr : RR K H0 Z H ρ σ (.bor i) (V.ref a) := e
    obtain ⟨Z', _, g', _⟩ := fz_ok (d := o.toD) (ρ' := ρ.set i (.val o.toD)) g hr (by simp only [fz, q])
    exact ⟨Z', g'⟩
  · exact ⟨Z, g⟩
end
theorem ce_frz {X : Cx} {e : Expr} {m : ME} {i : Nat} (h : CE X e m) : CE X e (mFrz i m) :=
  pe_imp h fun σ H Q ⟨Z, ρ, r, ρ', fr, er, k⟩ => by
    obtain ⟨Z', g⟩ := go_frz (Go.refl fr) i
    exact ⟨Z', frzO ρ i, r, ρ', g.fr, er, fun Z2 H2 v g2 h2 => k Z2 H2 v (g.trans g2) h2⟩
theorem cs_frz {X : Cx} {st : Stmt} {m : MS} {i : Nat} (h : CS X st m) : CS X st (mFrzS i m) :=
  ps_imp h fun D σ H ⟨Z, ρ, r, ρ', fr, er, k⟩ => by
    obtain ⟨Z', g⟩ := go_frz (Go.refl fr) i
    exact ⟨Z', frzO ρ i, r, ρ', g.fr, er, fun Z2 H2 v g2 => (k Z2 H2 v (g.trans g2)).at0 g⟩
end Zl
end

-- ZStar
section
namespace Zi
open PySem PySem.Spec PyProof.Rows L2
/-! a, .., *rest = a tuple -/
section
variable {prog : Program} {w : World} {A : Around} {E : Value → Shared → Prop} {s : Shared}
theorem items_star {l : Addr} {items : Array Value} {i : Nat} {Q : List Value → Shared → Prop} (hl : IsTup s.heap l items) (hh : A.handled = none) (hi : i ≤ items.size) (hz : items.size ≤ sizeLine)
    (h : ∀ (h₂ : Heap) (tk : Nat), (∀ b o, s.heap.get? b = some o → h₂.get? b = some o) → Q (items.toList.take i ++ [.ref h₂.objs.size]) { s with heap := h₂.push { cls := .type "list", data := .seq (items.toList.drop i).toArray }, toks := tk }) :
    wpAny (model prog w) A (unpackItems (.ref l) (i + 1) (some i)) Q E s := by
  have hlt : l ≠ s.heap.objs.size := by obtain ⟨o, ho, _⟩ := hl; exact Nat.ne_of_lt (Heap.lt_size ho)
  unfold unpackItems
  refine wpAny_bind ?_
  unfold notIterableAtAll
  refine wpAny_bind (wpAny_specialOf hl.typeIs slot_tuple_iter.lookup ?_)
  refine wpAny_pure ?_
  simp only [Bool.false_eq_true, if_false]
  refine wpAny_bind (wpAny_holding (iter_tuple hl ?_))
  refine wpAny_bind (wpAny_holding (draw_tuple hlt i 0 _ _ ⟨_, Heap.get?_push_size _ rfl, rfl, rfl⟩ (hl.push _) (by omega) fun h₁ hit₁ hs₁ => ?_))
  have hl₁ : IsTup h₁ l items := (hl.push _).extBut hs₁.extBut hlt
  rw [Nat.zero_add] at hit₁
  have hit₁' := hit₁
  obtain ⟨oi, hoi, _⟩ := hit₁'
  have hl₁' := hl₁
  obtain ⟨ol, hol, _⟩ := hl₁'
  rw [List.drop_zero]
  have hfl : (items.toList.take i).length = i := by rw [List.length_take, Array.length_toList]; omega
  rw [if_neg (show ¬ ((items.toList.take i).length < i) by rw [hfl]; omega)]
  refine wpAny_bind (wpAny_holding (PySem.W.kun_collect (s := { s with heap := h₁ }) (T := "tuple_iterator") (.inr (.inr (.inr rfl))) (Walks.tuple (A := A.in1) hh s.heap.objs.size l hlt items) (fun j u st => st.1.typeIs) (k := i) hi ⟨hit₁, hl₁⟩ (Heap.lt_size hoi) (Heap.lt_size hol) (fun h₂ tk hk => ?_) hz))
  have hrl : (items.toList.drop i).length - (i + 1 - 1 - i) = (items.toList.drop i).length := by omega
  show wpAny _ _ (if (items.toList.drop i).length < i + 1 - 1 - i then _ else _) _ _ _
  rw [if_neg (by omega)]
  show wpAny _ _ (newList ((items.toList.drop i).take ((items.toList.drop i).length - (i + 1 - 1 - i))) >>= fun d => pure (items.toList.take i ++ [d] ++ (items.toList.drop i).drop ((items.toList.drop i).length - (i + 1 - 1 - i)))) _ _ _
  rw [hrl, List.take_length, List.drop_length]
  have he : ∀ b o, s.heap.get? b = some o → h₂.get? b = some o := fun b o e => by
    have hb : b ≠ s.heap.objs.size := Nat.ne_of_lt (Heap.lt_size e)
    exact hk b o hb (hs₁.extBut b o hb (Heap.get?_push_of_some _ e))
  exact wpAny_bind (wpAny_newObj_type (wpAny_pure (by rw [List.append_nil]; exact h h₂ tk he)) (by show (items.toList.drop i).toArray.size ≤ sizeLine; rw [List.size_toArray, List.length_drop, Array.length_toList]; omega))
end
def gStar (K : PySem.W.Frag) (n : Nat) (t : TGs) : TG := fun v σ H Q => ∃ a xs, v = .ref a ∧ SqT K H a xs ∧ n ≤ xs.length ∧ ∀ p, H p = none → t (xs.take n ++ [.ref p]) σ (upd H p (.lst (xs.drop n))) Q
theorem vals_take : ∀ {vs : List V} {us : List Value}, Vals vs us → ∀ n, Vals (vs.take n) (us.take n)
  | _, _, .nil, n => by simp only [List.take_nil]; exact .nil
  | _, _, .cons h t, 0 => by simp only [List.take_zero]; exact .nil
  | _, _, .cons h t, n + 1 => by simp only [List.take_succ_cons]; exact .cons h (vals_take t n)
theorem vals_drop : ∀ {vs : List V} {us : List Value}, Vals vs us → ∀ n, Vals (vs.drop n) (us.drop n)
  | _, _, .nil, n => by simp only [List.drop_nil]; exact .nil
  | _, _, .cons h t, 0 => .cons h t
  | _, _, .cons h t, n + 1 => by simp only [List.drop_succ_cons]; exact vals_drop t n
theorem pg_star {X : Cx} {es es' : List Expr} {k : Nat} {t : TGs} {n : Nat} {pos : Pos} (hc : X.calm = true) (h : PGs X es' t) (he : (assignEach es X.env).map (·.2) = (assignEach es' X.env).map (·.2) := by rfl)
    (hn : (assignEach es X.env).length = n + 1 := by rfl) (hst : (assignEach es X.env).findIdx? (·.1) = some n := by rfl) : PG X (.Tuple es k pos) (gStar X.K n t) := by
  refine ⟨fun pins s σ H v u Q I r hw => ?_⟩
  obtain ⟨a, xs, e1, hq, hl, hw⟩ := hw
  subst e1
  cases r
  obtain ⟨its, rv, ht, hz⟩ := I.tuple hq
  have hlen := rv.length
  rw [assign_Tuple]
  refine wpAny_bind (wpAny_standAt ?_)
  unfold unpack
  rw [hn, hst]
  have hz' : its.toArray.size ≤ sizeLine := by rw [List.size_toArray]; omega
  have hl' : n ≤ its.toArray.size := by rw [List.size_toArray]; omega
  refine wpAny_bind (wpAny_holding (items_star ht (I.ok.hd hc) hl' hz' fun h₂ tk hk => ?_))
  have I2 : Inv X pins σ H { s with heap := h₂, toks := tk } := I.kept hk
  have I3 : Inv X pins σ (upd H h₂.objs.size (.lst (xs.drop n))) { s with heap := h₂.push { cls := .type "list", data := .seq ((its.toArray.toList.drop n).toArray) }, toks := tk } :=
    I2.laid (s := { s with heap := h₂, toks := tk }) (t' := tk) (o := .lst (xs.drop n)) (fun b ob q => Heap.get?_push_of_some _ q) (Nat.le_refl _) (by
      refine ⟨by rw [List.length_drop]; omega, its.drop n, 0, vals_drop rv n, ?_⟩
      exact Heap.get?_push_size _ rfl)
  rw [he]
  refine h.run pins _ σ _ _ _ Q I3 ?_ (hw _ (I2.hok.fresh (Nat.le_refl _)))
  exact (vals_take rv n).append (.cons rfl .nil)
end Zi
namespace Zl
open PySem PySem.Spec PyProof.Rows L2
/-- a, *b = e: b's list is b's own -/
def mStar (i j : Nat) (me : ME) : MS := fun ρ => (me ρ).bind fun p => (fz p.2 p.1).bind fun q => match q.1 with
  | .tuple (d :: ds) => (stS i (.val d) q.2).bind fun ρ1 => (stS j (.own false (.lst ds)) ρ1).bind fun ρ2 => some (.nx, ρ2)
  | _ => none
theorem tS_star {K : KW} {i j : Nat} {me : ME} : ∀ D σ H, tS K (mStar i j me) D σ H → tAsg (tE K me) (Zi.gStar K 1 (gCons (gName i) (gCons (gName j) gNil))) D σ H := fun Dn σ H ⟨Z, ρ, fl, ρ', fr, e, k⟩ => by
  obtain ⟨⟨r1, ρ1⟩, e1, e⟩ := bnd e
  obtain ⟨⟨d0, ρ2⟩, e2, e⟩ := bnd e
  simp only at e
  split at e
  · rename_i d ds
    obtain ⟨ρ3, e3, e⟩ := bnd e
    obtain ⟨ρ4, e4, e⟩ := bnd e
    cases e
    refine ⟨Z, ρ, r1, ρ1, fr, e1, fun Z1 H1 v g1 h1 => ?_⟩
    obtain ⟨Z2, _, g2, rd⟩ := fz_ok g1 h1 e2
    simp only [RD] at rd
    obtain ⟨a, vs, rfl, hq, hd⟩ := rd
    simp only [RDs] at hd
    obtain ⟨v0, r, rfl, hd1, hd2⟩ := hd
    refine ⟨a, v0 :: r, rfl, hq.sq, by simp, fun p hp => ?_⟩
    refine ⟨v0, [.ref p], rfl, .ref p, [], rfl, rfl, ?_⟩
    have n : Nw Z2 H1 Z2 (upd H1 p (.lst r)) := Nw.upd hp
    have g3 := g2.trans (n.go g2.fr)
    have g4 := stS_val g3 e3 (n.rd hd1)
    have nz : ¬ Z2 p := fun z => g2.fr.zl p z hp
    have nw : ¬ Ow ρ3 (σ.set i (some v0)) p := fun w => by
      rw [stS_eq e3] at w
      exact g2.fr.live (ow_stV w) hp
    have ro : RO K Z2 (upd H1 p (.lst r)) (.lst ds) p := ⟨r, by simp [upd], n.rds hd2⟩
    exact k Z2 _ _ (stS_own g4 e4 nz nw ro (g2.st.gr p hp))
  · cases e
theorem cs_star {X : Cx} {i j : Nat} {x y : Str} {px py ps tp pos : Pos} {kk : Nat} {e : Expr} {me : ME} (hc : X.calm = true) (hN : X.N.Nodup) (hi : X.N[i]? = some x) (hx : Loc X.env.scope x) (hj : X.N[j]? = some y) (hy : Loc X.env.scope y) (he : CE X e me)
    (hs : swapsWithSole [.Tuple [.Name x px, .Starred (.Name y py) ps] kk tp] e pos.line X.env = pure false := by rfl) (hw : swappedStores [.Tuple [.Name x px, .Starred (.Name y py) ps] kk tp] e X.env = pure none := by rfl)
    (hf : X.fn x = true ∨ X.env.scope.names.lookup x = some .local := by first | exact .inl rfl | exact .inr rfl | assumption) (hf2 : X.fn y = true ∨ X.env.scope.names.lookup y = some .local := by first | exact .inl rfl | exact .inr rfl | assumption) :
    CS X (.Assign [.Tuple [.Name x px, .Starred (.Name y py) ps] kk tp] e pos) (mStar i j me) :=
  ps_imp (ps_asg he (Zi.pg_star (es' := [.Name x px, .Name y py]) hc (pgs_cons (pg_name hN hi hx hf) (pgs_cons (pg_name hN hj hy hf2) pgs_nil))) hs hw) tS_star
end Zl
end

-- ZDct
section
namespace Zl
open PySem PySem.Spec PyProof.Rows L2
/-! dicts with keys that are numbers and texts: displays, get, in, [ ] -/
def keyOf : D → Option Key
  | .int i => some (.inl i)
  | .str x => some (.inr x)
  | _ => none
theorem keyOf_rd {K : KW} {Z : AS} {H : Hp} {d : D} {k : Key} {v : V} (e : keyOf d = some k) (h : RD K Z H d v) : v = kV k := by
  cases d with
  | int i => cases e; simp only [RD] at h; exact h
  | str x => cases e; simp only [RD] at h; exact h
  | _ => cases e
theorem keyOf_d {d : D} {k : Key} (e : keyOf d = some k) : d = keyD k := by
  cases d with
  | int i => cases e; rfl
  | str x => cases e; rfl
  | _ => cases e
def keqB : D → Key → Bool
  | .int i, .inl j => decide (i = j)
  | .str x, .inr y => decide (x = y)
  | _, _ => false
theorem keqB_is {j k : Key} : keqB (keyD j) k = decide (j = k) := by
  cases j <;> cases k <;> simp [keqB, keyD]
def lkD (ks : List (D × D)) (k : Key) : Option D := (ks.find? fun p => keqB p.1 k).map (·.2)
section
variable {K : KW} {Z Z0 Z' : AS} {H H0 H' : Hp} {ρ ρ0 ρ' : Rho} {σ σ0 : St}
theorem rdk_val {k : Key} : ∀ {ks : List (D × D)} {vs : List (Key × V)}, RDk K Z H ks vs → (∀ d, lkD ks k = some d → ∃ v, valV vs k = some v ∧ RD K Z H d v) ∧ (lkD ks k = none → valV vs k = none)
  | [], vs, h => by
    simp only [RDk] at h
    subst h
    exact ⟨fun d e => (by simp [lkD] at e), fun _ => rfl⟩
  | (j, d) :: ks, vs, h => by
    simp only [RDk] at h
    obtain ⟨key, v, r, rfl, rfl, h1, h2⟩ := h
    have ih := rdk_val (k := k) h2
    by_cases e : key = k
    · have e1 : lkD ((keyD key, d) :: ks) k = some d := by simp [lkD, List.find?_cons, keqB_is, e]
      rw [valV_pos e]
      refine ⟨fun d' q => ?_, fun q => ?_⟩
      · rw [e1] at q; cases q; exact ⟨v, rfl, h1⟩
      · rw [e1] at q; cases q
    · have e1 : lkD ((keyD key, d) :: ks) k = lkD ks k := by simp [lkD, List.find?_cons, keqB_is, e]
      rw [valV_neg e, e1]
      exact ih
/-! ### displays -/
def RPr (K : KW) (Z : AS) (H : Hp) : List (Key × D) → List (V × V) → Prop := Paired fun kd v => v.1 = kV kd.1 ∧ RD K Z H kd.2 v.2
theorem rpr_rdk : ∀ {ks : List (Key × D)} {vs : List (V × V)}, RPr K Z H ks vs → ∃ kv : List (Key × V), vs = kv.map (fun kv => (kV kv.1, kv.2)) ∧ RDk K Z H (dkv ks) kv ∧ kv.map (·.1) = ks.map (·.1)
  | [], _, h => by cases h; exact ⟨[], rfl, by simp only [dkv, List.map_nil, RDk], rfl⟩
  | (k, d) :: ks, _, h => by
    cases h with
    | @cons _ v _ vs h t =>
      obtain ⟨kv, e1, e2, e3⟩ := rpr_rdk t
      obtain ⟨v1, v2⟩ := v
      obtain ⟨h1, h2⟩ := h
      simp only at h1 h2
      subst h1 e1
      refine ⟨(k, v2) :: kv, rfl, ?_, by simp [e3]⟩
      simp only [dkv, List.map_cons, RDk]
      exact ⟨k, v2, kv, rfl, rfl, h2, e2⟩
theorem valV_no {kvs : List (Key × V)} {k : Key} (h : k ∉ kvs.map (·.1)) : valV kvs k = none := by
  unfold valV
  have : kvs.find? (fun kv => decide (kv.1 = k)) = none := List.find?_eq_none.mpr fun p hp e => h (List.mem_map.mpr ⟨p, hp, of_decide_eq_true e⟩)
  rw [this]; rfl
theorem merge_nd : ∀ {more acc : List (Key × V)}, (acc.map (·.1) ++ more.map (·.1)).Nodup → mergeK acc more = acc ++ more
  | [], acc, _ => by simp [mergeK]
  | p :: r, acc, h => by
    have hn : p.1 ∉ acc.map (·.1) := fun m => by
      rw [List.map_cons] at h
      exact (List.nodup_append.mp h).2.2 p.1 m p.1 List.mem_cons_self rfl
    show mergeK (putK acc p.1 p.2) r = _
    rw [putK_new p.2 (valV_no hn)]
    have h' : ((acc ++ [(p.1, p.2)]).map (·.1) ++ r.map (·.1)).Nodup := by
      rw [List.map_append, List.append_assoc]; exact h
    rw [merge_nd h', List.append_assoc]
    rfl
theorem Fr.sideK {A : Addr} {u : HO} (f : Fr K Z H ρ σ) (nz : ¬ Z A) (nw : ¬ Ow ρ σ A) (h : ∃ xs, H A = some (.dK xs)) : Fr K Z (upd H A u) ρ σ := by
  obtain ⟨xs, h⟩ := h
  have tp : ∀ a ys, TQ K H a ys → TQ K (upd H A u) a ys := fun a ys q => TQ.upd q fun o e => by rw [e] at h; cases h
  have ls : ∀ a o, Z a → H a = some o → (upd H A u) a = some o := fun a o z e => by rw [upd_ne (fun z' => by subst z'; exact nz z)]; exact e
  refine ⟨fun a z e => ?_, f.len, fun j d q => let ⟨v, e, r⟩ := f.val _ _ q; ⟨v, e, RD.mono (fun _ z => z) ls tp _ _ r⟩, fun j b o q => ?_, fun j ns q => ?_, f.apart⟩
  · rw [upd_ne (fun z' => by subst z'; exact nz z)] at e; exact f.zl a z e
  · obtain ⟨a, e, nz', ro⟩ := f.own _ _ _ q
    have hne : a ≠ A := fun z => by subst z; exact nw ⟨_, _, _, q, e⟩
    refine ⟨a, e, nz', ?_⟩
    cases o with
    | lst ds => obtain ⟨vs, q, r⟩ := ro; exact ⟨vs, by rw [upd_ne hne]; exact q, RDs.mono (fun _ z => z) ls tp _ _ r⟩
    | dct ds => obtain ⟨vs, q, r⟩ := ro; exact ⟨vs, by rw [upd_ne hne]; exact q, RDk.mono (fun _ z => z) ls tp _ _ r⟩
    | dtp ds => obtain ⟨vs, q, r⟩ := ro; exact ⟨vs, by rw [upd_ne hne]; exact q, RDt.mono (fun _ z => z) ls tp _ _ r.1, r.2⟩
  · obtain ⟨a, e, sc⟩ := f.scr _ _ q
    exact ⟨a, e, sc.keep fun o q => by rw [upd_ne (fun z => by subst z; rw [h] at q; cases q)]; exact q⟩
theorem Go.sideK {A : Addr} {u : HO} (g : Go K Z0 H0 ρ0 σ0 Z H ρ σ) (nz : ¬ Z A) (nw : ¬ Ow ρ σ A) (h : ∃ xs, H A = some (.dK xs)) (h0 : H0 A = none) : Go K Z0 H0 ρ0 σ0 Z (upd H A u) ρ σ :=
  ⟨⟨fun a o e w => by rw [upd_ne (ne_of_none e h0)]; exact g.st.keep a o e w, g.st.zm, g.st.zn, g.st.wn, fun a e => by
    by_cases z : a = A
    · subst z; exact h0
    · rw [upd_ne z] at e; exact g.st.gr a e⟩, g.fr.sideK nz nw h, g.par⟩
theorem rdk_side {A : Addr} {u : HO} {ds : List (D × D)} {vs : List (Key × V)} (nz : ¬ Z A) (h : ∃ xs, H A = some (.dK xs)) (r : RDk K Z H ds vs) : RDk K Z (upd H A u) ds vs := by
  obtain ⟨xs, h⟩ := h
  refine RDk.mono (fun _ z => z) (fun a o z e => by rw [upd_ne (fun z' => by subst z'; exact nz z)]; exact e) (fun a ys q => ?_) _ _ r
  exact TQ.upd q fun o e => by rw [e] at h; cases h
end
abbrev MDD := Rho → Option (List (Key × D) × Rho)
def mDD0 : MDD := fun ρ => some ([], ρ)
def mDD1 (mk mv : ME) (mr : MDD) : MDD := fun ρ => (mk ρ).bind fun p => (fz p.2 p.1).bind fun w => (keyOf w.1).bind fun key => (mv w.2).bind fun q => (fz q.2 q.1).bind fun u => (mr u.2).bind fun r => some ((key, u.1) :: r.1, r.2)
def nodK (ks : List (Key × D)) : Bool := decide ((ks.map (·.1)).Nodup)
def mDict (m : MDD) : ME := fun ρ => (m ρ).bind fun p => if nodK p.1 = true ∧ p.1.length ≤ 15 then some (.own (.dct p.1), p.2) else none
def tPr (K : KW) (m : MDD) : St → Hp → (List (V × V) → Hp → Prop) → Prop := fun σ H Q => ∃ Z ρ ks ρ', Fr K Z H ρ σ ∧ m ρ = some (ks, ρ') ∧ ∀ Z' H' vs, Go K Z H ρ σ Z' H' ρ' σ → RPr K Z' H' ks vs → Q vs H'
def CDD (X : Cx) (pos : Pos) (ks : List (Option Expr)) (vs : List Expr) (m : MDD) : Prop := ∃ trs, PPs X pos ks vs trs ∧ ∀ σ H Q, tPr X.KW m σ H Q → tPairs trs σ H Q
section
variable {X : Cx} {pos : Pos} {k v : Expr} {ks : List (Option Expr)} {vs : List Expr} {mk mv : ME} {mr m : MDD}
theorem cdd_nil : CDD X pos [] [] mDD0 := ⟨[], pps_nil, fun σ H Q ⟨Z, ρ, ks, ρ', fr, e, q⟩ => by cases e; exact q Z H [] (.refl fr) .nil⟩
theorem cdd_cons (hk : CE X k mk) (hv : CE X v mv) (hr : CDD X pos ks vs mr) : CDD X pos (some k :: ks) (v :: vs) (mDD1 mk mv mr) := by
  obtain ⟨trs, hp, hi⟩ := hr
  refine ⟨(tE X.KW mk, tE X.KW mv) :: trs, pps_cons hk hv hp, fun σ H Q ⟨Z, ρ, kd, ρ', fr, e, q⟩ => ?_⟩
  obtain ⟨⟨r1, ρ1⟩, e1, e⟩ := bnd e
  obtain ⟨⟨d1, ρ2⟩, e2, e⟩ := bnd e
  obtain ⟨key, e3, e⟩ := bnd e
  obtain ⟨⟨r2, ρ3⟩, e4, e⟩ := bnd e
  obtain ⟨⟨d2, ρ4⟩, e5, e⟩ := bnd e
  obtain ⟨⟨rest, ρ5⟩, e6, e⟩ := bnd e
  cases e
  refine ⟨Z, ρ, r1, ρ1, fr, e1, fun Z1 H1 x g1 h1 => ?_⟩
  obtain ⟨Z2, _, g2, rd1⟩ := fz_ok g1 h1 e2
  refine ⟨Z2, ρ2, r2, ρ3, g2.fr, e4, fun Z3 H3 y g3 h3 => ?_⟩
  obtain ⟨Z4, _, g4, rd2⟩ := fz_ok g3 h3 e5
  refine hi σ H3 _ ⟨Z4, ρ4, rest, ρ5, g4.fr, e6, fun Z5 H5 zs g5 hz => ?_⟩
  exact q Z5 H5 ((x, y) :: zs) ((g2.trans g4).trans g5) (.cons ⟨keyOf_rd e3 rd1, g4.fr.rd g5.st rd2⟩ hz)
theorem ce_disp (h : CDD X pos ks vs m) (hall : ks.all (·.isSome) = true := by rfl) (hl : ks.length = vs.length := by rfl) (h0 : ks ≠ [] := by exact fun z => nomatch z) (h15 : ks.length ≤ 15 := by decide) : CE X (.Dict ks vs pos) (mDict m) := by
  obtain ⟨trs, hp, hi⟩ := h
  refine pe_imp (pe_disp hp hall hl h0 h15) fun σ H Q ⟨Z, ρ, r, ρ', fr, e, q⟩ => ?_
  obtain ⟨⟨kd, ρ1⟩, e1, e⟩ := bnd e
  split at e
  · rename_i hn
    cases e
    intro p hp0
    have n : Nw Z H Z (upd H p (.dK [])) := Nw.upd hp0
    have nzp : ¬ Z p := fun z => fr.zl p z hp0
    have nwp : ¬ Ow ρ σ p := fun w => fr.live w hp0
    refine hi σ _ _ ⟨Z, ρ, kd, ρ1, n.fr fr, e1, fun Z' H' us g hu => ?_⟩
    have hD : H' p = some (.dK []) := g.st.keep p _ upd_same nwp
    have nz' : ¬ Z' p := fun z => by
      rcases g.st.zn p z with z | z | z
      · exact nzp z
      · rw [upd_same] at z; cases z
      · exact nwp z
    have nw' : ¬ Ow ρ1 σ p := fun w => by
      rcases g.st.wn p w with z | z
      · exact nwp z
      · rw [upd_same] at z; cases z
    obtain ⟨kv, rfl, hk, hm⟩ := rpr_rdk hu
    have hnd : mergeK [] kv = kv := merge_nd (by rw [List.map_nil, List.nil_append, hm]; simpa [nodK] using hn.1)
    refine ⟨hD, kv, rfl, ?_, ?_⟩
    · have := congrArg List.length hm
      simp only [List.length_map] at this
      have h15' : kd.length ≤ 15 := hn.2
      omega
    · rw [hnd]
      exact q Z' _ _ (((n.go fr).trans g).sideK nz' nw' ⟨_, hD⟩ hp0) ⟨p, rfl, nz', nw', ⟨kv, upd_same, rdk_side nz' ⟨_, hD⟩ hk⟩, hp0⟩
  · cases e
end
/-- keys that are tuples -/
def isTp : D → Bool
  | .tuple _ => true
  | _ => false
def noTp (ks : List (D × D)) : Bool := ks.all fun p => !isTp p.1
def tpKeys (ks : List (D × D)) : Bool := ks.all fun p => isTp p.1
def nkey : D → Option NestedKey
  | .tuple ds => (NK (.tuple ds)).bind fun k => if k.depth ≤ 8 then some k else none
  | _ => none
def lkT (ks : List (D × D)) (k : NestedKey) : Option D := (ks.find? fun p => decide (NK p.1 = some k)).map (·.2)
/-- what stands at a key -/
def lkA (ks : List (D × D)) (kd : D) : Option (Option D) := match kd with
  | .int i => if noTp ks = true then some (lkD ks (.inl i)) else none
  | .str x => if noTp ks = true then some (lkD ks (.inr x)) else none
  | .tuple ds => (nkey (.tuple ds)).bind fun k => if tpKeys ks = true then some (lkT ks k) else none
  | _ => none
section
variable {K : KW} {Z Z' : AS} {H H' : Hp}
theorem rdt_val {k : NestedKey} : ∀ {ks : List (D × D)} {xs : Xs}, RDt K Z H ks xs → (∀ d, lkT ks k = some d → ∃ v, atV xs k = some v ∧ RD K Z H d v) ∧ (lkT ks k = none → atV xs k = none)
  | [], xs, h => by
    simp only [RDt] at h
    subst h
    exact ⟨fun d e => (by simp [lkT] at e), fun _ => rfl⟩
  | (j, d) :: ks, xs, h => by
    simp only [RDt] at h
    obtain ⟨nk, b, v, r, rfl, e1, _, _, h1, h2⟩ := h
    have ih := rdt_val (k := k) h2
    by_cases e : nk = k
    · have q1 : lkT ((j, d) :: ks) k = some d := by simp [lkT, List.find?_cons, e1, e]
      have q2 : atV ((nk, b, v) :: r) k = some v := by simp [atV, List.find?_cons, e]
      refine ⟨fun d' q => ?_, fun q => ?_⟩
      · rw [q1] at q; cases q; exact ⟨v, q2, h1⟩
      · rw [q1] at q; cases q
    · have q1 : lkT ((j, d) :: ks) k = lkT ks k := by simp [lkT, List.find?_cons, e1, e]
      have q2 : atV ((nk, b, v) :: r) k = atV r k := by simp [atV, List.find?_cons, e]
      rw [q1, q2]; exact ih
theorem rdt_tp : ∀ {ks : List (D × D)} {xs : Xs}, RDt K Z H ks xs → tpKeys ks = true
  | [], xs, h => rfl
  | (j, d) :: ks, xs, h => by
    simp only [RDt] at h
    obtain ⟨nk, b, v, r, rfl, e1, _, r1, h1, h2⟩ := h
    simp only [tpKeys, List.all_cons, Bool.and_eq_true]
    refine ⟨?_, rdt_tp h2⟩
    cases j with
    | tuple _ => rfl
    | none => simp only [RD] at r1; cases r1
    | bool _ => simp only [RD] at r1; cases r1
    | int _ => simp only [RD] at r1; cases r1
    | str _ => simp only [RD] at r1; cases r1
    | list _ => simp only [NK] at e1; cases e1
    | dict _ => simp only [NK] at e1; cases e1
theorem rdk_no : ∀ {ks : List (D × D)} {xs : List (Key × V)}, RDk K Z H ks xs → noTp ks = true
  | [], xs, h => rfl
  | (j, d) :: ks, xs, h => by
    simp only [RDk] at h
    obtain ⟨key, v, r, rfl, rfl, h1, h2⟩ := h
    simp only [noTp, List.all_cons, Bool.and_eq_true]
    exact ⟨by cases key <;> rfl, rdk_no h2⟩
theorem no_both {ks : List (D × D)} (h1 : noTp ks = true) (h2 : tpKeys ks = true) : ks = [] := by
  cases ks with
  | nil => rfl
  | cons p ks =>
    simp only [noTp, tpKeys, List.all_cons, Bool.and_eq_true] at h1 h2
    rw [h2.1] at h1
    simp at h1
theorem nkey_tup {d : D} {k : NestedKey} (e : nkey d = some k) : ∃ ds, d = .tuple ds ∧ NK d = some k ∧ k.depth ≤ 8 := by
  cases d with
  | tuple ds =>
    obtain ⟨k', e1, e2⟩ := bnd e
    obtain ⟨hd, e2⟩ := ite_some e2
    cases e2
    exact ⟨ds, rfl, e1, hd⟩
  | _ => cases e
theorem rv_nkey {d : D} {k : NestedKey} {v : V} (e : nkey d = some k) (h : RV K Z H d v) : ∃ b, v = .ref b ∧ KeyT K Z H k b := by
  obtain ⟨ds, rfl, e1, e2⟩ := nkey_tup e
  have hr : RD K Z H (.tuple ds) v := h
  obtain ⟨b, vs, e3, _⟩ := rv_tup h
  subst e3
  exact ⟨b, rfl, e2, _, e1, hr⟩
theorem rv_key {d : D} {k : Key} {v : V} (e : keyOf d = some k) (h : RV K Z H d v) : v = kV k := by
  cases d with
  | int i => cases e; exact rv_int h
  | str x => cases e; exact rv_str h
  | _ => cases e
/-- a look-up, either kind of dict: the key's value, what is found -/
def DLk (K : KW) (H : Hp) (a : Addr) (y : V) (o : Option V) : Prop := DGet H a y o ∨ ∃ (Z : AS) (xs : Xs) (k : NestedKey) (b : Addr), y = .ref b ∧ DtAt K Z H a xs ∧ KeyT K Z H k b ∧ atV xs k = o
theorem lk_ok {ks : List (D × D)} {kd : D} {o : Option D} {x y : V} (hd : RDd K Z H ks x) (hk : RV K Z H kd y) (e : lkA ks kd = some o) :
    ∃ a ov, x = .ref a ∧ DLk K H a y ov ∧ ov.isSome = o.isSome ∧ ∀ d, o = some d → ∃ v, ov = some v ∧ RD K Z H d v := by
  have str : ∀ {key : Key}, keyOf kd = some key → noTp ks = true → o = lkD ks key → ∃ a ov, x = .ref a ∧ DLk K H a y ov ∧ ov.isSome = o.isSome ∧ ∀ d, o = some d → ∃ v, ov = some v ∧ RD K Z H d v := by
    intro key ek hn eo
    subst eo
    cases rv_key ek hk
    rcases hd with ⟨a, vs, rfl, ha, r⟩ | ⟨a, xs, rfl, ha, r, ne⟩
    · have hv := rdk_val (k := key) r
      refine ⟨a, _, rfl, .inl (DGet.k ha), ?_, fun d e => ?_⟩
      · cases h9 : lkD ks key with
        | none => rw [hv.2 h9]; rfl
        | some d => obtain ⟨v, e9, _⟩ := hv.1 d h9; rw [e9]; rfl
      · exact hv.1 d e
    · exact absurd (no_both hn (rdt_tp r)) ne
  cases kd with
  | int i =>
    obtain ⟨hn, e⟩ := ite_some e
    cases e
    exact str rfl hn rfl
  | str z =>
    obtain ⟨hn, e⟩ := ite_some e
    cases e
    exact str rfl hn rfl
  | tuple ds =>
    obtain ⟨k, ek, e⟩ := bnd e
    obtain ⟨ht, e⟩ := ite_some e
    cases e
    obtain ⟨b, rfl, hkt⟩ := rv_nkey ek hk
    rcases hd with ⟨a, vs, rfl, ha, r⟩ | ⟨a, xs, rfl, ha, r, ne⟩
    · have e0 := no_both (rdk_no r) ht
      subst e0
      simp only [RDk] at r
      subst r
      exact ⟨a, none, rfl, .inr ⟨Z, [], k, b, rfl, ⟨.inr ⟨rfl, ha⟩, fun _ z => nomatch z⟩, hkt, rfl⟩, rfl, fun d e => by cases e⟩
    · have hv := rdt_val (k := k) r
      refine ⟨a, _, rfl, .inr ⟨Z, xs, k, b, rfl, rdt_at ha r, hkt, rfl⟩, ?_, fun d e => hv.1 d e⟩
      cases h9 : lkT ks k with
      | none => rw [hv.2 h9]; rfl
      | some d => obtain ⟨v, e9, _⟩ := hv.1 d h9; rw [e9]; rfl
  | _ => cases e
end
/-! ### d.get(k, x) -/
def getKD (kd x : D) : D → Option D
  | .dict ks => (lkA ks kd).map fun o => o.getD x
  | _ => none
def mGet2 (md mk mx : ME) : ME := fun ρ => (md ρ).bind fun p => (rs p.2 p.1).bind fun d0 => if isDct d0 = true then (mk p.2).bind fun q => (mx q.2).bind fun s => (fz s.2 s.1).bind fun u => (rs u.2 q.1).bind fun kd => (rs u.2 p.1).bind fun d1 => (getKD kd u.1 d1).bind fun z => some (.val z, u.2) else none
section
variable {X : Cx} {o e f : Expr} {apos cpos : Pos} {md mk mx : ME}
def tDGetA (K : KW) (td ty tx : TE) : TE := fun σ H Q => td σ H fun x H1 => ∃ a, x = .ref a ∧ (IsD H1 a ∨ ∃ Z xs, DtAt K Z H1 a xs) ∧ ty σ H1 fun y H2 => tx σ H2 fun z H3 => ∃ o, DLk K H3 a y o ∧ Q (o.getD z) H3
theorem dta_get {pins : List (Addr × Obj)} {σ : St} {H : Hp} {s : Shared} {a : Addr} {y d : V} {u r : Value} {o : Option V} {Q : Value → Shared → Prop} {E : Value → Shared → Prop} (hu : X.A.units + 64 < cLine) (I : Inv X pins σ H s) (g : DLk X.KW H a y o) (ry : RelV y u) (rd : RelV d r)
    (h : ∀ w' s', Inv X pins σ H s' → RelV (o.getD d) w' → Q w' s') : wpAny (model X.prog X.w) X.A (call (.builtin "dict.get") [.ref a, u, r]) Q E s := by
  rcases g with g | ⟨Z, xs, k, b, rfl, g, hk, rfl⟩
  · exact d_get2 (by omega) I g ry rd h
  · cases ry
    exact dt_getD (by unfold Room8; omega) I g hk rd fun w' s' I' r' => h w' s' I' r'
theorem dict_there {pins : List (Addr × Obj)} {σ : St} {H : Hp} {s : Shared} {a : Addr} (I : Inv X pins σ H s) (d : IsD H a ∨ ∃ Z xs, DtAt X.KW Z H a xs) : s.TypeIs (.ref a) "dict" ∧ (∀ b, Value.ref a = .ref b → ∃ ob, s.heap.get? b = some ob ∧ ob.dict = none) := by
  rcases d with d | ⟨Z, xs, h⟩
  · obtain ⟨t1, t2, _⟩ := isD_at I d
    exact ⟨t1, t2⟩
  · refine ⟨h.typeIs I, fun b q => ?_⟩
    cases q
    obtain ⟨_, _, _, us, _, ob, _, _, h1, h2, _⟩ := h.obj I
    exact ⟨ob, h1, h2.2.1⟩
theorem pe_dgetA {td ty tx : TE} (hu : X.A.units + 64 < cLine) (ho : PE X o td) (he : PE X e ty) (hf : PE X f tx) (m : M2 X o "get" apos e f cpos) : PE X (.Call (.Attribute o "get" apos) [e, f] [] cpos) (tDGetA X.KW td ty tx) :=
  ⟨fun pins s σ H Q I h => by
    refine wpAny_Call_method m.base m.few m.line PySem.F.plainAttrs_dict PySem.F.slot_dict_get PySem.F.type_dict_get ?_
    refine thn (ho.run pins s σ H _ I h) fun u s1 ⟨x, H1, I1, rx, a, ex, d, q1⟩ => ?_
    subst ex
    obtain rfl : u = Value.ref a := rx
    obtain ⟨t1, t2⟩ := dict_there I1 d
    refine ⟨t1, t2, ?_⟩
    rw [m.trees]
    refine Calls.callWith_builtin rfl (Calls.evalArgs_plain (Calls.spliced_cons ?_))
    refine thn (he.run pins s1 σ H1 _ I1 q1) fun iv s2 ⟨y, H2, I2, ry, q2⟩ => Calls.spliced_cons ?_
    refine thn (hf.run pins s2 σ H2 _ I2 q2) fun fv s3 ⟨z, H3, I3, rz, ov, g, q3⟩ => Calls.spliced_nil ?_
    exact dta_get hu I3 g ry rz fun w' s4 I4 rw' => ⟨_, H3, I4, rw', q3⟩⟩
theorem ce_get2 (hu : X.A.units + 64 < cLine) (ho : CE X o md) (he : CE X e mk) (hf : CE X f mx) (m : M2 X o "get" apos e f cpos) : CE X (.Call (.Attribute o "get" apos) [e, f] [] cpos) (mGet2 md mk mx) :=
  pe_imp (pe_dgetA hu ho he hf m) fun σ H Q ⟨Z, ρ, r, ρ', fr, e, q⟩ => by
    obtain ⟨⟨r1, ρ1⟩, e1, e⟩ := bnd e
    obtain ⟨d0, e2, e⟩ := bnd e
    obtain ⟨hd, e⟩ := ite_some e
    obtain ⟨⟨r2, ρ2⟩, e3, e⟩ := bnd e
    obtain ⟨⟨r3, ρ3⟩, e5, e⟩ := bnd e
    obtain ⟨⟨u, ρ4⟩, e6, e⟩ := bnd e
    obtain ⟨kd, e4, e⟩ := bnd e
    obtain ⟨d1, e7, e⟩ := bnd e
    obtain ⟨z0, e8, e⟩ := bnd e
    cases e
    refine ⟨Z, ρ, r1, ρ1, fr, e1, fun Z1 H1 x g1 h1 => ?_⟩
    obtain ⟨a, rfl, isd⟩ : ∃ a, x = .ref a ∧ (IsD H1 a ∨ ∃ Z xs, DtAt X.KW Z H1 a xs) := by
      have hv := rs_ok g1.fr h1 e2
      cases d0 with
      | dict ks =>
        rcases (show RDd X.KW Z1 H1 ks x from hv) with ⟨a, vs, rfl, ha, _⟩ | ⟨a, xs, rfl, ha, rr, _⟩
        · exact ⟨a, rfl, .inl (.inl ⟨vs, .inl ha⟩)⟩
        · exact ⟨a, rfl, .inr ⟨Z1, xs, rdt_at ha rr⟩⟩
      | _ => cases hd
    refine ⟨a, rfl, isd, Z1, ρ1, r2, ρ2, g1.fr, e3, fun Z2 H2 y g2 h2 => ⟨Z2, ρ2, r3, ρ3, g2.fr, e5, fun Z3 H3 z g3 h3 => ?_⟩⟩
    obtain ⟨Z4, _, g4, rdz⟩ := fz_ok g3 h3 e6
    have h1' := (h1.go g1.fr g2).go g2.fr g4
    have hrv := rs_ok g4.fr h1' e7
    have hky := rs_ok g4.fr (h2.go g2.fr g4) e4
    cases d1 with
    | dict ks1 =>
      obtain ⟨o, eo, e8⟩ := Option.map_eq_some_iff.mp e8
      subst e8
      obtain ⟨a', ov, ea, g, es, hv⟩ := lk_ok hrv hky eo
      cases ea
      refine ⟨ov, g, q Z4 H3 _ ((g1.trans g2).trans g4) ?_⟩
      cases o with
      | none =>
        cases ov with
        | none => exact rdz
        | some _ => cases es
      | some d =>
        obtain ⟨v, rfl, r9⟩ := hv d rfl
        exact r9
    | _ => cases e8
/-! ### k in d, d[k] -/
def dinF (neg : Bool) : D → D → Option R
  | k, .dict ks => (lkA ks k).map fun o => .val (.bool (if neg then !o.isSome else o.isSome))
  | _, _ => none
def dixF : D → D → Option R
  | .dict ks, k => (lkA ks k).bind fun o => o.map R.val
  | _, _ => none
def rDin (K : KW) (neg : Bool) : R2 := fun y x H Q => ∃ a o, x = .ref a ∧ DLk K H a y o ∧ Q (.bl (if neg then !o.isSome else o.isSome)) H
def rDix (K : KW) : R2 := fun x y H Q => ∃ a v, x = .ref a ∧ DLk K H a y (some v) ∧ Q v H
theorem op_din (hu : X.A.units + 64 < cLine) : OpR X (compareOp .In) (rDin X.KW false) := by
  intro pins s σ H y x u v Q I ry rx h
  obtain ⟨a, ov, rfl, g, q⟩ := h
  cases rx
  rcases g with g | ⟨Z, xs, k, b, rfl, g, hk, rfl⟩
  · exact d_in (by omega) I g ry fun s3 I3 => ⟨.bl ov.isSome, H, I3, rfl, q⟩
  · cases ry
    exact dt_in (by unfold Room8; omega) I g hk fun s3 I3 => ⟨.bl (atV xs k).isSome, H, I3, rfl, q⟩
theorem op_dnin (hu : X.A.units + 64 < cLine) : OpR X (compareOp .NotIn) (rDin X.KW true) := by
  intro pins s σ H y x u v Q I ry rx h
  obtain ⟨a, ov, rfl, g, q⟩ := h
  cases rx
  rcases g with g | ⟨Z, xs, k, b, rfl, g, hk, rfl⟩
  · exact d_notIn (by omega) I g ry fun s3 I3 => ⟨.bl (!ov.isSome), H, I3, rfl, q⟩
  · cases ry
    exact dt_nin (by unfold Room8; omega) I g hk fun s3 I3 => ⟨.bl (!(atV xs k).isSome), H, I3, rfl, q⟩
theorem o_din {K : KW} {neg : Bool} : OpV K (dinF neg) (rDin K neg) := fun Z H x y d e r Q zl hx hy er k => by
  unfold dinF at er
  split at er
  · obtain ⟨o, eo, er⟩ := Option.map_eq_some_iff.mp er
    cases er
    obtain ⟨a, ov, rfl, g, es, _⟩ := lk_ok hy hx eo
    refine ⟨a, ov, rfl, g, ?_⟩
    rw [es]
    exact k Z H _ (.refl _ _) nr_bool
  · cases er
theorem DLk.typeIs {pins : List (Addr × Obj)} {σ : St} {H : Hp} {s : Shared} {a : Addr} {y : V} {o : Option V} (I : Inv X pins σ H s) (g : DLk X.KW H a y o) : s.TypeIs (.ref a) "dict" := by
  rcases g with g | ⟨Z, xs, k, b, rfl, g, hk, rfl⟩
  · exact dict_typeIs I g
  · exact g.typeIs I
theorem ix_dk (hu : X.A.units + 64 < cLine) : IxR X (rDix X.KW) := by
  intro value slice pins s σ H x y v u Q I rx ry h hs
  obtain ⟨a, w, rfl, g, q⟩ := h
  cases rx
  refine tail_any (g.typeIs I) PySem.F.slot_dict_getitem.lookup ?_ hs
  rcases g with g | ⟨Z, xs, k, b, rfl, g, hk, e⟩
  · exact d_getItem (by omega) I g ry fun w' s3 I3 rw' => ⟨w, H, I3, rw', q⟩
  · cases ry
    exact dt_get (by unfold Room8; omega) I g hk e fun w' s3 I3 rw' => ⟨w, H, I3, rw', q⟩
theorem o_dix {K : KW} : OpV K dixF (rDix K) := fun Z H x y d e r Q zl hx hy er k => by
  unfold dixF at er
  split at er
  · obtain ⟨o, eo, er⟩ := bnd er
    obtain ⟨d, ed, er⟩ := Option.map_eq_some_iff.mp er
    subst ed
    cases er
    obtain ⟨a, ov, rfl, g, es, hv⟩ := lk_ok hx hy eo
    obtain ⟨v, rfl, r9⟩ := hv d rfl
    exact ⟨a, v, rfl, g, k Z H v (.refl _ _) r9⟩
  · cases er
/-- {} -/
def mDict0 : ME := fun ρ => some (.own (.dct []), ρ)
theorem ce_dict0 {pos : Pos} : CE X (.Dict [] [] pos) mDict0 := pe_imp pe_dnewK fun σ H Q ⟨Z, ρ, r, ρ', fr, e, q⟩ p hp => by
  cases e
  have n : Nw Z H Z (upd H p (.dK [])) := Nw.upd hp
  have nz : ¬ Z p := fun z => fr.zl p z hp
  exact q Z _ _ (n.go fr) ⟨p, rfl, nz, fun w => fr.live w hp, ⟨[], upd_same, by simp only [dkv, List.map_nil, RDk]⟩, hp⟩
variable {a b : Expr} {ma mb : ME} {pos : Pos}
theorem ce_din (hu : X.A.units + 64 < cLine) (ha : CE X a ma) (hb : CE X b mb) (hm : behindInMarks .In b = false := by rfl) : CE X (.Compare a [.In] [b] pos) (mOpV (dinF false) ma mb) := ce_cmp (op_din hu) o_din ha hb hm
theorem ce_dnin (hu : X.A.units + 64 < cLine) (ha : CE X a ma) (hb : CE X b mb) (hm : behindInMarks .NotIn b = false := by rfl) : CE X (.Compare a [.NotIn] [b] pos) (mOpV (dinF true) ma mb) := ce_cmp (op_dnin hu) o_din ha hb hm
theorem ct_din (hu : X.A.units + 64 < cLine) (ha : CE X a ma) (hb : CE X b mb) (hm : behindInMarks .In b = false := by rfl) : CT X (.Compare a [.In] [b] pos) (mB (mOpV (dinF false) ma mb)) := ct_cmp (op_din hu) o_din ha hb hm
theorem ct_dnin (hu : X.A.units + 64 < cLine) (ha : CE X a ma) (hb : CE X b mb) (hm : behindInMarks .NotIn b = false := by rfl) : CT X (.Compare a [.NotIn] [b] pos) (mB (mOpV (dinF true) ma mb)) := ct_cmp (op_dnin hu) o_din ha hb hm
theorem ce_dix (hu : X.A.units + 64 < cLine) (ha : CE X a ma) (hb : CE X b mb) (hs : PlainIx b := by exact fun _ _ => rfl) : CE X (.Subscript a b pos) (mOpV dixF ma mb) := pe_imp (pe_ix (ix_dk hu) ha hb hs) (tE_OpV o_dix)
end
end Zl
end

-- ZKd
section
namespace Zl
open PySem PySem.Spec PyProof.Rows L2
/-! dicts and tuples that the module holds -/
def valOk : Value → D → Prop
  | .int i _, .int j => i = j
  | .str x _, .str y => x = y
  | .bool a, .bool b => a = b
  | .none, .none => True
  | _, _ => False
theorem valOk_rel {u : Value} {d : D} (h : valOk u d) : ∃ v, RelV v u ∧ ∀ (K : KW) (Z : AS) (H : Hp), RD K Z H d v := by
  unfold valOk at h
  split at h
  · subst h; exact ⟨.int _, ⟨_, rfl⟩, fun _ _ _ => by simp only [RD]⟩
  · subst h; exact ⟨.str _, ⟨_, rfl⟩, fun _ _ _ => by simp only [RD]⟩
  · subst h; exact ⟨.bl _, rfl, fun _ _ _ => by simp only [RD]⟩
  · exact ⟨.non, rfl, fun _ _ _ => by simp only [RD]⟩
  · exact h.elim
def EntOk (e : DictEntry) (p : Str × D) : Prop := (∃ t, e.key = .str p.1 t) ∧ valOk e.val p.2
def lkS (tb : List (Str × D)) (z : Str) : Option D := (tb.find? fun p => p.1 == z).map (·.2)
theorem tab_find {z : Str} : ∀ {es : List DictEntry} {tb : List (Str × D)}, Paired EntOk es tb → (es.any (·.refKey) = false) ∧ match lkS tb z with
    | some d => ∃ e, es.find? (·.key.isStr z) = some e ∧ valOk e.val d
    | none => es.find? (·.key.isStr z) = none
  | _, _, .nil => ⟨rfl, rfl⟩
  | e :: es, p :: tb, .cons h t => by
    obtain ⟨i1, i2⟩ := tab_find (z := z) t
    obtain ⟨⟨t0, hk⟩, hv⟩ := h
    have r0 : e.refKey = false := by unfold DictEntry.refKey; rw [hk]
    have s0 : e.key.isStr z = (p.1 == z) := by rw [hk]; rfl
    refine ⟨by rw [List.any_cons, r0, i1]; rfl, ?_⟩
    cases q : p.1 == z with
    | true =>
      have e1 : lkS (p :: tb) z = some p.2 := by simp [lkS, List.find?_cons, q]
      rw [e1]
      exact ⟨e, by rw [List.find?_cons, s0, q], hv⟩
    | false =>
      have e1 : lkS (p :: tb) z = lkS tb z := by simp [lkS, List.find?_cons, q]
      rw [e1, List.find?_cons, s0, q]
      exact i2
/-- the module's dict at d holds what the table tells -/
def KTab (K : PySem.W.Frag) (w : World) (d : Addr) (tb : List (Str × D)) : Prop := ∃ es n, KDict K w d es n ∧ Paired EntOk es.toList tb
theorem KTab.at {K : PySem.W.Frag} {w : World} {d : Addr} {tb : List (Str × D)} {es : Array DictEntry} {n : Nat} (D : KDict K w d es n) (h : Paired EntOk es.toList tb) (z : Str) :
    match lkS tb z with
    | some x => ∃ u v, PySem.W.nsIn K d z = some (some u) ∧ RelV v u ∧ ∀ (K : KW) (Z : AS) (H : Hp), RD K Z H x v
    | none => PySem.W.nsIn K d z = some none := by
  have hf := tab_find (z := z) h
  have e0 : PySem.W.nsIn K d z = (match es.toList.find? (·.key.isStr z) with
      | some e => some (some e.val)
      | none => if es.toList.any (·.refKey) then none else some none) := by
    unfold PySem.W.nsIn
    rw [D.at_]
    rfl
  cases q : lkS tb z with
  | some x =>
    have h2 := hf.2
    rw [q] at h2
    obtain ⟨e, e1, e2⟩ := h2
    obtain ⟨v, r, rd⟩ := valOk_rel e2
    exact ⟨e.val, v, by rw [e0, e1], r, rd⟩
  | none =>
    have h2 := hf.2
    rw [q] at h2
    simp only at h2
    show PySem.W.nsIn K d z = some none
    rw [e0, h2, hf.1]
    rfl
def strR : R → Option Str
  | .val (.str z) => some z
  | _ => none
theorem strR_rr {K : KW} {H0 : Hp} {Z : AS} {H : Hp} {ρ : Rho} {σ : St} {r : R} {z : Str} {v : V} (e : strR r = some z) (h : RR K H0 Z H ρ σ r v) : v = .str z := by
  unfold strR at e
  split at e
  · cases e
    have h : RD K Z H (.str z) v := h
    simpa only [RD] using h
  · cases e
def mKin (neg : Bool) (tb : List (Str × D)) (m : ME) : ME := fun ρ => (m ρ).bind fun p => (strR p.1).map fun z => (.val (.bool (if neg then !(lkS tb z).isSome else (lkS tb z).isSome)), p.2)
def mKix (tb : List (Str × D)) (m : ME) : ME := fun ρ => (m ρ).bind fun p => (strR p.1).bind fun z => (lkS tb z).map fun x => (.val x, p.2)
def mKget (tb : List (Str × D)) (mk mx : ME) : ME := fun ρ => (mk ρ).bind fun p => (strR p.1).bind fun z => (mx p.2).bind fun q => (fz q.2 q.1).map fun u => (.val ((lkS tb z).getD u.1), u.2)
section
variable {X : Cx} {x : Str} {d : Addr} {tb : List (Str × D)} {a e f : Expr} {pos p apos cpos : Pos} {m mk mx : ME}
theorem pe_kd (hg : Gl X x) (hm : X.mg x = some (.ref d)) (hd : (x == ("__debug__" : Str)) = false) : PE X (.Name x p) (tC (.ref d)) := pe_glob (v := .ref d) hg hm rfl hd
def rKin (K : PySem.W.Frag) (d : Addr) (neg : Bool) : R2 := fun x y H Q => ∃ (z : Str) (r : Option Value), x = .str z ∧ y = .ref d ∧ PySem.W.nsIn K d z = some r ∧ Q (.bl (if neg then !r.isSome else r.isSome)) H
theorem tE_kin {es : Array DictEntry} {n : Nat} {neg : Bool} (Dd : KDict X.K X.w d es n) (ht : Paired EntOk es.toList tb) : ∀ σ H Q, tE X.KW (mKin neg tb m) σ H Q → tOp (rKin X.K d neg) (tE X.KW m) (tC (.ref d)) σ H Q := fun σ H Q ⟨Z, ρ, r, ρ', fr, e, q⟩ => by
  obtain ⟨⟨r1, ρ1⟩, e1, e⟩ := bnd e
  obtain ⟨z, e2, e⟩ := Option.map_eq_some_iff.mp e
  cases e
  refine ⟨Z, ρ, r1, ρ1, fr, e1, fun Z1 H1 v g1 h1 => ?_⟩
  cases strR_rr e2 h1
  have hk := KTab.at Dd ht z
  cases h9 : lkS tb z with
  | none =>
    rw [h9] at hk q
    exact ⟨z, none, rfl, rfl, hk, q Z1 H1 _ g1 (by simp only [RR, RD]; rfl)⟩
  | some w =>
    rw [h9] at hk q
    obtain ⟨u, v, e3, _⟩ := hk
    exact ⟨z, some u, rfl, rfl, e3, q Z1 H1 _ g1 (by simp only [RR, RD]; rfl)⟩
theorem op_kin {es : Array DictEntry} {n : Nat} (Dd : KDict X.K X.w d es n) : OpR X (compareOp .In) (rKin X.K d false) := op_in_kd Dd
theorem op_knin {es : Array DictEntry} {n : Nat} (Dd : KDict X.K X.w d es n) : OpR X (compareOp .NotIn) (rKin X.K d true) := op_notIn_kd Dd
theorem ce_kin (hg : Gl X x) (hm : ∃ d, X.mg x = some (.ref d) ∧ KTab X.K X.w d tb) (ha : CE X a m) (hb : behindInMarks .In (.Name x p) = false := by rfl) (hd : (x == ("__debug__" : Str)) = false := by decide) : CE X (.Compare a [.In] [.Name x p] pos) (mKin false tb m) := by
  obtain ⟨d, hm, es, n, Dd, ht⟩ := hm
  exact pe_imp (pe_cmpR (op_kin Dd) ha (pe_kd hg hm hd) hb) (tE_kin Dd ht)
theorem ce_knin (hg : Gl X x) (hm : ∃ d, X.mg x = some (.ref d) ∧ KTab X.K X.w d tb) (ha : CE X a m) (hb : behindInMarks .NotIn (.Name x p) = false := by rfl) (hd : (x == ("__debug__" : Str)) = false := by decide) : CE X (.Compare a [.NotIn] [.Name x p] pos) (mKin true tb m) := by
  obtain ⟨d, hm, es, n, Dd, ht⟩ := hm
  exact pe_imp (pe_cmpR (op_knin Dd) ha (pe_kd hg hm hd) hb) (tE_kin Dd ht)
theorem ct_kin (hg : Gl X x) (hm : ∃ d, X.mg x = some (.ref d) ∧ KTab X.K X.w d tb) (ha : CE X a m) (hb : behindInMarks .In (.Name x p) = false := by rfl) (hd : (x == ("__debug__" : Str)) = false := by decide) : CT X (.Compare a [.In] [.Name x p] pos) (mB (mKin false tb m)) := by
  obtain ⟨d, hm, es, n, Dd, ht⟩ := hm
  exact pt_imp (pt_cmpR (op_kin Dd) ha (pe_kd hg hm hd) hb) fun σ H Q h => tE_kin Dd ht _ _ _ (tT_B _ _ _ h)
theorem ct_knin (hg : Gl X x) (hm : ∃ d, X.mg x = some (.ref d) ∧ KTab X.K X.w d tb) (ha : CE X a m) (hb : behindInMarks .NotIn (.Name x p) = false := by rfl) (hd : (x == ("__debug__" : Str)) = false := by decide) : CT X (.Compare a [.NotIn] [.Name x p] pos) (mB (mKin true tb m)) := by
  obtain ⟨d, hm, es, n, Dd, ht⟩ := hm
  exact pt_imp (pt_cmpR (op_knin Dd) ha (pe_kd hg hm hd) hb) fun σ H Q h => tE_kin Dd ht _ _ _ (tT_B _ _ _ h)
theorem ce_kix (hg : Gl X x) (hm : ∃ d, X.mg x = some (.ref d) ∧ KTab X.K X.w d tb) (ha : CE X a m) (hs : PlainIx a := by exact fun _ _ => rfl) (hd : (x == ("__debug__" : Str)) = false := by decide) : CE X (.Subscript (.Name x p) a pos) (mKix tb m) := by
  obtain ⟨d, hm, es, n, Dd, ht⟩ := hm
  refine pe_imp (pe_ix ix_kdict (pe_kd hg hm hd) ha hs) fun σ H Q ⟨Z, ρ, r, ρ', fr, e, q⟩ => ?_
  obtain ⟨⟨r1, ρ1⟩, e1, e⟩ := bnd e
  obtain ⟨z, e2, e⟩ := bnd e
  obtain ⟨y, e3, e⟩ := Option.map_eq_some_iff.mp e
  cases e
  refine ⟨Z, ρ, r1, ρ1, fr, e1, fun Z1 H1 v g1 h1 => ?_⟩
  cases strR_rr e2 h1
  have hk := KTab.at Dd ht z
  rw [e3] at hk
  obtain ⟨u, v, e4, rv, rd⟩ := hk
  exact ⟨d, z, v, rfl, rfl, ⟨es, n, u, Dd.at_, Dd.lit, e4, rv⟩, q Z1 H1 v g1 (rd _ Z1 H1)⟩
def tKget (K : PySem.W.Frag) (d : Addr) (ty tx : TE) : TE := fun σ H Q => ty σ H fun y H2 => tx σ H2 fun x H3 => ∃ z r, y = .str z ∧ PySem.W.nsIn K d z = some r ∧ match r with
  | some u => ∃ v, RelV v u ∧ Q v H3
  | none => Q x H3
theorem pe_kget {o : Expr} {es : Array DictEntry} {n : Nat} {ty tx : TE} (Dd : KDict X.K X.w d es n) (ho : PE X o (tC (.ref d))) (he : PE X e ty) (hf : PE X f tx) (m : M2 X o "get" apos e f cpos) : PE X (.Call (.Attribute o "get" apos) [e, f] [] cpos) (tKget X.K d ty tx) := by
  refine ⟨fun pins s σ H Q I h => ?_⟩
  refine wpAny_Call_method m.base m.few m.line PySem.F.plainAttrs_dict PySem.F.slot_dict_get PySem.F.type_dict_get (thn (ho.run pins s σ H (fun x H1 => x = .ref d ∧ H1 = H) I ⟨rfl, rfl⟩) fun u s1 ⟨x, H1, I1, rx, ex, eh⟩ => ?_)
  subst ex eh
  obtain rfl : u = Value.ref d := rx
  refine ⟨kd_type Dd I1, fun b q => ?_, ?_⟩
  · cases q
    exact ⟨_, I1.kIn _ _ Dd.at_, rfl⟩
  rw [m.trees]
  refine Calls.callWith_builtin rfl (Calls.evalArgs_plain (Calls.spliced_cons (thn (he.run pins s1 σ H1 _ I1 h) fun iv s2 ⟨y, H2, I2, ry, q2⟩ =>
    Calls.spliced_cons (thn (hf.run pins s2 σ H2 _ I2 q2) fun fv s3 ⟨z, H3, I3, rz, zz, r, ey, er, q3⟩ => Calls.spliced_nil ?_))))
  subst ey
  obtain ⟨t, rfl⟩ := ry
  have hmap := PySem.W.mapOf_K (prog := X.prog) (w := X.w) I3.kIn Dd.at_ Dd.lit
  refine call_meetsIn PySem.F.slot_dict_get hmap.typeIs PySem.F.entry_dict_get (PySem.F.args_dict_get_3 _ _ _) (meets_dict_get_default (strKind X.prog X.w) d (strKind_is X.prog X.w zz t) Dd.low fv) ⟨_, hmap, ?_⟩
  rw [PySem.W.find_K Dd.at_ er]
  cases r with
  | some u0 => obtain ⟨v, rv, q⟩ := q3; exact ⟨v, H3, I3.tok _, rv, q⟩
  | none => exact ⟨z, H3, I3.tok _, rz, q3⟩
theorem ce_kget (hg : Gl X x) (hm : ∃ d, X.mg x = some (.ref d) ∧ KTab X.K X.w d tb) (he : CE X e mk) (hf : CE X f mx) (m : M2 X (.Name x p) "get" apos e f cpos) (hd : (x == ("__debug__" : Str)) = false := by decide) : CE X (.Call (.Attribute (.Name x p) "get" apos) [e, f] [] cpos) (mKget tb mk mx) := by
  obtain ⟨d, hm, es, n, Dd, ht⟩ := hm
  refine pe_imp (pe_kget Dd (pe_kd hg hm hd) he hf m) fun σ H Q ⟨Z, ρ, r, ρ', fr, e, q⟩ => ?_
  obtain ⟨⟨r1, ρ1⟩, e1, e⟩ := bnd e
  obtain ⟨z, e2, e⟩ := bnd e
  obtain ⟨⟨r2, ρ2⟩, e3, e⟩ := bnd e
  obtain ⟨⟨u, ρ3⟩, e4, e⟩ := Option.map_eq_some_iff.mp e
  cases e
  refine ⟨Z, ρ, r1, ρ1, fr, e1, fun Z1 H1 y g1 h1 => ?_⟩
  cases strR_rr e2 h1
  refine ⟨Z1, ρ1, r2, ρ2, g1.fr, e3, fun Z2 H2 v g2 h2 => ?_⟩
  obtain ⟨Z3, _, g3, rd⟩ := fz_ok g2 h2 e4
  have hk := KTab.at Dd ht z
  cases h9 : lkS tb z with
  | none =>
    rw [h9] at hk q
    exact ⟨z, none, rfl, hk, q Z3 H2 v (g1.trans g3) rd⟩
  | some w =>
    rw [h9] at hk q
    obtain ⟨u, v, e5, rv, rd'⟩ := hk
    exact ⟨z, some u, rfl, e5, v, rv, q Z3 H2 v (g1.trans g3) (rd' _ Z3 H2)⟩
/-- a tuple that the module holds -/
theorem ce_gtup {ds : List D} (hg : Gl X x) (hm : ∃ d o its n, X.mg x = some (.ref d) ∧ X.K.lookup d = some o ∧ o.cls = .type "tuple" ∧ o.dict = none ∧ o.data = .seq its n ∧ its.size ≤ sizeLine ∧ Paired valOk its.toList ds) (hd : (x == ("__debug__" : Str)) = false := by decide) : CE X (.Name x p) (mC (.tuple ds)) := by
  obtain ⟨d, o, its, n, hm, hl, hc, hdn, hdt, hz, hp⟩ := hm
  have : ∀ {us : List Value} {ds : List D}, Paired valOk us ds → ∃ vs, Vals vs us ∧ ∀ Z H, RDs X.KW Z H ds vs := fun {us ds} h => by
    induction h with
    | nil => exact ⟨[], .nil, fun _ _ => by simp only [RDs]⟩
    | cons h t ih =>
      obtain ⟨v, r, rd⟩ := valOk_rel h
      obtain ⟨vs, rs, rds⟩ := ih
      exact ⟨v :: vs, .cons r rs, fun Z H => rds_cons (rd X.KW Z H) (rds Z H)⟩
  obtain ⟨vs, rv, rds⟩ := this hp
  exact ce_glob (v := .ref d) hg hm rfl (fun Z H => by
    simp only [RD]
    exact ⟨d, vs, rfl, .inr ⟨o, its, n, hl, hc, hdn, hdt, hz, rv⟩, rds Z H⟩) hd
end
end Zl
end

-- ZSx
section
namespace Zl
open PySem PySem.Spec PyProof.Rows L2
/-! strip of signs, max of a list -/
def stripF (z : Str) : List D → Option R
  | [.str b] => if z.length ≤ sizeLine then some (.val (.str (Txt.stripChars z b))) else none
  | _ => none
theorem ok_strip {K : KW} : OpM K stripF (fun x xs H Q => ∃ a b, x = .str a ∧ xs = [.str b] ∧ a.length ≤ sizeLine ∧ Q (.str (Txt.stripChars a b)) H) := fun Z H z vs ds r0 Q zl hv er k => by
  unfold stripF at er
  split at er
  · split at er
    · rename_i hz; cases er
      obtain ⟨v, rfl, hv'⟩ := rvs1 hv
      cases rv_str hv'
      exact ⟨z, _, rfl, rfl, hz, k Z H _ (.refl _ _) nr_str⟩
    · cases er
  · cases er
section
variable {X : Cx} {apos cpos : Pos} {o e : Expr} {me : ME} {ms : MA}
theorem ce_strip (ho : CE X o me) (ha : CA X [e] ms) (hbase : attributeBase o "strip" X.env (eval o X.env) = eval o X.env := by rfl)
    (hfew : ((backTo cpos (starEach [e] X.env)).all (fun x => !x.1) && (backToKw cpos (keywordEach [] X.env)).all (fun x => x.1.isSome) && decide ([e].length + ([] : List Keyword).length + (if ([] : List Keyword).isEmpty then 0 else 1) < 30)) = true := by rfl)
    (hline : (apos.endLine == cpos.line) = true := by rfl) (hs : starEach [e] X.env = (false, eval e X.env) :: starEach [] X.env := by rfl) (hplain : (backTo cpos (starEach [] X.env)).any (·.1) = false := by rfl) :
    CE X (.Call (.Attribute o "strip" apos) [e] [] cpos) (mSM stripF me ms) := ce_sm PySem.F.slot_str_strip PySem.F.type_str_strip mt_stripChars ok_strip ho ha hbase hfew hline hs hplain
end
def mxI : List Int → Int
  | [] => 0
  | [a] => a
  | a :: b :: r => if mxI (b :: r) ≤ a then a else mxI (b :: r)
theorem mxI_mem : ∀ {ns : List Int}, ns ≠ [] → mxI ns ∈ ns
  | [], h => (h rfl).elim
  | [a], _ => by simp [mxI]
  | a :: b :: r, _ => by
    unfold mxI
    split
    · exact List.mem_cons_self
    · exact List.mem_cons_of_mem _ (mxI_mem (fun z => nomatch z))
theorem mxI_ge : ∀ {ns : List Int} {y : Int}, y ∈ ns → y ≤ mxI ns
  | [a], y, h => by rw [List.mem_singleton.mp h]; exact Int.le_refl _
  | a :: b :: r, y, h => by
    unfold mxI
    rcases List.mem_cons.mp h with rfl | h
    · split <;> omega
    · have := mxI_ge h
      split <;> omega
def maxLF : List D → Option R
  | [.list ds] => (intsOf ds).bind fun ns => if ns = [] then none else some (.val (.int (mxI ns)))
  | _ => none
theorem o_maxL {K : KW} : OpL K maxLF (rMax K) := fun Z H vs ds r Q zl hx er k => by
  unfold maxLF at er
  split at er
  · obtain ⟨ns, eb, er⟩ := bnd er
    split at er
    · cases er
    · rename_i hne; cases er
      obtain ⟨v, rfl, p, vs, rfl, hq, hd⟩ := rvs1 hx
      cases ints_vs hd eb
      refine ⟨p, ns, rfl, hq, List.length_pos_iff.mpr hne, fun m hm hge => ?_⟩
      have e1 := mxI_ge hm
      have e2 := hge _ (mxI_mem hne)
      have : m = mxI ns := by omega
      subst this
      exact k Z H _ (.refl _ _) nr_int
  · cases er
theorem ce_maxL {X : Cx} {e : Expr} {p pos : Pos} {ms : MA} (hc : X.calm = true) (hg : Gl X "max") (hm : X.mg "max" = none) (ha : CA X [e] ms) (he : starEach [e] X.env = (false, eval e X.env) :: starEach [] X.env := by rfl) : CE X (.Call (.Name "max" p) [e] [] pos) (mCB maxLF ms) :=
  ce_callB (cr_max hc) o_maxL PyProof.Rows.boot_max hg hm ha (he := he)
end Zl
end

-- ZTxs
section
/-! sets of texts: made of a list, added to, sorted -/
namespace Zx
open PySem PySem.Spec PyProof.Rows L2

def kOf (e : Int × Value) : Str := match e.2 with | .str x _ => x | _ => Str.empty
def Good (w : World) (e : Int × Value) : Prop := ∃ x tk, e.2 = Value.str x tk ∧ e.1 = hashStr w x
/-- the set at a, whose members are the texts of L -/
def SetX (w : World) (h : Heap) (a : Addr) (L : List Str) : Prop :=
  ∃ o es ep t, h.get? a = some o ∧ o.ExactSet ∧ o.data = .set es ep t ∧ (∀ e ∈ es.toList, Good w e) ∧ (es.toList.map kOf).Nodup ∧ (∀ k, k ∈ L ↔ k ∈ es.toList.map kOf) ∧
    es.size ≤ L.length ∧ L.length < scanBound ∧ t.fits es.size = true ∧ Ris t.place.toList ∧ (w.params.followText "set-order" = true ∨ t.led = true)
section
variable {P : Program} {w : World} {h h' : Heap} {a : Addr} {L : List Str}
theorem SetX.at (R : SetX w h a L) (k : ∀ o, h.get? a = some o → h'.get? a = some o) : SetX w h' a L := by
  obtain ⟨o, es, ep, t, ho, r⟩ := R
  exact ⟨o, es, ep, t, k o ho, r⟩
theorem good_elems {l : List (Int × Value)} (g : ∀ e ∈ l, Good w e) : ElemsOf (PySem.strKind P w) l := fun e he => by
  obtain ⟨k, tk, h1, h2⟩ := g e he
  exact ⟨⟨k, by rw [h1]; exact strKind_is P w k tk, h2⟩, by rw [h1] <;> rfl⟩
theorem good_is {e : Int × Value} (g : Good w e) (k : Str) : (PySem.strKind P w).is k e.2 = true ↔ kOf e = k := by
  obtain ⟨k0, tk, h1, _⟩ := g
  unfold kOf
  rw [h1]
  constructor
  · intro q
    have q' : Value.isStrOf k (Value.str k0 tk) = true := q
    obtain ⟨t, e⟩ := Value.isStrOf_shape q'
    injection e
  · rintro rfl
    exact strKind_is P w _ tk
theorem good_mem {l : List (Int × Value)} (g : ∀ e ∈ l, Good w e) (k : Str) : k ∈ l.map kOf ↔ ∃ e ∈ l, (PySem.strKind P w).is k e.2 = true := by
  rw [List.mem_map]
  constructor
  · rintro ⟨e, he, q⟩
    exact ⟨e, he, (good_is (P := P) (g e he) k).2 q⟩
  · rintro ⟨e, he, q⟩
    exact ⟨e, he, (good_is (g e he) k).1 q⟩
theorem SetX.fresh (w : World) (ho : h.get? a = some { cls := .type "set", dict := none, data := .set #[] 0 (.fresh 0 0 (!w.params.followText "set-order")) }) : SetX w h a [] :=
  ⟨_, #[], 0, _, ho, ⟨rfl, rfl, rfl⟩, rfl, (fun e he => by simp at he), (by simp), (fun k => by simp), (by simp), (by decide), (by rfl), List.Pairwise.nil, by
    show _ ∨ (!w.params.followText "set-order") = true
    cases w.params.followText "set-order"
    · exact .inr rfl
    · exact .inl rfl⟩
end
section
variable {P : Program} {w : World} {A : Around} {E : Value → Shared → Prop} {s : Shared} {a : Addr} {L : List Str}
theorem add_tail {g : Bool → Sem Unit} (hg : ∀ (b : Bool) (s₁ : Shared) (Q' : Unit → Shared → Prop), Q' () s₁ → wpAny (model P w) A (g b) Q' E s₁)
    {o : Obj} {es : Array (Int × Value)} {ep : Nat} {t : SetTable} (ho : s.heap.get? a = some o) (hex : o.ExactSet) (hd : o.data = .set es ep t)
    {es1 : Array (Int × Value)} {t2 : SetTable} {L' : List Str} (g1 : ∀ e ∈ es1.toList, Good w e) (nd1 : (es1.toList.map kOf).Nodup) (m1 : ∀ k, k ∈ L' ↔ k ∈ es1.toList.map kOf)
    (hz : es1.size ≤ L'.length) (hb1 : L'.length < scanBound) (hf2 : t2.fits es1.size = true) (hr : Ris t2.place.toList) (hl : w.params.followText "set-order" = true ∨ t2.led = true) {wasDummy : Bool} {R : Option Bool → Shared → Prop}
    (hR : ∀ h', Heap.SameBut a s.heap h' → SetX w h' a L' → R (some true) { s with heap := h' }) :
    wpAny (model P w) A (do
        storeSet a es1 t2
        if (!wasDummy && t2.tooFull) = true then do
            g (relayAll t2 es1 (SetTable.grown es1.size)).2.2
            storeSet a (relayAll t2 es1 (SetTable.grown es1.size)).1 (relayAll t2 es1 (SetTable.grown es1.size)).2.1
            pure (some true)
          else pure (some true)) R E s := by
  have hbs : es1.size < scanBound := by omega
  refine wpAny_bind (wpAny_storeSet_of ho hd ?_ (fits_of_scanBound hbs))
  have ho1 := store_at (es' := es1) (t' := t2) ho hd
  have sb1 := Heap.SameBut.update s.heap a (Obj.putSet es1 t2)
  split
  · have pm := relayAll_perm t2 es1 (SetTable.grown es1.size)
    have hf3 := relayAll_fits t2 es1 (SetTable.grown es1.size)
    have hr3 := relayAll_ris t2 es1 (SetTable.grown es1.size)
    have hl3 := relayAll_led t2 es1 (SetTable.grown es1.size)
    generalize relayAll t2 es1 (SetTable.grown es1.size) = Z at pm hf3 hr3 hl3 ⊢
    obtain ⟨es2, t3, gave⟩ := Z
    dsimp only at pm hf3 hr3 hl3 ⊢
    have hsz : es2.size = es1.size := by rw [← Array.length_toList, pm.length_eq, Array.length_toList]
    have hb2 : es2.size < scanBound := by rw [hsz]; exact hbs
    refine wpAny_bind (hg _ _ _ ?_)
    refine wpAny_bind (wpAny_storeSet_of ho1 rfl ?_ (fits_of_scanBound hb2))
    have ho2 := store_at (es' := es2) (t' := t3) ho1 rfl
    refine wpAny_pure (hR _ (sb1.trans (Heap.SameBut.update _ a _)) ?_)
    exact ⟨_, es2, _, t3, ho2, hex, rfl, fun e he => g1 e (pm.mem_iff.mp he), (pm.map kOf).nodup_iff.mpr nd1, fun k => (m1 k).trans (pm.map kOf).mem_iff.symm, by omega, hb1, hf3, hr3,
      hl.imp id fun z => by rw [hl3]; exact z⟩
  · exact wpAny_pure (hR _ sb1 ⟨_, es1, _, t2, ho1, hex, rfl, g1, nd1, m1, hz, hb1, hf2, hr, hl⟩)
theorem add_hashed {k : Str} {tk : Tok} {Q : Bool → Shared → Prop} (R : SetX w s.heap a L) (room : L.length + 1 < scanBound)
    (hQ : ∀ b h', Heap.SameBut a s.heap h' → SetX w h' a (L ++ [k]) → Q b { s with heap := h' }) :
    wpAny (model P w) A (setAddHashed a (.str k tk) ((PySem.strKind P w).hash k)) Q E s := by
  obtain ⟨o, es, ep, t, ho, hex, hd, g, nd, hm, hz, hbL, hf, hr, hl⟩ := R
  have hb : es.size < scanBound := by omega
  have hkey : (PySem.strKind P w).is k (.str k tk) = true := strKind_is P w k tk
  have hsc : (Value.str k tk).scannable = true := rfl
  have hel : ElemsOf (PySem.strKind P w) es.toList := good_elems g
  unfold setAddHashed setAddHashedIn
  refine wpAny_holding (wpAny_bind (wpAny_setState_of ho hd hf ?_))
  dsimp only
  rw [byScan_of hsc hb hel]
  simp only [↓reduceIte]
  unfold setAddByScan
  refine wpAny_bind ?_
  refine wpAny_bind (wpAny_rule ?_)
  refine wpAny_bind (wpAny_setScan_of hkey ho hd hf hel ?_)
  have hlen : (L ++ [k]).length = L.length + 1 := by simp
  cases hfi : List.findIdx? (fun e => (PySem.strKind P w).is k e.2) es.toList with
  | some j =>
    dsimp only
    obtain ⟨hj, pj, _⟩ := List.findIdx?_eq_some_iff_getElem.mp hfi
    have hk : k ∈ es.toList.map kOf := (good_mem (P := P) (w := w) g k).2 ⟨es.toList[j], List.getElem_mem hj, pj⟩
    refine wpAny_pure (wpAny_pure ?_)
    exact hQ _ s.heap (Heap.SameBut.refl a s.heap) ⟨o, es, ep, t, ho, hex, hd, g, nd, fun i => by
      rw [List.mem_append, List.mem_singleton, ← hm i]
      exact ⟨fun z => z.elim id (fun e => e ▸ (hm k).2 hk), .inl⟩, by omega, by omega, hf, hr, hl⟩
  | none =>
    dsimp only
    have hnk : k ∉ es.toList.map kOf := fun z => by
      obtain ⟨e, he, q⟩ := (good_mem (P := P) (w := w) g k).1 z
      have c := List.findIdx?_eq_none_iff.mp hfi e he
      rw [q] at c
      cases c
    have hgw : ∀ (b : Bool) {s₁ : Shared} {Q' : Unit → Shared → Prop}, Q' () s₁ → wpAny (model P w) A (match b with | true => rule "set.scan.the-table-gave-way" | false => pure ()) Q' E s₁ :=
      fun b s₁ Q' q => by cases b <;> first | exact wpAny_pure q | exact wpAny_rule q
    have pm := layNew_perm t es ((PySem.strKind P w).hash k) (.str k tk)
    have hf1 := layNew_fits t es ((PySem.strKind P w).hash k) (.str k tk)
    have hr1 := layNew_ris t es ((PySem.strKind P w).hash k) (.str k tk) hr
    have hl1 := layNew_led t es ((PySem.strKind P w).hash k) (.str k tk)
    generalize layNew t es ((PySem.strKind P w).hash k) (.str k tk) = Z at pm hf1 hr1 hl1 ⊢
    obtain ⟨es1, t1, wasDummy, gave⟩ := Z
    dsimp only at pm hf1 hr1 hl1 ⊢
    rw [Array.toList_push] at pm
    have pc : es1.toList.Perm (((PySem.strKind P w).hash k, Value.str k tk) :: es.toList) := pm.trans (List.perm_append_singleton _ _)
    have pk : (es1.toList.map kOf).Perm (k :: es.toList.map kOf) := pc.map kOf
    have g1 : ∀ e ∈ es1.toList, Good w e := fun e he => by
      rcases List.mem_cons.mp (pc.mem_iff.mp he) with z | z
      · rw [z]; exact ⟨k, tk, rfl, rfl⟩
      · exact g e z
    have nd1 : (es1.toList.map kOf).Nodup := pk.nodup_iff.mpr (List.nodup_cons.mpr ⟨hnk, nd⟩)
    have m1 : ∀ i, i ∈ L ++ [k] ↔ i ∈ es1.toList.map kOf := fun i => by
      rw [List.mem_append, List.mem_singleton, hm i, pk.mem_iff, List.mem_cons]
      exact Or.comm
    have hsz : es1.size = es.size + 1 := by rw [← Array.length_toList, pc.length_eq, List.length_cons, Array.length_toList]
    have hz1 : es1.size ≤ (L ++ [k]).length := by omega
    have hb1 : (L ++ [k]).length < scanBound := by omega
    have hled : w.params.followText "set-order" = true ∨ t1.led = true := hl.imp id fun z => by rw [hl1]; exact z
    refine wpAny_bind (hgw _ ?_)
    split
    · refine wpAny_bind ?_
      rw [hashByValue_scannable 8 hsc]
      refine wpAny_pure ?_
      refine add_tail (L' := L ++ [k]) ?_ ho hex hd g1 nd1 m1 hz1 hb1 ?_ ?_ ?_ ?_
      · intro b s₁ Q' q; cases b <;> first | exact wpAny_pure q | exact wpAny_rule q
      · first | (split <;> first | exact hf1 | exact SetTable.fits_plain_off hf1) | exact hf1
      · first | (split <;> exact hr1) | exact hr1
      · first | (split <;> exact hled) | exact hled
      · intro h' sb r; dsimp only; exact wpAny_pure (hQ _ h' sb r)
    · refine wpAny_bind (wpAny_pure ?_)
      simp only [↓reduceIte]
      refine add_tail (L' := L ++ [k]) ?_ ho hex hd g1 nd1 m1 hz1 hb1 hf1 hr1 hled ?_
      · intro b s₁ Q' q; cases b <;> first | exact wpAny_pure q | exact wpAny_rule q
      · intro h' sb r; dsimp only; exact wpAny_pure (hQ _ h' sb r)
theorem update_strs {I : Addr} {fp wr : List Addr} {G : Array GenState → Array GenState → Prop} {n : Nat} {Pv : Nat → Value → Prop} {St : Nat → Shared → Prop} {R : Result → Shared → Prop}
    (W : WalksS P w A.in1 I fp wr G n Pv St) (S : Addr) (hSf : S ∉ fp) (ns : List Str) (hn : n = ns.length) (hb : ns.length + 1 < scanBound) (hval : ∀ i v, Pv i v → ∃ k t, ns[i]? = some k ∧ v = .str k t) :
    ∀ (k i : Nat) (s : Shared), n - i = k → i ≤ n → St i s → SetX w s.heap S (ns.take i) →
      (∀ s', Moved (S :: wr) G s s' → SetX w s'.heap S ns → R (.ok (.ret .none)) s') →
      codeAny (model P w) A (.builtin "set.update.loop" ⟨[.ref S, .ref I], []⟩) R s := by
  have hSw : S ∉ wr := fun h => hSf (W.sub _ h)
  have hsub : ∀ b ∈ wr, b ∈ S :: wr := fun b hb => List.mem_cons_of_mem _ hb
  intro k
  induction k with
  | zero =>
    intro i s hk' hi hst hS hR
    have hin : i = n := by omega
    subst hin
    refine codeAny_builtin F.entry_set_update_loop ?_
    rw [Around.under_plainId F.plain_set_update_loop _]
    show wpAny _ A.in1 (pyNext (.ref I) >>= _) _ _ s
    refine wpAny_bind (W.done s _ _ hst fun s' hm => ?_)
    show wpAny _ A.in1 (ret Value.none) _ _ s'
    have e : ns.take i = ns := List.take_of_length_le (by omega)
    rw [e] at hS
    exact wpAny_pure (hR s' (hm.mono hsub) (hS.at fun o e => hm.heap S o hSw e))
  | succ k ih =>
    intro i s hk' hi hst hS hR
    have hlt : i < n := by omega
    refine codeAny_builtin F.entry_set_update_loop ?_
    rw [Around.under_plainId F.plain_set_update_loop _]
    show wpAny _ A.in1 (pyNext (.ref I) >>= _) _ _ s
    refine wpAny_bind (W.item i s _ _ hlt hst fun v s' hP hst' hm => ?_)
    obtain ⟨z, t, hz, rfl⟩ := hval i v hP
    have hS' : SetX w s'.heap S (ns.take i) := hS.at fun o e => hm.heap S o hSw e
    show wpAny _ A.in1 (holding [Value.str z t] (setAdd S (.str z t)) >>= _) _ _ s'
    refine wpAny_bind (wpAny_holding ?_)
    unfold setAdd
    refine wpAny_holding ?_
    refine wpAny_bind ((PySem.strKind P w).pyHash (k := z) (strKind_is _ _ _ _) ?_)
    refine add_hashed (s := { s' with toks := s'.toks + 1 }) hS' (by rw [List.length_take]; omega) fun b h' hsb hS2 => ?_
    have hS3 : SetX w h' S (ns.take (i + 1)) := by
      rw [List.take_add_one, hz]
      exact hS2
    refine wpAny_pure ⟨plainId_quiet F.plain_set_update_loop _, ih (i + 1) _ (by omega) hlt (W.frame _ s' _ _ hst' (Nat.le_succ _) fun b hb o e => ?_) hS3 fun s'' hm'' hS'' => ?_⟩
    · rw [hsb.2 b (fun h : b = S => hSf (by rw [← h]; exact hb))]; exact e
    · refine hR s'' (Moved.trans W.gtrans ((hm.mono hsub).then_heap (Nat.le_succ _) fun b o hb e => ?_) hm'') hS''
      rw [hsb.2 b (fun h : b = S => hb (by rw [h]; exact List.mem_cons_self))]; exact e
/-- set(xs), by what its update makes of a bare set -/
theorem call_setG {l : Addr} {items : Array Value} {FF : Heap → Addr → Prop} {Q : Value → Shared → Prop} (hh : A.handled = none) (hl : s.heap.IsList l items)
    (upd : ∀ {A : Around} {I : Addr} {fp wr : List Addr} {G : Array GenState → Array GenState → Prop} {n : Nat} {Pv : Nat → Value → Prop} {St : Nat → Shared → Prop} {R : Result → Shared → Prop} (_ : WalksS P w A.in1 I fp wr G n Pv St) (S : Addr) (_ : S ∉ fp) (_ : n = items.size)
      (_ : ∀ i v, Pv i v → items[i]? = some v) (s : Shared) (_ : St 0 s) (_ : s.heap.get? S = some { cls := .type "set", dict := none, data := .set #[] 0 (.fresh 0 0 (!w.params.followText "set-order")) }) (_ : ∀ s', Moved (S :: wr) G s s' → FF s'.heap S → R (.ok (.ret .none)) s'),
      codeAny (model P w) A (.builtin "set.update.loop" ⟨[.ref S, .ref I], []⟩) R s)
    (h : ∀ (h' : Heap) (tk : Nat), FF h' s.heap.objs.size → (∀ b o, s.heap.get? b = some o → h'.get? b = some o) → Q (.ref s.heap.objs.size) { s with heap := h', toks := tk }) :
    wpAny (model P w) A (call (.type "set") [.ref l]) Q E s := by
  obtain ⟨c, tl, hmro⟩ := F.called_set.mro
  have hmade := F.called_set.made
  have hsub := F.called_set.sub
  refine wpAny_call (codeAny_of_tree ?_)
  show wpAny _ _ (callAny (.type "set") _) _ _ _
  refine wpAny_pure ⟨Code.quiet_builtin _ (by decide +kernel), codeAny_builtin F.entry_type_call ?_⟩
  rw [Around.under_plain (weight_type_call_type "set" [.ref l] []) rfl]
  have h1 := F.called_set.notType
  have h2 := F.called_set.canCreate
  have hct := F.typeCall_set_1 (.ref l)
  repeat (any_goals (first | assumption | wp_step))

  refine codeAny_mono (code_set_led1 (.ref l) (E := E) (Q₁ := fun obj s₁ => obj = .ref s.heap.objs.size ∧ s₁ = { s with heap := s.heap.push { cls := .type "set", dict := none, data := .set #[] 0 (.fresh 0 0 (!w.params.followText "set-order")) } }) ⟨rfl, rfl⟩) fun r s₁ hr => ?_
  cases r with
  | error e => exact hr
  | ok fl =>
    cases fl with
    | ret obj =>
      obtain ⟨rfl, rfl⟩ := hr
      have hS : (s.heap.push { cls := .type "set", dict := none, data := .set #[] 0 (.fresh 0 0 (!w.params.followText "set-order")) }).get? s.heap.objs.size = some { cls := .type "set", dict := none, data := .set #[] 0 (.fresh 0 0 (!w.params.followText "set-order")) } := Heap.get?_push_size _ rfl
      have hT : Shared.TypeIs { s with heap := s.heap.push { cls := .type "set", dict := none, data := .set #[] 0 (.fresh 0 0 (!w.params.followText "set-order")) } } (.ref s.heap.objs.size) "set" := ⟨_, hS, rfl⟩
      have hli := F.called_set.init.lookup
      have hbi := F.called_set.init.bind (.ref s.heap.objs.size)
      repeat (any_goals (first | assumption | wp_step))

      refine codeAny_mono (codeAny_call_builtin (R := wants (fun r s₂ => r = .none ∧ ∃ h' tk, s₂ = { s with heap := h', toks := tk } ∧ FF h' s.heap.objs.size ∧
          (∀ b o, s.heap.get? b = some o → h'.get? b = some o)) E) F.called_set.init.plain F.entry_set_init (check_set_init_1 hT ?_)) fun r₂ s₂ hr₂ => ?_
      · obtain ⟨ol, hol, hcl, nl, hdl⟩ := hl
        obtain ⟨ocls, odict, odata, oslots⟩ := ol
        simp only at hcl hdl
        subst hcl; subst hdl
        have hol' : (s.heap.push { cls := .type "set", dict := none, data := .set #[] 0 (.fresh 0 0 (!w.params.followText "set-order")) }).get? l = some { cls := .type "list", dict := odict, data := .seq items nl, slots := oslots } := Heap.get?_push_of_some _ hol
        have hsls := F.sub_list_set
        have hslf := F.sub_list_frozenset
        have hne : (Value.type "list" == Value.type "dict") = false := by decide
        have hl1 : (s.heap.push { cls := .type "set", dict := none, data := .set #[] 0 (.fresh 0 0 (!w.params.followText "set-order")) }).IsList l items := ⟨_, hol', rfl, nl, rfl⟩
        unfold Builtin.«set.__init__» noKeywords Builtin.Frozenset.updateFrom
        generalize hPI : pyIter = PI
        wp_walk
        subst hPI

        refine wpAny_pyIter_list hl1 ?_
        refine wpAny_bind (wpAny_runValue ?_)
        have hlS : l < s.heap.objs.size := Heap.lt_size hol
        have hh3 : A.in1.in1.in1.handled = none := by simp [hh]
        have hneI : l ≠ (s.heap.push { cls := .type "set", dict := none, data := .set #[] 0 (.fresh 0 0 (!w.params.followText "set-order")) }).objs.size := by
          rw [Heap.size_push]; exact Nat.ne_of_lt (Nat.lt_succ_of_lt hlS)
        have hSf : s.heap.objs.size ∉ [(s.heap.push { cls := .type "set", dict := none, data := .set #[] 0 (.fresh 0 0 (!w.params.followText "set-order")) }).objs.size, l] := by
          rw [Heap.size_push]; simp only [List.mem_cons, List.mem_singleton, List.not_mem_nil, or_false, not_or]
          exact ⟨Nat.ne_of_lt (Nat.lt_succ_self _), Nat.ne_of_gt hlS⟩
        refine upd ((Walks.list hh3 _ l hneI items).toS) s.heap.objs.size hSf rfl (fun i v h => h) _ ⟨⟨_, Heap.get?_push_size _ rfl, rfl, rfl⟩, (hl1.push _)⟩ (Heap.get?_push_of_some _ hS) ?hR
        case hR =>
          intro s' hm hS'
          obtain ⟨h', g2, d', tk', os'⟩ := s'
          have eg : g2 = s.gens := hm.gens
          have ed : d' = s.drawn := hm.drawn
          have eo : os' = s.os := hm.os
          subst eg; subst ed; subst eo
          show wpAny _ _ _ _ _ _
          refine wpAny_pure ?_
          show wpAny _ _ (ret Value.none) _ _ _
          refine wpAny_pure ⟨rfl, h', tk', rfl, hS', fun b o e => ?_⟩
          have hb0 : b < s.heap.objs.size := Heap.lt_size e
          have hb1 : b ≠ s.heap.objs.size := Nat.ne_of_lt hb0
          have hb2 : b ≠ (s.heap.push { cls := .type "set", dict := none, data := .set #[] 0 (.fresh 0 0 (!w.params.followText "set-order")) }).objs.size := by
            rw [Heap.size_push]; exact Nat.ne_of_lt (Nat.lt_succ_of_lt hb0)
          exact hm.heap b o (by simp only [List.mem_cons, List.mem_singleton, List.not_mem_nil, or_false, not_or]; exact ⟨hb1, hb2⟩) (Heap.get?_push_of_some _ (Heap.get?_push_of_some _ e))

      · cases r₂ with
        | error e => exact hr₂
        | ok fl₂ =>
          cases fl₂ with
          | ret r =>
            obtain ⟨rfl, h', tk, rfl, hS', hk'⟩ := hr₂
            repeat (any_goals (first | assumption | wp_step))
            exact h _ _ hS' hk'
          | _ => exact hr₂.elim
    | _ => exact hr.elim
theorem call_set {l : Addr} {items : Array Value} (ns : List Str) {Q : Value → Shared → Prop} (hh : A.handled = none) (hl : s.heap.IsList l items) (hit : StrsAre items.toList ns) (hb : ns.length + 1 < scanBound)
    (h : ∀ (h' : Heap) (tk : Nat), SetX w h' s.heap.objs.size ns → (∀ b o, s.heap.get? b = some o → h'.get? b = some o) → Q (.ref s.heap.objs.size) { s with heap := h', toks := tk }) :
    wpAny (model P w) A (call (.type "set") [.ref l]) Q E s := by
  have hisz : items.size = ns.length := by
    have q := StrsAre.len_eq hit
    rw [Array.length_toList] at q
    exact q
  refine call_setG (FF := fun h S => SetX w h S ns) hh hl (fun {A I fp wr G n Pv St R} W S hSf hn hv s hst hS hR => ?_) h
  refine update_strs W S hSf ns (hn.trans hisz) hb (fun i v hp => ?_) n 0 s (by omega) (Nat.zero_le _) hst (SetX.fresh w hS) hR
  have hv' := hv i v hp
  have hi : i < ns.length := by rw [← hisz]; exact (Array.getElem?_eq_some_iff.mp hv').1
  obtain ⟨t, e⟩ := SS.strs_at hit i v (by rw [Array.getElem?_toList]; exact hv')
  refine ⟨ns[i], t, List.getElem?_eq_getElem hi, ?_⟩
  rw [e, List.getD_eq_getElem?_getD, List.getElem?_eq_getElem hi] <;> rfl
theorem call_setI {l : Addr} {items : Array Value} (ns : List Int) {Q : Value → Shared → Prop} (hh : A.handled = none) (hl : s.heap.IsList l items) (hit : IntsAre items.toList ns) (hb : ns.length + 1 < scanBound)
    (h : ∀ (h' : Heap) (tk : Nat), (∃ c, c ≤ ns.length ∧ SetR w h' s.heap.objs.size (fun j => decide (j ∈ ns)) c) → (∀ b o, s.heap.get? b = some o → h'.get? b = some o) → Q (.ref s.heap.objs.size) { s with heap := h', toks := tk }) :
    wpAny (model P w) A (call (.type "set") [.ref l]) Q E s := by
  have hisz : items.size = ns.length := by
    have q := IntsAre.length hit
    rw [Array.length_toList] at q
    exact q
  refine call_setG (FF := fun h S => ∃ c, c ≤ ns.length ∧ SetR w h S (fun j => decide (j ∈ ns)) c) hh hl (fun {A I fp wr G n Pv St R} W S hSf hn hv s hst hS hR => ?_) h
  refine set_update_ints W S hSf ns (hn.trans hisz) hb (fun i v hp => ?_) n 0 s (by omega) (Nat.zero_le _) hst ⟨0, Nat.le_refl 0, setR_new_at hS⟩ fun s' c hm hc hr => hR s' hm ⟨c, by omega, hr⟩
  have hv' := hv i v hp
  have hi : i < ns.length := by rw [← hisz]; exact (Array.getElem?_eq_some_iff.mp hv').1
  obtain ⟨t, e⟩ := PyProof.Rows.IntsAre.int_at hit i v (by rw [Array.getElem?_toList]; exact hv')
  refine ⟨ns[i], t, List.getElem?_eq_getElem hi, ?_⟩
  rw [e, List.getD_eq_getElem?_getD, List.getElem?_eq_getElem hi] <;> rfl
theorem strs_of_good : ∀ (l : List Value), (∀ v ∈ l, ∃ k tk, v = Value.str k tk) → StrsAre l (l.map strOf)
  | [], _ => .nil
  | v :: l, h => by
    obtain ⟨k, tk, rfl⟩ := h v List.mem_cons_self
    exact .cons k tk (strs_of_good l fun u hu => h u (List.mem_cons_of_mem _ hu))
/-- sorted(a set of texts) -/
theorem sorted_setX {Q : Value → Shared → Prop} (R : SetX w s.heap a L) (hh : A.handled = none) (hL : L.length ≤ 1000)
    (hQ : ∀ s' p (out : Array Value) (c : Nat) (ns : List Str), (∀ b o, s.heap.get? b = some o → s'.heap.get? b = some o) → s'.gens = s.gens → s'.os = s.os → s.heap.objs.size ≤ p →
      s'.heap.get? p = some (seqObj "list" out c) → StrsAre out.toList ns → sortedS ns = true → ns.Nodup → (∀ k, k ∈ ns ↔ k ∈ L) → Q (.ref p) s') :
    wpAny (model P w) A (call (.builtin "sorted") [.ref a]) Q E s := by
  obtain ⟨o, es, ep, t, ho, hex, hd, g, nd, hm, hz, hbL, hf, hr, hl⟩ := R
  have hb : es.size < scanBound := by omega
  refine Calls.call_function_entry kind_sorted plain_sorted entry_sorted (args_sorted1 _) ?_
  unfold Builtin.«sorted»
  refine wpAny_bind (m := checkCount "sorted" 1 1 _) (wpAny_pure ?_)
  refine wpAny_bind (collect_set (A := A.in1) hh ⟨o, ho, hex.1, hd⟩ hf hb hr hl fun s1 vs k1 hz1 g1 o1 pm => ?_)
  have hvl : vs.length ≤ 1000 := by rw [pm.length_eq, List.length_map, Array.length_toList]; omega
  have hsl : vs.length ≤ sizeLine := Nat.le_trans hvl (by decide)
  have hI : StrsAre vs (vs.map strOf) := strs_of_good vs fun v hv => by
    obtain ⟨e, he, q⟩ := List.mem_map.mp (pm.mem_iff.mp hv)
    obtain ⟨k, tk, h1, _⟩ := g e he
    exact ⟨k, tk, by rw [← q]; exact h1⟩
  have pk : (vs.map strOf).Perm (es.toList.map kOf) := by
    have q := pm.map strOf
    rw [List.map_map] at q
    refine q.trans (List.Perm.of_eq (List.map_congr_left fun e he => ?_))
    obtain ⟨k, tk, h1, _⟩ := g e he
    show strOf e.2 = kOf e
    unfold kOf
    rw [h1]
    rfl
  refine wpAny_bind (wpAny_newList ?_ hsl)
  have hoL : (s1.heap.push (seqObj "list" vs.toArray 0)).get? s1.heap.objs.size = some (seqObj "list" vs.toArray 0) := Heap.get?_push_size _ rfl
  refine wpAny_bind (wpAny_holding (wpAny_call_entry slot_list_sort ⟨_, hoL, rfl⟩ entry_list_sort
    (list_sort_treeKAny strKind_oneLt hoL hI.keysOf (fun v₁ v₂ rest e => keyKind_strs (by rw [← e]; exact hI)) hsl fun st' hp hs => ⟨_, rfl, ?_⟩) (args_list_sort _)))
  obtain ⟨ns, a1, a2, a3⟩ := sorted_out_str hI hp hs
  obtain ⟨c, hc⟩ := sortedHeap_at (vs := vs) (out := (arrOf st').map (·.2)) hoL
  have pn : ns.Perm (es.toList.map kOf) := a2.trans pk
  refine wpAny_pure ⟨_, rfl, hQ _ s1.heap.objs.size ((arrOf st').map (·.2)) c ns (fun b u e => ?_) g1 o1 hz1 hc a1 a3 (pn.nodup_iff.mpr nd) (fun k => by rw [pn.mem_iff, ← hm k])⟩
  have q := k1 b u e
  have hlt := Heap.lt_size q
  show (sortedHeap (s1.heap.push (seqObj "list" vs.toArray 0)) s1.heap.objs.size vs ((arrOf st').map (·.2))).get? b = some u
  rw [sortedHeap_old (Nat.ne_of_lt hlt) (by rw [size_push']; exact Nat.lt_succ_of_lt hlt)]
  exact Heap.get?_push_of_some _ q
end
/-! ### sorted(set(xs)) -/
section
variable {X : Cx}
def tSortSet (K : PySem.W.Frag) (ta : TE) : TE := fun σ H Q => ta σ H fun x H1 => ∃ (l : Addr) (xs : List Str), x = .ref l ∧ SqL K H1 l (xs.map V.str) ∧ xs.length ≤ 1000 ∧
  ∀ (ns : List Str) (p : Addr), sortedS ns = true → ns.Nodup → (∀ k, k ∈ ns ↔ k ∈ xs) → H1 p = none → Q (.ref p) (upd H1 p (.lst (ns.map V.str)))
theorem pe_sortSet {a : Expr} {ta : TE} {p p2 q pos : Pos} (hc : X.calm = true) (hg : Gl X "sorted") (hm : X.mg "sorted" = none) (hg2 : Gl X "set") (hm2 : X.mg "set" = none) (ha : PE X a ta)
    (na : starEach [a] X.env = (false, eval a X.env) :: starEach [] X.env := by rfl) : PE X (.Call (.Name "sorted" p) [.Call (.Name "set" p2) [a] [] q] [] pos) (tSortSet X.K ta) := by
  refine ⟨fun pins s σ H Q I h => ?_⟩
  refine Call_ (ld_blt I hg hm PyProof.Rows.boot_sorted ?_)
  refine PyProof.Rows.callWith_builtin1 (PyProof.Rows.args_cons ?_ rfl) rfl rfl
  refine Call_ (ld_blt I hg2 hm2 boot_set ?_)
  refine PyProof.Rows.callWith_type1 (PyProof.Rows.args_cons (thn (ha.run pins s σ H _ I h) fun v s1 ⟨x, H1, I1, r1, q1⟩ => PyProof.Rows.args_nil ?_) na) na rfl
  obtain ⟨l, xs, rfl, hq, h1, q1⟩ := q1
  cases r1
  obtain ⟨its, r, pl, hz⟩ := I1.list hq
  have hS : StrsAre its.toArray.toList xs := by simpa using strsAre_of r
  refine call_set xs (I1.ok.hd hc) pl.isList hS (by unfold scanBound; omega) fun h' tk hS hk => ?_
  have I2 : Inv X pins σ H1 { s1 with heap := h', toks := tk } := I1.kept fun b o e => hk b o e
  refine PyProof.Rows.args_nil ?_
  refine sorted_setX (s := { s1 with heap := h', toks := tk }) hS (I2.ok.hd hc) h1 fun s' p out c ns k g o hp hgt hi hs hn hmm => ?_
  have hlen : (ns.map V.str).length ≤ sizeLine := by
    rw [List.length_map]
    have : ns.length ≤ xs.length := by
      have := hn.length_le_of_subset (fun k hk => (hmm k).1 hk)
      exact this
    exact Nat.le_trans (Nat.le_trans this h1) (by decide)
  have hpn : H1 p = none := I2.hok.fresh hp
  have J : Inv X pins σ (upd H1 p (.lst (ns.map V.str))) { ({ s1 with heap := h', toks := tk } : Shared) with heap := s'.heap, gens := s'.gens, drawn := s'.drawn, toks := s'.toks } :=
    I2.call (ch := []) (Un.laid k hp hpn) (I2.hok.laid k hp ⟨hlen, out.toList, c, vals_of_strs hi, hgt⟩) (by rw [g]; exact I2.bare) (fun _ z => nomatch z)
  have e : s' = { ({ s1 with heap := h', toks := tk } : Shared) with heap := s'.heap, gens := s'.gens, drawn := s'.drawn, toks := s'.toks } := by
    cases s'
    cases s1
    cases o
    rfl
  rw [e]
  exact ⟨.ref p, _, J, rfl, q1 ns p hs hn hmm hpn⟩
def tSortSetI (K : PySem.W.Frag) (ta : TE) : TE := fun σ H Q => ta σ H fun x H1 => ∃ (l : Addr) (xs : List Int), x = .ref l ∧ SqL K H1 l (xs.map V.int) ∧ xs.length < 64 ∧
  ∀ (ns : List Int) (p : Addr), ns.Pairwise (· < ·) → (∀ k, k ∈ ns ↔ k ∈ xs) → H1 p = none → Q (.ref p) (upd H1 p (.lst (ns.map V.int)))
theorem pe_sortSetI {a : Expr} {ta : TE} {p p2 q pos : Pos} (hc : X.calm = true) (hg : Gl X "sorted") (hm : X.mg "sorted" = none) (hg2 : Gl X "set") (hm2 : X.mg "set" = none) (ha : PE X a ta)
    (na : starEach [a] X.env = (false, eval a X.env) :: starEach [] X.env := by rfl) : PE X (.Call (.Name "sorted" p) [.Call (.Name "set" p2) [a] [] q] [] pos) (tSortSetI X.K ta) :=
  ⟨fun pins s σ H Q I h => by
    refine Call_ (ld_blt I hg hm PyProof.Rows.boot_sorted (PyProof.Rows.callWith_builtin1 (PyProof.Rows.args_cons ?_ rfl) rfl rfl))
    refine Call_ (ld_blt I hg2 hm2 boot_set (PyProof.Rows.callWith_type1 (PyProof.Rows.args_cons ?_ na) na rfl))
    refine thn (ha.run pins s σ H _ I h) fun v s1 ⟨x, H1, I1, r1, l, xs, ex, hq, h1, q1⟩ => PyProof.Rows.args_nil ?_
    subst ex
    cases r1
    obtain ⟨its, r, pl, hz⟩ := I1.list hq
    refine call_setI xs (I1.ok.hd hc) pl.isList (by simpa using r.ints) (by unfold scanBound; omega) fun h' tk ⟨c, hcl, R⟩ hk => ?_
    have I2 : Inv X pins σ H1 { s1 with heap := h', toks := tk } := I1.kept fun b o e => hk b o e
    refine PyProof.Rows.args_nil (sorted_set (s := { s1 with heap := h', toks := tk }) R (I2.ok.hd hc) (by omega) fun s' p out c2 ns k g o hp hgt hi hs hmm hl => ?_)
    have hlen : (ns.map V.int).length ≤ sizeLine := by rw [List.length_map, hl, sizeLine_eq]; omega
    have hpn : H1 p = none := I2.hok.fresh hp
    have J : Inv X pins σ (upd H1 p (.lst (ns.map V.int))) { ({ s1 with heap := h', toks := tk } : Shared) with heap := s'.heap, gens := s'.gens, drawn := s'.drawn, toks := s'.toks } :=
      I2.call (ch := []) (Un.laid k hp hpn) (I2.hok.laid k hp ⟨hlen, out.toList, c2, vals_of_ints hi, hgt⟩) (by rw [g]; exact I2.bare) (fun _ z => nomatch z)
    have e : s' = { ({ s1 with heap := h', toks := tk } : Shared) with heap := s'.heap, gens := s'.gens, drawn := s'.drawn, toks := s'.toks } := by
      cases s'
      cases s1
      cases o
      rfl
    rw [e]
    exact ⟨.ref p, _, J, rfl, q1 ns p hs (fun k => by rw [hmm k]; exact decide_eq_true_iff) hpn⟩⟩
end
end Zx
end

-- ZSs
section
/-! sorted(set(xs)), xs a list of texts -/
namespace Zl
open PySem PySem.Spec PyProof.Rows L2

def dedS : List Str → List Str
  | [] => []
  | x :: r => if x ∈ r then dedS r else x :: dedS r
theorem mem_dedS {k : Str} : ∀ {l : List Str}, k ∈ dedS l ↔ k ∈ l
  | [] => by simp [dedS]
  | x :: r => by
    unfold dedS
    split
    · rename_i h
      rw [mem_dedS, List.mem_cons]
      exact ⟨.inr, fun z => z.elim (fun e => e ▸ h) id⟩
    · rw [List.mem_cons, List.mem_cons, mem_dedS]
theorem nd_dedS : ∀ l : List Str, (dedS l).Nodup
  | [] => List.Pairwise.nil
  | x :: r => by
    unfold dedS
    split
    · exact nd_dedS r
    · rename_i h
      exact List.nodup_cons.mpr ⟨fun z => h (mem_dedS.mp z), nd_dedS r⟩
theorem perm_nd {α : Type} [DecidableEq α] {l l' : List α} (h : l.Nodup) (h' : l'.Nodup) (e : ∀ k, k ∈ l ↔ k ∈ l') : l.Perm l' := by
  rw [List.perm_iff_count]
  intro a
  rw [h.count, h'.count]
  by_cases q : a ∈ l
  · rw [if_pos q, if_pos ((e a).1 q)]
  · rw [if_neg q, if_neg fun z => q ((e a).2 z)]
theorem setS_of {l l' : List Str} (h : sortedS l' = true) (nd : l'.Nodup) (e : ∀ k, k ∈ l' ↔ k ∈ l) : l' = sortS (dedS l) :=
  sortS_of (perm_nd nd (nd_dedS l) fun k => (e k).trans mem_dedS.symm) h
def dedI : List Int → List Int
  | [] => []
  | x :: r => if x ∈ r then dedI r else x :: dedI r
theorem mem_dedI {k : Int} : ∀ {l : List Int}, k ∈ dedI l ↔ k ∈ l
  | [] => by simp [dedI]
  | x :: r => by
    unfold dedI
    split
    · rename_i h
      rw [mem_dedI, List.mem_cons]
      exact ⟨.inr, fun z => z.elim (fun e => e ▸ h) id⟩
    · rw [List.mem_cons, List.mem_cons, mem_dedI]
theorem nd_dedI : ∀ l : List Int, (dedI l).Nodup
  | [] => List.Pairwise.nil
  | x :: r => by
    unfold dedI
    split
    · exact nd_dedI r
    · rename_i h
      exact List.nodup_cons.mpr ⟨fun z => h (mem_dedI.mp z), nd_dedI r⟩
theorem setI_of {l l' : List Int} (h : l'.Pairwise (· < ·)) (e : ∀ k, k ∈ l' ↔ k ∈ l) : l' = sortI (dedI l) :=
  sortI_of (perm_nd (h.imp fun q => Int.ne_of_lt q) (nd_dedI l) fun k => (e k).trans mem_dedI.symm) (h.imp fun q => Int.le_of_lt q)
def sdI : D → Option R
  | .list ds => (intsOf ds).bind fun ns => if ns.length < 64 then some (.own (.lst ((sortI (dedI ns)).map PyData.int))) else none
  | _ => none
def mSsI (m : ME) : ME := mUn sdI m
def sdF : D → Option R
  | .list ds => (strsOf ds).bind fun ys => if ys.length ≤ 1000 then some (.own (.lst ((sortS (dedS ys)).map PyData.str))) else none
  | _ => none
def mSs (m : ME) : ME := mUn sdF m
section
variable {X : Cx} {e : Expr} {m : ME} {p p2 q pos : Pos}
theorem tE_Ss {K : KW} : ∀ σ H Q, tE K (mSs m) σ H Q → Zx.tSortSet K (tE K m) σ H Q := fun σ H Q ⟨Z, ρ, r, ρ', fr, e, k⟩ => by
  obtain ⟨⟨r1, ρ1⟩, e1, e⟩ := bnd e
  obtain ⟨d, ed, e⟩ := bnd e
  obtain ⟨r', er, e⟩ := Option.map_eq_some_iff.mp e
  cases e
  refine ⟨Z, ρ, r1, ρ1, fr, e1, fun Z1 H1 x g1 h1 => ?_⟩
  have rv := rs_ok g1.fr h1 ed
  unfold sdF at er
  split at er
  · rename_i ds
    obtain ⟨ys, ey, er⟩ := bnd er
    split at er
    · rename_i hl
      cases er
      obtain ⟨a, vs, rfl, hq, hd⟩ := rv
      cases strs_vs hd ey
      refine ⟨a, ys, rfl, hq, hl, fun ns pp hs hn hm hp => ?_⟩
      rw [setS_of hs hn hm]
      exact q_lst g1.fr.zl (rds_strs _) (fun Z' H' v n nr => k Z' H' v (g1.trans (n.go g1.fr)) (nr.rr g1 n)) pp hp
    · cases er
  · cases er
theorem ce_ss (hc : X.calm = true) (hg : Gl X "sorted") (hm : X.mg "sorted" = none) (hg2 : Gl X "set") (hm2 : X.mg "set" = none) (ha : CE X e m)
    (na : starEach [e] X.env = (false, eval e X.env) :: starEach [] X.env := by rfl) : CE X (.Call (.Name "sorted" p) [.Call (.Name "set" p2) [e] [] q] [] pos) (mSs m) :=
  pe_imp (Zx.pe_sortSet hc hg hm hg2 hm2 ha (na := na)) tE_Ss
theorem tE_SsI {K : KW} : ∀ σ H Q, tE K (mSsI m) σ H Q → Zx.tSortSetI K (tE K m) σ H Q := fun σ H Q ⟨Z, ρ, r, ρ', fr, e, k⟩ => by
  obtain ⟨⟨r1, ρ1⟩, e1, e⟩ := bnd e
  obtain ⟨d, ed, e⟩ := bnd e
  obtain ⟨r', er, e⟩ := Option.map_eq_some_iff.mp e
  cases e
  refine ⟨Z, ρ, r1, ρ1, fr, e1, fun Z1 H1 x g1 h1 => ?_⟩
  have rv := rs_ok g1.fr h1 ed
  unfold sdI at er
  split at er
  · rename_i ds
    obtain ⟨ys, ey, er⟩ := bnd er
    obtain ⟨hl, er⟩ := ite_some er
    cases er
    obtain ⟨a, vs, rfl, hq, hd⟩ := rv
    cases ints_vs hd ey
    refine ⟨a, ys, rfl, hq, hl, fun ns pp hn hm hp => ?_⟩
    rw [setI_of hn hm]
    exact q_lst g1.fr.zl (rds_ints _) (fun Z' H' v n nr => k Z' H' v (g1.trans (n.go g1.fr)) (nr.rr g1 n)) pp hp
  · cases er
/-- sorted(set(xs)), texts or ints -/
def sdA (d : D) : Option R := match sdF d with
  | some r => some r
  | none => sdI d
def mSsA (m : ME) : ME := mUn sdA m
theorem pe_or {X : Cx} {e : Expr} {t t' : TE} (h : PE X e t) (h' : PE X e t') : PE X e (fun σ H Q => t σ H Q ∨ t' σ H Q) := ⟨fun pins s σ H Q I hw => hw.elim (h.run pins s σ H Q I) (h'.run pins s σ H Q I)⟩
theorem tE_SsA {K : KW} : ∀ σ H Q, tE K (mSsA m) σ H Q → Zx.tSortSet K (tE K m) σ H Q ∨ Zx.tSortSetI K (tE K m) σ H Q := fun σ H Q ⟨Z, ρ, r, ρ', fr, e, k⟩ => by
  obtain ⟨⟨r1, ρ1⟩, e1, e⟩ := bnd e
  obtain ⟨d, ed, e⟩ := bnd e
  obtain ⟨r', er, e⟩ := Option.map_eq_some_iff.mp e
  cases e
  unfold sdA at er
  split at er
  · rename_i r2 e2
    cases er
    refine .inl (tE_Ss σ H Q ⟨Z, ρ, r, ρ1, fr, ?_, k⟩)
    show (m ρ).bind _ = _
    rw [e1, Option.bind_some, ed, Option.bind_some, e2]; rfl
  · refine .inr (tE_SsI σ H Q ⟨Z, ρ, r, ρ1, fr, ?_, k⟩)
    show (m ρ).bind _ = _
    rw [e1, Option.bind_some, ed, Option.bind_some, er]; rfl
theorem ce_ssA (hc : X.calm = true) (hg : Gl X "sorted") (hm : X.mg "sorted" = none) (hg2 : Gl X "set") (hm2 : X.mg "set" = none) (ha : CE X e m)
    (na : starEach [e] X.env = (false, eval e X.env) :: starEach [] X.env := by rfl) : CE X (.Call (.Name "sorted" p) [.Call (.Name "set" p2) [e] [] q] [] pos) (mSsA m) :=
  pe_imp (pe_or (Zx.pe_sortSet hc hg hm hg2 hm2 ha (na := na)) (Zx.pe_sortSetI hc hg hm hg2 hm2 ha (na := na))) tE_SsA
theorem ce_ssI (hc : X.calm = true) (hg : Gl X "sorted") (hm : X.mg "sorted" = none) (hg2 : Gl X "set") (hm2 : X.mg "set" = none) (ha : CE X e m)
    (na : starEach [e] X.env = (false, eval e X.env) :: starEach [] X.env := by rfl) : CE X (.Call (.Name "sorted" p) [.Call (.Name "set" p2) [e] [] q] [] pos) (mSsI m) :=
  pe_imp (Zx.pe_sortSetI hc hg hm hg2 hm2 ha (na := na)) tE_SsI
end
end Zl
end

-- ZScX
section
/-! a set of texts by two clauses; sorted of it -/
namespace Zx
open PySem PySem.Spec PyProof.Rows L2
/-- the set of the texts of L, at a -/
def SetXO (w : World) (a : Addr) (L : List Str) : HO := .ext fun h => SetX w h a L
theorem setXO_new {w : World} {P : Program} {H : Hp} {h : Heap} {a : Addr} {L : List Str} (R : SetX w h a L) : ObjOk P w H h a (SetXO w a L) := by
  have ⟨o, _, _, _, ho, _⟩ := R
  exact ⟨R, ⟨o, ho⟩, fun h1 h2 p k => SetX.at p k⟩
section
variable {X : Cx}
theorem setXO_get {pins : List (Addr × Obj)} {σ : L2.St} {H : Hp} {s : Shared} {a : Addr} {L : List Str} (I : Inv X pins σ H s) (ha : H a = some (SetXO X.w a L)) : SetX X.w s.heap a L := (I.hok a _ ha).1
theorem call_add {P : Program} {w : World} {A : Around} {E : Value → Shared → Prop} {s : Shared} {a : Addr} {L : List Str} {k : Str} {tk : Tok} {Q : Value → Shared → Prop} (R : SetX w s.heap a L) (room : L.length + 1 < scanBound)
    (hQ : ∀ h', Heap.SameBut a s.heap h' → SetX w h' a (L ++ [k]) → Q .none { s with heap := h', toks := s.toks + 1 }) :
    wpAny (model P w) A (call (.builtin "set.add") [.ref a, .str k tk]) Q E s := by
  have hS : s.TypeIs (.ref a) "set" := by
    have ⟨o, _, _, _, ho, hex, _⟩ := R
    exact ⟨o, ho, hex.1⟩
  refine wpAny_call_entry F.slot_set_add hS F.entry_set_add ?_ (F.args_set_add_2 _ _)
  unfold Builtin.«set.add» Builtin.Frozenset.oneOther
  simp only [List.isEmpty_nil, bind_assoc]
  unfold Builtin.Frozenset.addrOf setAdd
  refine wpAny_bind (wpAny_pure ?_)
  try dsimp only
  refine wpAny_bind (wpAny_pure ?_)
  try dsimp only
  refine wpAny_bind ?_
  refine wpAny_holding ?_
  refine wpAny_bind ((PySem.strKind P w).pyHash (strKind_is P w k tk) ?_)
  refine add_hashed (s := { s with toks := s.toks + 1 }) R room fun b h' sb r => ?_
  show wpAny _ _ (ret Value.none) _ _ _
  exact wpAny_pure ⟨_, rfl, hQ h' sb r⟩
theorem addX_ok {pins : List (Addr × Obj)} {σ : L2.St} {H : Hp} {s : Shared} {E : Value → Shared → Prop} {D : Addr} {L : List Str} {y : Str} {tk : Tok} {Q : Value → Shared → Prop} (I : Inv X pins σ H s) (hD : H D = some (SetXO X.w D L)) (room : L.length + 1 < scanBound)
    (h : ∀ s', Inv X pins σ (upd H D (SetXO X.w D (L ++ [y]))) s' → Q .none s') : wpAny (model X.prog X.w) X.A (call (.builtin "set.add") [.ref D, .str y tk]) Q E s := by
  refine call_add (setXO_get I hD) room fun h' sb new => ?_
  have he : ∃ u, h'.get? D = some u := by
    have ⟨o, _, _, _, ho, _⟩ := new
    exact ⟨o, ho⟩
  exact h _ (I.write (e := D) (t' := s.toks + 1) (by rw [hD]; trivial) (.inl rfl) (fun b u hb hu => (sb.2 b hb).trans hu) he (setXO_new new))
end
theorem scTurn2_out (elt t0 i0 t1 i1 : Expr) (ifs0 ifs1 : List Expr) (scope : Scope) (pos : Pos) (it acc : Value) (env : Env) :
    compTurn (.SetComp elt [⟨t0, i0, ifs0, 0⟩, ⟨t1, i1, ifs1, 0⟩] scope pos) 0 it acc env = (do
      standAt i0.pos
      match ← pyNext it with
      | none => pure (.done .next)
      | some v =>
        letOwnedTupleGo t0 it v
        assign t0 env v
        let mut ok := true
        for c in ifs0 do
          if ok then ok ← isTrue c env (eval c env)
        if ok then
          let x ← eval i1 env
          standAt i1.pos
          let x ← foldedSetIterable i1 env x
          let _ ← runOwn (.compStart (.SetComp elt [⟨t0, i0, ifs0, 0⟩, ⟨t1, i1, ifs1, 0⟩] scope pos) 1 (← holding [x] (pyIter x)) acc env) env
        again (.compLoop (.SetComp elt [⟨t0, i0, ifs0, 0⟩, ⟨t1, i1, ifs1, 0⟩] scope pos) 0 it acc env)) := by rfl
theorem scTurn2_in (elt t0 i0 t1 i1 : Expr) (ifs0 ifs1 : List Expr) (scope : Scope) (pos : Pos) (it acc : Value) (env : Env) :
    compTurn (.SetComp elt [⟨t0, i0, ifs0, 0⟩, ⟨t1, i1, ifs1, 0⟩] scope pos) 1 it acc env = (do
      standAt i1.pos
      match ← pyNext it with
      | none => pure (.done .next)
      | some v =>
        letOwnedTupleGo t1 it v
        assign t1 env v
        let mut ok := true
        for c in ifs1 do
          if ok then ok ← isTrue c env (eval c env)
        if ok then
          (do let v ← eval elt env; standAt elt.pos; let _ ← call (.builtin "set.add") [acc, v])
        again (.compLoop (.SetComp elt [⟨t0, i0, ifs0, 0⟩, ⟨t1, i1, ifs1, 0⟩] scope pos) 1 it acc env)) := by rfl

section
variable {prog : Program} {w : World} {A : Around} {R : Result → Shared → Prop} {s : Shared} {elt t0 i0 t1 i1 : Expr} {ifs0 ifs1 : List Expr} {scope : Scope} {pos : Pos} {it acc : Value} {env : Env}
/-- the loop of the first clause -/
theorem scLoop2_out (hs : ∀ x, foldedSetIterable i1 env x = pure x) (I : Nat → Shared → Prop)
    (turn : ∀ n s, I n s → wpAny (model prog w) A (pyNext it) (fun r s₁ => match r with
      | none => R (.ok .next) s₁
      | some v => wpAny (model prog w) A (letOwnedTupleGo t0 it v) (fun _ s₁' => wpAny (model prog w) A (assign t0 env v) (fun _ s₂ =>
          wpAny (model prog w) A (forIn ifs0 true fun c r => if r = true then do let ok ← isTrue c env (eval c env); pure (ForInStep.yield ok) else pure (ForInStep.yield r)) (fun ok s₃ =>
            if ok = true then wpAny (model prog w) A (eval i1 env) (fun x s₄ => wpAny (model prog w) A (pyIter x) (fun it1 s₅ =>
              codeAny (model prog w) A (.compStart (.SetComp elt [⟨t0, i0, ifs0, 0⟩, ⟨t1, i1, ifs1, 0⟩] scope pos) 1 it1 acc env) (fun r s' => match r with
                | .ok _ => ∃ m, m < n ∧ I m s'
                | .error _ => False) s₅) (notedBy (model prog w) A env fun e s' => R (.error e) s') s₄) (notedBy (model prog w) A env fun e s' => R (.error e) s') s₃
            else ∃ m, m < n ∧ I m s₃) (notedBy (model prog w) A env fun e s' => R (.error e) s') s₂) (notedBy (model prog w) A env fun e s' => R (.error e) s') s₁') (notedBy (model prog w) A env fun e s' => R (.error e) s') s₁) (notedBy (model prog w) A env fun e s' => R (.error e) s') s)
    (n : Nat) (h : I n s) :
    codeAny (model prog w) A (.compLoop (.SetComp elt [⟨t0, i0, ifs0, 0⟩, ⟨t1, i1, ifs1, 0⟩] scope pos) 0 it acc env) R s := by
  refine codeAny_loop rfl I (fun n s hI => ?_) n h
  show wpAny _ A ((compTurn (.SetComp elt [⟨t0, i0, ifs0, 0⟩, ⟨t1, i1, ifs1, 0⟩] scope pos) 0 it acc env).onRaise (fun x => do noteFrame x env; theTreesLotGoes x)) _ _ s
  refine wpAny_noted ?_
  rw [scTurn2_out]
  refine wpAny_bind (wpAny_standAt (wpAny_bind (wpAny_mono (turn n s hI) (fun r s₁ h₁ => ?_) fun _ _ h' => h')))
  cases r with
  | none => exact wpAny_pure h₁
  | some v =>
    refine wpAny_bind (wpAny_mono h₁ (fun _ s₁' h₁' => ?_) fun _ _ h' => h')
    refine wpAny_bind (wpAny_mono h₁' (fun _ s₂ h₂ => wpAny_bind (wpAny_mono h₂ (fun ok s₃ h₃ => ?_) fun _ _ h' => h')) fun _ _ h' => h')
    cases ok with
    | false => exact wpAny_pure ⟨rfl, h₃⟩
    | true =>
      refine wpAny_bind (wpAny_mono h₃ (fun x s₄ h₄ => ?_) fun _ _ h' => h')
      refine wpAny_bind (wpAny_standAt (wpAny_bind (wpAny_of_eq (hs x) (wpAny_bind (wpAny_holding (wpAny_mono h₄ (fun it1 s₅ h₅ => ?_) fun _ _ h' => h'))))))
      refine wpAny_bind (wpAny_runOwn ?_)
      rw [Around.mark_none]
      refine codeAny_mono h₅ fun r s' hr => ?_
      cases r with
      | ok f =>
        first
          | exact wpAny_pure ⟨rfl, hr⟩
          | exact wpAny_bind (wpAny_pure (wpAny_pure ⟨rfl, hr⟩))
      | error e => exact hr.elim
/-- the loop of the second -/
theorem scLoop2_in (I : Nat → Shared → Prop)
    (turn : ∀ n s, I n s → wpAny (model prog w) A (pyNext it) (fun r s₁ => match r with
      | none => R (.ok .next) s₁
      | some v => wpAny (model prog w) A (letOwnedTupleGo t1 it v) (fun _ s₁' => wpAny (model prog w) A (assign t1 env v) (fun _ s₂ =>
          wpAny (model prog w) A (forIn ifs1 true fun c r => if r = true then do let ok ← isTrue c env (eval c env); pure (ForInStep.yield ok) else pure (ForInStep.yield r)) (fun ok s₃ =>
            if ok = true then wpAny (model prog w) A (eval elt env) (fun x s₄ =>
              wpAny (model prog w) A (call (.builtin "set.add") [acc, x]) (fun _ s₅ => ∃ m, m < n ∧ I m s₅) (notedBy (model prog w) A env fun e s' => R (.error e) s') s₄) (notedBy (model prog w) A env fun e s' => R (.error e) s') s₃
            else ∃ m, m < n ∧ I m s₃) (notedBy (model prog w) A env fun e s' => R (.error e) s') s₂) (notedBy (model prog w) A env fun e s' => R (.error e) s') s₁') (notedBy (model prog w) A env fun e s' => R (.error e) s') s₁) (notedBy (model prog w) A env fun e s' => R (.error e) s') s)
    (n : Nat) (h : I n s) :
    codeAny (model prog w) A (.compLoop (.SetComp elt [⟨t0, i0, ifs0, 0⟩, ⟨t1, i1, ifs1, 0⟩] scope pos) 1 it acc env) R s := by
  refine codeAny_loop rfl I (fun n s hI => ?_) n h
  show wpAny _ A ((compTurn (.SetComp elt [⟨t0, i0, ifs0, 0⟩, ⟨t1, i1, ifs1, 0⟩] scope pos) 1 it acc env).onRaise (fun x => do noteFrame x env; theTreesLotGoes x)) _ _ s
  refine wpAny_noted ?_
  rw [scTurn2_in]
  refine wpAny_bind (wpAny_standAt (wpAny_bind (wpAny_mono (turn n s hI) (fun r s₁ h₁ => ?_) fun _ _ h' => h')))
  cases r with
  | none => exact wpAny_pure h₁
  | some v =>
    refine wpAny_bind (wpAny_mono h₁ (fun _ s₁' h₁' => ?_) fun _ _ h' => h')
    refine wpAny_bind (wpAny_mono h₁' (fun _ s₂ h₂ => wpAny_bind (wpAny_mono h₂ (fun ok s₃ h₃ => ?_) fun _ _ h' => h')) fun _ _ h' => h')
    cases ok with
    | false => exact wpAny_pure ⟨rfl, h₃⟩
    | true =>
      exact wpAny_bind (wpAny_bind (wpAny_mono h₃ (fun x s₄ h₄ => wpAny_bind (wpAny_standAt (wpAny_bind (wpAny_mono h₄ (fun _ s₅ h₅ => wpAny_pure (wpAny_pure ⟨rfl, h₅⟩)) fun _ _ h' => h')))) fun _ _ h' => h'))
/-- the second clause's start -/
theorem scStart1_ok (h0 : codeAny (model prog w) A (.compLoop (.SetComp elt [⟨t0, i0, ifs0, 0⟩, ⟨t1, i1, ifs1, 0⟩] scope pos) 1 it acc env) R s)
    (h : wpAny (model prog w) A (pyIter it) (fun it' s' => codeAny (model prog w) A (.compLoop (.SetComp elt [⟨t0, i0, ifs0, 0⟩, ⟨t1, i1, ifs1, 0⟩] scope pos) 1 it' acc env) R s')
      (notedBy (model prog w) A env fun x s' => R (.error x) s') s) :
    codeAny (model prog w) A (.compStart (.SetComp elt [⟨t0, i0, ifs0, 0⟩, ⟨t1, i1, ifs1, 0⟩] scope pos) 1 it acc env) R s := by
  refine codeAny_of_tree ?_
  show wpAny _ _ ((compStart (.SetComp elt [⟨t0, i0, ifs0, 0⟩, ⟨t1, i1, ifs1, 0⟩] scope pos) 1 it acc env).onRaise (fun x => do noteFrame x env; standAt theWindowsPlace)) _ _ s
  refine wpAny_notedAt ?_
  unfold compStart
  show wpAny _ _ (ask >>= _) _ _ s
  refine wpAny_bind (wpAny_askSetting (wpAny_ite ?_))
  split
  · first
      | exact wpAny_bind (wpAny_pure (wpAny_pure (And.intro rfl h0)))
      | exact wpAny_pure (And.intro rfl h0)
  · first
      | exact wpAny_bind (wpAny_rule (wpAny_bind (wpAny_standAt (wpAny_bind (wpAny_mono h (fun it' s' h' => wpAny_pure (And.intro rfl h')) fun _ _ x => x)))))
      | (refine wpAny_bind (wpAny_rule ?_); show wpAny _ _ (standAt i1.pos >>= _) _ _ s; exact wpAny_bind (wpAny_standAt (wpAny_bind (wpAny_mono h (fun it' s' h' => wpAny_pure (And.intro rfl h')) fun _ _ x => x))))
end

section
variable {X : Cx}
/-- [elt for tg in iter if .. for tg1 in iter1 if ..]: behind the first clause's store and tests the second source's own loop, from which Nx is reached. vs: the block's names; vs1: those of the second target -/
def tSc2 (w : World) (wi : TI) (g : TG) (tt : TT) (wi1 : TI) (g1 : TG) (tt1 : TT) (te : TE) (vs vs1 : List Nat) : TE := fun σ H Q => wi σ H fun J H1 => ∀ D, H1 D = none → ∃ W : Nat → Nat → Hp → Prop, (∃ m, W 0 m (upd H1 D (SetXO w D []))) ∧ ∀ i m H, W i m H →
  (J.stop i H ∧ Q (.ref D) H) ∨ (J.go i H ∧ ∃ Nx : Hp → Prop, (∀ H', Nx H' → ∃ m', m' < m ∧ W (i + 1) m' H') ∧ ∀ x H', J.yld i H x H' → g x (wipe σ vs) H' fun σ2 H2 => wipe σ2 vs = wipe σ vs ∧ tt σ2 H2 fun b H3 =>
    if b = true then wi1 σ2 H3 fun J1 H4 => ∃ W1 : Nat → Nat → Hp → Prop, (∃ m, W1 0 m H4) ∧ ∀ j k H, W1 j k H →
      (J1.stop j H ∧ Nx H) ∨ (J1.go j H ∧ ∃ Nx1 : Hp → Prop, (∀ H', Nx1 H' → ∃ k', k' < k ∧ W1 (j + 1) k' H') ∧ ∀ x H', J1.yld j H x H' → g1 x (wipe σ2 vs1) H' fun σ3 H5 => wipe σ3 vs1 = wipe σ2 vs1 ∧ tt1 σ3 H5 fun b H6 =>
        if b = true then te σ3 H6 fun y H7 => ∃ (c : Str) (L : List Str), y = .str c ∧ H7 D = some (SetXO w D L) ∧ L.length + 1 < scanBound ∧ Nx1 (upd H7 D (SetXO w D (L ++ [c]))) else Nx1 H6)
    else Nx H3)
theorem sc2_core {pins : List (Addr × Obj)} {s : Shared} {σ : L2.St} {H : Hp} {Q : VK} {elt tg iter tg1 iter1 : Expr} {ifs ifs1 : List Expr} {scope : Scope} {own : List (Str × Nat)} {vs1 : List Nat} {pos pos' : Pos} {wi wi1 : TI} {g g1 : TG} {tt tt1 : TT} {te : TE} {use : Option (Value → Sem Unit)} {Qf : Value → Shared → Prop}
    (hc : X.calm = true) (hN : X.N.Nodup) (I : Inv X pins σ H s) (hi : PI X tg iter wi) (ok : BlkOk X.N X.env.scope scope own) (hv : ∀ i ∈ vs1, i ∈ own.map (·.2))
    (hg : ∀ (s : Shared) (H : Hp) (C : Addr) (cl : List (Str × Addr)) (fp : List Addr), PG (X.blk s H scope (compEnvC scope cl C X.env) fp) tg g) (ht : ∀ (s : Shared) (H : Hp) (C : Addr) (cl : List (Str × Addr)) (fp : List Addr), PTs (X.blk s H scope (compEnvC scope cl C X.env) fp) ifs tt)
    (he : ∀ (s : Shared) (H : Hp) (C : Addr) (cl : List (Str × Addr)) (fp : List Addr), PE (X.blk s H scope (compEnvC scope cl C X.env) fp) elt te) (hs : ∀ x, foldedSetIterable iter X.env x = pure x)
    (hi1 : ∀ (s : Shared) (H : Hp) (C : Addr) (cl : List (Str × Addr)) (fp : List Addr), PI (X.blk s H scope (compEnvC scope cl C X.env) fp) tg1 iter1 wi1)
    (hg1 : ∀ (s : Shared) (H : Hp) (C : Addr) (cl : List (Str × Addr)) (fp : List Addr), PG (X.blk s H scope (compEnvC scope cl C X.env) fp) tg1 g1)
    (ht1 : ∀ (s : Shared) (H : Hp) (C : Addr) (cl : List (Str × Addr)) (fp : List Addr), PTs (X.blk s H scope (compEnvC scope cl C X.env) fp) ifs1 tt1)
    (hs1 : ∀ env x, foldedSetIterable iter1 env x = pure x)
    (h : tSc2 X.w wi g tt wi1 g1 tt1 te (own.map (·.2)) vs1 σ H Q)
    (hRR : ∀ D C s' m H', Inv X pins σ H' s' → Q (.ref D) H' → s'.heap.Ns C m → FpOk X pins H' C → compPost (model X.prog X.w) X.A X.xe use Qf (.ref D) C (.ok .next) s') :
    wpAny (model X.prog X.w) X.A (comprehension (.SetComp elt [⟨tg, iter, ifs, 0⟩, ⟨tg1, iter1, ifs1, 0⟩] scope pos) scope X.env pos' (newSet (.type "set")) false (eval iter X.env) use) Qf X.xe s := by
  have hfree : ∀ y ∈ scope.names, y.2 = .free → ∃ c, X.env.cells.lookup y.1 = some c := fun y hy e => by
    rcases ok.free y hy e with k | k
    · exact I.ok.has _ (.inl k)
    · exact I.ok.has _ (.inr k)
  refine wpAny_comprehension_free (use := use) rfl hs (closure_ok hfree) ok.kind (fun y hy e => by rw [ok.uniq y hy, e])
    (thn (hi.run pins s σ H _ I h) fun xv s1 hx => thn hx fun itv s2 h2 => ?_)
  obtain ⟨it, fp, tn, J, H2, e, I2, T, st2, f2, q⟩ := h2
  subst e
  refine PpSet.newSet_ok (newEnv_comp ?_)
  generalize hD : s2.heap.objs.size = D
  have hDn : H2 D = none := I2.hok.fresh (Nat.le_of_eq hD)
  obtain ⟨W, ⟨m0, w0⟩, turn⟩ := q D hDn
  -- the new list
  generalize hs3 : ({ s2 with heap := s2.heap.push { cls := .type "set", dict := none, data := .set #[] 0 (.fresh 0 0 (!X.w.params.followText "set-order")) } } : Shared) = s3
  have I3 : Inv X pins σ (upd H2 D (SetXO X.w D [])) s3 := by
    rw [← hs3]
    refine I2.laid (t' := s2.toks) (fun b o e => Heap.get?_push_of_some _ e) (Nat.le_of_eq hD) ?_
    rw [← hD]
    exact setXO_new (SetX.fresh X.w (Heap.get?_push_size _ rfl))
  have h3 : s3.heap = s2.heap.push { cls := .type "set", dict := none, data := .set #[] 0 (.fresh 0 0 (!X.w.params.followText "set-order")) } := by rw [← hs3]
  have sz : ∀ b ∈ fp, b < s2.heap.objs.size := fun b hb => by
    obtain ⟨o, e, _⟩ := T.obj _ _ st2 b hb
    exact Heap.lt_size e
  have f3 : ∀ b ∈ fp, FpOk X pins (upd H2 D (SetXO X.w D [])) b ∧ b < s3.heap.objs.size := fun b hb => by
    have hlt := sz b hb
    refine ⟨⟨?_, (f2 b hb).2⟩, by rw [h3, Heap.size_push]; exact Nat.lt_succ_of_lt hlt⟩
    rw [upd_ne (by rw [← hD]; exact Nat.ne_of_lt hlt)]
    exact (f2 b hb).1
  have st3 : tn 0 s3.heap := T.keep _ _ _ st2 fun b _ o e => by rw [h3]; exact Heap.get?_push_of_some _ e
  have I4 := block_start I3 ok hN f3
  have pg := hg s3 (upd H2 D (SetXO X.w D [])) s3.heap.objs.size (cellsFrom (s3.heap.objs.size + 1) scope.names (cloFrom X.env.cells scope.names [])) fp
  have pt := ht s3 (upd H2 D (SetXO X.w D [])) s3.heap.objs.size (cellsFrom (s3.heap.objs.size + 1) scope.names (cloFrom X.env.cells scope.names [])) fp
  have pe := he s3 (upd H2 D (SetXO X.w D [])) s3.heap.objs.size (cellsFrom (s3.heap.objs.size + 1) scope.names (cloFrom X.env.cells scope.names [])) fp
  have pi1 := hi1 s3 (upd H2 D (SetXO X.w D [])) s3.heap.objs.size (cellsFrom (s3.heap.objs.size + 1) scope.names (cloFrom X.env.cells scope.names [])) fp
  have pg1 := hg1 s3 (upd H2 D (SetXO X.w D [])) s3.heap.objs.size (cellsFrom (s3.heap.objs.size + 1) scope.names (cloFrom X.env.cells scope.names [])) fp
  have pt1 := ht1 s3 (upd H2 D (SetXO X.w D [])) s3.heap.objs.size (cellsFrom (s3.heap.objs.size + 1) scope.names (cloFrom X.env.cells scope.names [])) fp
  show codeAny _ _ (.compStart (.SetComp elt [⟨tg, iter, ifs, 0⟩, ⟨tg1, iter1, ifs1, 0⟩] scope pos) 0 (.ref it) (.ref D) (compEnvC scope (cellsFrom (s3.heap.objs.size + 1) scope.names (cloFrom X.env.cells scope.names [])) s3.heap.objs.size X.env)) (compPost (model X.prog X.w) X.A X.xe use Qf (.ref D) s3.heap.objs.size) { s3 with heap := pushCells (s3.heap.push { cls := .type "dict", data := .dict #[] }) scope.names }
  have nfp : ∀ b ∈ fp, (upd H2 D (SetXO X.w D [])) b = none := fun b hb => (f3 b hb).1.1
  generalize hce : compEnvC scope (cellsFrom (s3.heap.objs.size + 1) scope.names (cloFrom X.env.cells scope.names [])) s3.heap.objs.size X.env = ce at I4 pg pt pe pi1 pg1 pt1 ⊢
  have cL : ce.locals = s3.heap.objs.size := by subst hce; rfl
  generalize hH3 : upd H2 D (SetXO X.w D []) = H3 at I3 I4 pg pt pe pi1 pg1 pt1 w0 nfp f3
  generalize hs4 : ({ s3 with heap := pushCells (s3.heap.push { cls := .type "dict", data := .dict #[] }) scope.names } : Shared) = s4 at I4 ⊢
  have st4 : tn 0 s4.heap := T.keep _ _ _ st3 fun b _ o e => by rw [← hs4]; exact pushCells_keeps _ _ _ _ (Heap.get?_push_of_some _ e)
  have stat : ∀ {σ' : L2.St} {H' : Hp} {s' : Shared}, Inv (X.blk s3 H3 scope ce fp) [] σ' H' s' → (∀ b ∈ fp, H' b = none) → ∀ b ∈ fp, FpOk (X.blk s3 H3 scope ce fp) [] H' b := fun {σ' H' s'} I' hn b hb =>
    ⟨hn b hb, (I'.ok.exf b hb).1, I'.ok.exfs b hb, .inl hb, fun x c e => (I'.ok.exf b hb).2 x c e, fun p hp => absurd (show p ∈ ([] : List (Addr × Obj)) ++ [] from hp) (by simp)⟩
  have loop : codeAny (model X.prog X.w) X.A (.compLoop (.SetComp elt [⟨tg, iter, ifs, 0⟩, ⟨tg1, iter1, ifs1, 0⟩] scope pos) 0 (.ref it) (.ref D) ce) (compPost (model X.prog X.w) X.A X.xe use Qf (.ref D) s3.heap.objs.size) s4 := by
    refine scLoop2_out (hs1 ce) (fun n s' => ∃ i H', Inv (X.blk s3 H3 scope ce fp) [] (wipe σ (own.map (·.2))) H' s' ∧ tn i s'.heap ∧ (∀ b ∈ fp, H' b = none) ∧ W i n H') ?_ m0 ⟨0, H3, I4, st4, nfp, w0⟩
    rintro n s5 ⟨i, H5, I5, st5, n5, w5⟩
    rcases turn i n H5 w5 with ⟨stop, qq⟩ | ⟨go, Nx, hNx, step⟩
    · have td := T.done (X.blk s3 H3 scope ce fp) rfl rfl rfl hc i [] s5 _ H5 (fun _ _ => False) I5 (stat I5 n5) st5 stop
      refine thnF td fun r s6 ⟨hr, I6⟩ => ?_
      subst hr
      -- back in the def's context
      have I7 : Inv X pins σ H5 s6 := I3.call' (ch := fp) I6.os I6.base I6.hok I6.bare fun b hb => ⟨(f3 b hb).1.2.2.2.1, (f3 b hb).1.2.1, (f3 b hb).1.2.2.2.2.1, (f3 b hb).1.2.2.2.2.2⟩
      have nC : H5 s3.heap.objs.size = none := by
        have z : H5 ce.locals = none := I6.free
        rw [cL] at z
        exact z
      obtain ⟨m, hn, _⟩ := I6.loc
      have hn : s6.heap.Ns ce.locals m := hn
      rw [cL] at hn
      exact hRR D s3.heap.objs.size s6 m H5 I7 qq hn (I3.fpOk (Nat.le_refl _) nC)
    · have ti := T.item (X.blk s3 H3 scope ce fp) rfl rfl rfl hc i [] s5 _ H5 (fun _ _ => False) I5 (stat I5 n5) st5 go
      refine thnF ti fun r s6 ⟨u, hr, h6⟩ => ?_
      subst hr
      refine thnF h6 fun _ s7 ⟨x, H7, I7, r7, y7, st7, n7⟩ => ?_
      have I7' := I7.pinned (stat I7 n7) (T.obj _ _ st7)
      refine thnF (pg.run _ s7 _ H7 x u _ I7' r7 (step x H7 y7)) fun _ s8 ⟨σ8, H8, I8, hw8, q8⟩ => ?_
      refine thnF (pt.run _ s8 σ8 H8 _ I8 q8) fun b s9 ⟨H9, I9, q9⟩ => ?_
      -- the turn's end, from any slots that know what the block knew at its start
      have fin : ∀ {σ9 : L2.St} {s' : Shared} {H' : Hp}, Inv (X.blk s3 H3 scope ce fp) ([] ++ pinsAt fp s7.heap) σ9 H' s' → (wipe σ (own.map (·.2))).length = σ9.length → (∀ (j : Nat) v, (wipe σ (own.map (·.2)))[j]? = some (some v) → σ9[j]? = some (some v)) → Nx H' →
          ∃ m, m < n ∧ ∃ i H', Inv (X.blk s3 H3 scope ce fp) [] (wipe σ (own.map (·.2))) H' s' ∧ tn i s'.heap ∧ (∀ b ∈ fp, H' b = none) ∧ W i m H' := fun {σ9 s' H'} I' hl hk nx => by
        obtain ⟨m', hm, w'⟩ := hNx H' nx
        have pin' : ∀ b ∈ fp, ∀ o, s7.heap.get? b = some o → s'.heap.get? b = some o ∧ H' b = none := fun b hb o e =>
          let z := I'.pin (b, o) (List.mem_append_right _ (List.mem_append_right _ (mem_pinsAt hb e)))
          ⟨z.1, z.2.1⟩
        refine ⟨m', hm, i + 1, H', (I'.unpinned (pins := [])).weak hl hk, T.keep _ _ _ st7 fun b hb o e => (pin' b hb o e).1, fun b hb => ?_, w'⟩
        obtain ⟨o, e, _⟩ := T.obj _ _ st7 b hb
        exact (pin' b hb o e).2
      have hl8 : (wipe σ (own.map (·.2))).length = σ8.length := by rw [← hw8, wipe_length]
      have hk8 : ∀ (j : Nat) v, (wipe σ (own.map (·.2)))[j]? = some (some v) → σ8[j]? = some (some v) := fun j v e => by
        rw [← hw8] at e
        exact (wipe_some e).1
      have hk9 : ∀ (j : Nat) v, (wipe σ (own.map (·.2)))[j]? = some (some v) → (wipe σ8 vs1)[j]? = some (some v) := fun j v e => by
        rw [← hw8] at e
        obtain ⟨e1, e2⟩ := wipe_some e
        rw [wipe_out fun z => e2 (hv j z)]
        exact e1
      cases b with
      | false =>
        simp only [Bool.false_eq_true, if_false] at q9 ⊢
        exact fin I9 hl8 hk8 q9
      | true =>
        simp only [if_true] at q9 ⊢
        refine thnF (pi1.run _ s9 σ8 H9 _ I9 q9) fun xv s10 hx => thnF hx fun itv s11 h11 => ?_
        obtain ⟨it1, fp1, tn1, J1, H11, e1, I11, T1, st11, f11, W1, ⟨m1, w1⟩, turn1⟩ := h11
        subst e1
        -- the inner loop
        have stat1 : ∀ {H' : Hp}, (∀ b ∈ fp1, H' b = none) → ∀ b ∈ fp1, FpOk (X.blk s3 H3 scope ce fp) ([] ++ pinsAt fp s7.heap) H' b := fun hn b hb => ⟨hn b hb, (f11 b hb).2⟩
        have loop1 : codeAny (model X.prog X.w) X.A (.compLoop (.SetComp elt [⟨tg, iter, ifs, 0⟩, ⟨tg1, iter1, ifs1, 0⟩] scope pos) 1 (.ref it1) (.ref D) ce)
            (fun r s' => match r with
              | .ok _ => ∃ m, m < n ∧ ∃ i H', Inv (X.blk s3 H3 scope ce fp) [] (wipe σ (own.map (·.2))) H' s' ∧ tn i s'.heap ∧ (∀ b ∈ fp, H' b = none) ∧ W i m H'
              | .error _ => False) s11 := by
          refine scLoop2_in (fun k s' => ∃ j H', Inv (X.blk s3 H3 scope ce fp) ([] ++ pinsAt fp s7.heap) (wipe σ8 vs1) H' s' ∧ tn1 j s'.heap ∧ (∀ b ∈ fp1, H' b = none) ∧ W1 j k H') ?_ m1 ⟨0, H11, I11.weak (wipe_length _ _) (fun j v e => (wipe_some e).1), st11, fun b hb => (f11 b hb).1, w1⟩
          rintro k s12 ⟨j, H12, I12, st12, n12, w12⟩
          rcases turn1 j k H12 w12 with ⟨stop1, nx1⟩ | ⟨go1, Nx1, hNx1, step1⟩
          · refine thnF (T1.done (X.blk s3 H3 scope ce fp) rfl rfl rfl hc j _ s12 (wipe σ8 vs1) H12 (fun _ _ => False) I12 (stat1 n12) st12 stop1) fun r s13 ⟨hr, I13⟩ => ?_
            subst hr
            exact fin I13 (hl8.trans (wipe_length σ8 vs1).symm) hk9 nx1
          · refine thnF (T1.item (X.blk s3 H3 scope ce fp) rfl rfl rfl hc j _ s12 (wipe σ8 vs1) H12 (fun _ _ => False) I12 (stat1 n12) st12 go1) fun r s13 ⟨u1, hr, h13⟩ => ?_
            subst hr
            refine thnF h13 fun _ s14 ⟨x1, H14, I14, r14, y14, st14, n14⟩ => ?_
            have I14' := I14.pinned (stat1 n14) (T1.obj _ _ st14)
            refine thnF (pg1.run _ s14 (wipe σ8 vs1) H14 x1 u1 _ I14' r14 (step1 x1 H14 y14)) fun _ s15 ⟨σ15, H15, I15, hw15, q15⟩ => ?_
            refine thnF (pt1.run _ s15 σ15 H15 _ I15 q15) fun b1 s16 ⟨H16, I16, q16⟩ => ?_
            have fin1 : ∀ {s' : Shared} {H' : Hp}, Inv (X.blk s3 H3 scope ce fp) (([] ++ pinsAt fp s7.heap) ++ pinsAt fp1 s14.heap) σ15 H' s' → Nx1 H' → ∃ m, m < k ∧ ∃ j H', Inv (X.blk s3 H3 scope ce fp) ([] ++ pinsAt fp s7.heap) (wipe σ8 vs1) H' s' ∧ tn1 j s'.heap ∧ (∀ b ∈ fp1, H' b = none) ∧ W1 j m H' := fun {s' H'} I' nx => by
              obtain ⟨m', hm, w'⟩ := hNx1 H' nx
              have pin' : ∀ b ∈ fp1, ∀ o, s14.heap.get? b = some o → s'.heap.get? b = some o ∧ H' b = none := fun b hb o e =>
                let z := I'.pin (b, o) (List.mem_append_right _ (List.mem_append_right _ (mem_pinsAt hb e)))
                ⟨z.1, z.2.1⟩
              refine ⟨m', hm, j + 1, H', I'.unpinned.weak (by rw [← hw15, wipe_length]) (fun j v e => by rw [← hw15] at e; exact (wipe_some e).1), T1.keep _ _ _ st14 fun b hb o e => (pin' b hb o e).1, fun b hb => ?_, w'⟩
              obtain ⟨o, e, _⟩ := T1.obj _ _ st14 b hb
              exact (pin' b hb o e).2
            cases b1 with
            | false =>
              simp only [Bool.false_eq_true, if_false] at q16 ⊢
              exact fin1 I16 q16
            | true =>
              simp only [if_true] at q16 ⊢
              refine thnF (pe.run _ s16 σ15 H16 _ I16 q16) fun z s17 ⟨yv, H17, I17, r17, c0, L0, ey, hD17, hz17, nx⟩ => ?_
              subst ey
              obtain ⟨tk, rfl⟩ := (show ∃ t, z = Value.str c0 t from r17)
              exact addX_ok (X := X.blk s3 H3 scope ce fp) I17 hD17 hz17 fun s18 I18 => fin1 I18 nx
        exact scStart1_ok loop1 (T1.self X.A 0 _ _ _ st11 loop1)
  exact PpSet.codeAny_compStart_set loop (T.self X.A 0 _ _ _ st4 loop)
/-- as a value -/
theorem pe_sc2 {elt tg iter tg1 iter1 : Expr} {ifs ifs1 : List Expr} {scope : Scope} {own : List (Str × Nat)} {vs1 : List Nat} {pos : Pos} {wi wi1 : TI} {g g1 : TG} {tt tt1 : TT} {te : TE} (hc : X.calm = true) (hN : X.N.Nodup) (hi : PI X tg iter wi) (ok : BlkOk X.N X.env.scope scope own) (hv : ∀ i ∈ vs1, i ∈ own.map (·.2))
    (hg : ∀ (s : Shared) (H : Hp) (C : Addr) (cl : List (Str × Addr)) (fp : List Addr), PG (X.blk s H scope (compEnvC scope cl C X.env) fp) tg g) (ht : ∀ (s : Shared) (H : Hp) (C : Addr) (cl : List (Str × Addr)) (fp : List Addr), PTs (X.blk s H scope (compEnvC scope cl C X.env) fp) ifs tt)
    (hi1 : ∀ (s : Shared) (H : Hp) (C : Addr) (cl : List (Str × Addr)) (fp : List Addr), PI (X.blk s H scope (compEnvC scope cl C X.env) fp) tg1 iter1 wi1)
    (hg1 : ∀ (s : Shared) (H : Hp) (C : Addr) (cl : List (Str × Addr)) (fp : List Addr), PG (X.blk s H scope (compEnvC scope cl C X.env) fp) tg1 g1) (ht1 : ∀ (s : Shared) (H : Hp) (C : Addr) (cl : List (Str × Addr)) (fp : List Addr), PTs (X.blk s H scope (compEnvC scope cl C X.env) fp) ifs1 tt1)
    (he : ∀ (s : Shared) (H : Hp) (C : Addr) (cl : List (Str × Addr)) (fp : List Addr), PE (X.blk s H scope (compEnvC scope cl C X.env) fp) elt te) (hs : ∀ x, foldedSetIterable iter X.env x = pure x := by intro _; rfl) (hs1 : ∀ env x, foldedSetIterable iter1 env x = pure x := by intro _ _; rfl) :
    PE X (.SetComp elt [⟨tg, iter, ifs, 0⟩, ⟨tg1, iter1, ifs1, 0⟩] scope pos) (tSc2 X.w wi g tt wi1 g1 tt1 te (own.map (·.2)) vs1) := by
  refine ⟨fun pins s σ H Q I h => ?_⟩
  rw [PpSet.eval_SetComp]
  refine sc2_core hc hN I hi ok hv hg ht he hs hi1 hg1 ht1 hs1 h fun D C s' m H' I' q hn f => ⟨m, hn, fun h'' sb => ?_⟩
  obtain ⟨f0, f1, f2, f3, f4, f5⟩ := f
  exact ⟨.ref D, H', I'.turned (t' := s'.toks) (fun b o hb e => (sb.2 b hb).trans e) f0 f1 f3 f4 f5, rfl, q⟩
end

/-! sorted({..}) -/
section
variable {X : Cx}
def tSortX (w : World) (ta : TE) : TE := fun σ H Q => ta σ H fun x H1 => ∃ (a : Addr) (L : List Str), x = .ref a ∧ H1 a = some (SetXO w a L) ∧ L.length ≤ 1000 ∧
  ∀ (ns : List Str) (p : Addr), sortedS ns = true → ns.Nodup → (∀ k, k ∈ ns ↔ k ∈ L) → H1 p = none → Q (.ref p) (upd H1 p (.lst (ns.map V.str)))
theorem pe_sortX {a : Expr} {ta : TE} {p pos : Pos} (hc : X.calm = true) (hg : Gl X "sorted") (hm : X.mg "sorted" = none) (ha : PE X a ta)
    (na : starEach [a] X.env = (false, eval a X.env) :: starEach [] X.env := by rfl) : PE X (.Call (.Name "sorted" p) [a] [] pos) (tSortX X.w ta) := by
  refine ⟨fun pins s σ H Q I h => ?_⟩
  refine Call_ (ld_blt I hg hm PyProof.Rows.boot_sorted ?_)
  refine PyProof.Rows.callWith_builtin1 (PyProof.Rows.args_cons (thn (ha.run pins s σ H _ I h) fun v s1 ⟨x, H1, I1, r1, q1⟩ => PyProof.Rows.args_nil ?_) na) na rfl
  obtain ⟨b, L, rfl, hb, h1, q1⟩ := q1
  cases r1
  refine sorted_setX (setXO_get I1 hb) (I1.ok.hd hc) h1 fun s' p out c ns k g o hp hgt hi hs hn hmm => ?_
  have hlen : (ns.map V.str).length ≤ sizeLine := by
    rw [List.length_map]
    have := hn.length_le_of_subset (fun k hk => (hmm k).1 hk)
    exact Nat.le_trans (Nat.le_trans this h1) (by decide)
  have hpn : H1 p = none := I1.hok.fresh hp
  have J : Inv X pins σ (upd H1 p (.lst (ns.map V.str))) { s1 with heap := s'.heap, gens := s'.gens, drawn := s'.drawn, toks := s'.toks } :=
    I1.call (ch := []) (Un.laid k hp hpn) (I1.hok.laid k hp ⟨hlen, out.toList, c, vals_of_strs hi, hgt⟩) (by rw [g]; exact I1.bare) (fun _ z => nomatch z)
  have e : s' = { s1 with heap := s'.heap, gens := s'.gens, drawn := s'.drawn, toks := s'.toks } := by
    cases s'
    cases s1
    cases o
    rfl
  rw [e]
  exact ⟨.ref p, _, J, rfl, q1 ns p hs hn hmm hpn⟩
end
end Zx
end

-- ZSc
section
/-! sorted({x for .. for ..}), x a text -/
namespace Zl
open PySem PySem.Spec PyProof.Rows L2

theorem lcL_pre {vs : List Nat} {g : MG} {mt : MT} {me : ME} : ∀ {ds : List D} {ρ : Rho} {acc out : List D} {ρ' : Rho}, lcL vs g mt me ds ρ acc = some (out, ρ') → ∃ t, out = acc ++ t
  | [], ρ, acc, out, ρ', h => by cases h; exact ⟨[], (List.append_nil _).symm⟩
  | d :: ds, ρ, acc, out, ρ', h => by
    rw [lcL] at h
    obtain ⟨ρ1, e1, h⟩ := bnd h
    obtain ⟨⟨b, ρ2⟩, e2, h⟩ := bnd h
    cases b with
    | true =>
      simp only [if_true] at h
      obtain ⟨⟨r, ρ3⟩, e3, h⟩ := bnd h
      obtain ⟨⟨w, ρ4⟩, e4, h⟩ := bnd h
      simp only at h
      split at h
      · obtain ⟨t, e⟩ := lcL_pre h
        exact ⟨w :: t, by rw [e, List.append_assoc]; rfl⟩
      · cases h
    | false =>
      simp only [Bool.false_eq_true, if_false] at h
      exact lcL_pre h
theorem lcL2_pre {vs vs1 : List Nat} {g : MG} {mt : MT} {mi1 : MI} {g1 : MG} {mt1 : MT} {me : ME} : ∀ {ds : List D} {ρ : Rho} {acc out : List D} {ρ' : Rho}, lcL2 vs vs1 g mt mi1 g1 mt1 me ds ρ acc = some (out, ρ') → ∃ t, out = acc ++ t
  | [], ρ, acc, out, ρ', h => by cases h; exact ⟨[], (List.append_nil _).symm⟩
  | d :: ds, ρ, acc, out, ρ', h => by
    rw [lcL2] at h
    obtain ⟨ρ1, e1, h⟩ := bnd h
    obtain ⟨⟨b, ρ2⟩, e2, h⟩ := bnd h
    cases b with
    | true =>
      simp only [if_true] at h
      obtain ⟨⟨ds1, ρ3⟩, e3, h⟩ := bnd h
      simp only at h
      split at h
      · obtain ⟨⟨w, ρ4⟩, e4, h⟩ := bnd h
        obtain ⟨t1, e5⟩ := lcL_pre e4
        obtain ⟨t, e⟩ := lcL2_pre h
        exact ⟨t1 ++ t, by rw [e, e5, List.append_assoc]⟩
      · cases h
    | false =>
      simp only [Bool.false_eq_true, if_false] at h
      exact lcL2_pre h
theorem strs_mem : ∀ {ds : List D} {ys : List Str}, strsOf ds = some ys → (∀ d ∈ ds, ∃ x, d = .str x) ∧ ys.length = ds.length ∧ ds = ys.map PyData.str
  | [], ys, h => by cases h; exact ⟨by simp, rfl, rfl⟩
  | d :: ds, ys, h => by
    cases d with
    | str x =>
      rw [strsOf] at h
      obtain ⟨zs, e, h⟩ := Option.map_eq_some_iff.mp h
      cases h
      obtain ⟨a, b, c⟩ := strs_mem e
      refine ⟨fun d hd => ?_, by simp [b], by rw [List.map_cons, ← c]⟩
      rcases List.mem_cons.mp hd with rfl | hd
      · exact ⟨x, rfl⟩
      · exact a d hd
    | _ => cases h
section
variable {K : KW} {Z Z0 Z1 Z2 Z' : AS} {H H0 H1 H2 H' : Hp} {ρ ρ0 ρ1 ρ2 ρ' : Rho} {σ σ0 σ1 σ2 σ' : St}
theorem Fr.sideX {D : Addr} {u : HO} (f : Fr K Z H ρ σ) (nz : ¬ Z D) (nw : ¬ Ow ρ σ D) (h : ∃ f, H D = some (.ext f)) : Fr K Z (upd H D u) ρ σ := by
  obtain ⟨xs, h⟩ := h
  have tp : ∀ a ys, TQ K H a ys → TQ K (upd H D u) a ys := fun a ys q => TQ.upd q fun o e => by rw [e] at h; cases h
  have ls : ∀ a o, Z a → H a = some o → (upd H D u) a = some o := fun a o z e => by rw [upd_ne (fun z' => by subst z'; exact nz z)]; exact e
  refine ⟨fun a z e => ?_, f.len, fun j d q => let ⟨v, e, r⟩ := f.val _ _ q; ⟨v, e, RD.mono (fun _ z => z) ls tp _ _ r⟩, fun j b o q => ?_, fun j ns q => ?_, f.apart⟩
  · rw [upd_ne (fun z' => by subst z'; exact nz z)] at e; exact f.zl a z e
  · obtain ⟨a, e, nz', ro⟩ := f.own _ _ _ q
    have hne : a ≠ D := fun z => by subst z; exact nw ⟨_, _, _, q, e⟩
    refine ⟨a, e, nz', ?_⟩
    cases o with
    | lst ds => obtain ⟨vs, q, r⟩ := ro; exact ⟨vs, by rw [upd_ne hne]; exact q, RDs.mono (fun _ z => z) ls tp _ _ r⟩
    | dct ds => obtain ⟨vs, q, r⟩ := ro; exact ⟨vs, by rw [upd_ne hne]; exact q, RDk.mono (fun _ z => z) ls tp _ _ r⟩
    | dtp ds => obtain ⟨vs, q, r⟩ := ro; exact ⟨vs, by rw [upd_ne hne]; exact q, RDt.mono (fun _ z => z) ls tp _ _ r.1, r.2⟩
  · obtain ⟨a, e, sc⟩ := f.scr _ _ q
    exact ⟨a, e, sc.keep fun o q => by rw [upd_ne (fun z => by subst z; rw [h] at q; cases q)]; exact q⟩
theorem Go.sideX {D : Addr} {u : HO} (g : Go K Z0 H0 ρ0 σ0 Z H ρ σ) (nz : ¬ Z D) (nw : ¬ Ow ρ σ D) (h : ∃ f, H D = some (.ext f)) (h0 : H0 D = none) : Go K Z0 H0 ρ0 σ0 Z (upd H D u) ρ σ :=
  ⟨⟨fun a o e w => by rw [upd_ne (ne_of_none e h0)]; exact g.st.keep a o e w, g.st.zm, g.st.zn, g.st.wn, fun a e => by
    by_cases z : a = D
    · subst z; exact h0
    · rw [upd_ne z] at e; exact g.st.gr a e⟩, g.fr.sideX nz nw h, g.par⟩
end
section
variable {X : Cx} {elt tg iter tg1 iter1 : Expr} {ifs ifs1 : List Expr} {scope : Scope} {own : List (Str × Nat)} {pos p p2 : Pos} {mi mi1 : MI} {g g1 : MG} {mt mt1 : MT} {me : ME} {js js1 vs1 : List Nat}
def mSsC (vs vs1 : List Nat) (mi : MI) (g : MG) (mt : MT) (mi1 : MI) (g1 : MG) (mt1 : MT) (me : ME) : ME := fun ρ => (mi ρ).bind fun p => if okW p.2 vs = true then (lcL2 vs vs1 g mt mi1 g1 mt1 me p.1 (wipeR p.2 vs) []).bind fun q => (sdF (.list q.1)).map fun r => (r, resto p.2 q.2 vs) else none
theorem tE_SsC {K : KW} {tb tb1 : Bool} {w : World} {vs vs1 : List Nat} (hj : ∀ i ∈ js, i ∈ vs) (hj1 : ∀ i ∈ js1, i ∈ vs1) (hv : ∀ i ∈ vs1, i ∈ vs) : ∀ σ H Q, tE K (mSsC vs vs1 mi g mt mi1 g1 mt1 me) σ H Q → Zx.tSortX w (Zx.tSc2 w (tI K tb mi) (tG K tb js g) (tT K mt) (tI K tb1 mi1) (tG K tb1 js1 g1) (tT K mt1) (tE K me) vs vs1) σ H Q := fun σ H Q ⟨Z, ρ, r, ρ', fr, e, k⟩ => by
  obtain ⟨⟨ds, ρ1⟩, e1, e⟩ := bnd e
  split at e
  · rename_i ok
    obtain ⟨⟨out, ρ2⟩, e2, e⟩ := bnd e
    obtain ⟨r', er, e⟩ := Option.map_eq_some_iff.mp e
    cases e
    unfold sdF at er
    obtain ⟨ys, ey, er⟩ := bnd er
    split at er
    · rename_i hyl
      cases er
      obtain ⟨hmem, hlen, hout⟩ := strs_mem ey
      have hlen : ys.length = out.length := hlen
      have isS : ∀ {d : D} {acc : List D} {t : List D}, out = acc ++ t → d ∈ acc → ∃ x, d = .str x := fun {d acc t} eo hd => hmem d (by rw [eo]; exact List.mem_append_left _ hd)
      have lenS : ∀ {acc : List D} {t : List D}, out = acc ++ t → acc.length ≤ 1000 := fun {acc t} eo => by
        have : out.length = acc.length + t.length := by rw [eo, List.length_append]
        omega
      refine ⟨Z, ρ, ds, ρ1, fr, e1, fun Z1 H1 J g1' wd Dd hDd => ?_⟩
      obtain ⟨G, Y, w', hG, hY⟩ := wd.ex
      have nz1 : ¬ Z1 Dd := fun z => g1'.fr.zl _ z hDd
      have nw1 : ¬ Ow ρ1 σ Dd := fun w => g1'.fr.live w hDd
      have f1 := g1'.fr.wipe vs
      have n0 : Nw Z1 H1 Z1 (upd H1 Dd (Zx.SetXO w Dd [])) := .upd hDd
      have g0 := n0.go f1
      have ks1 : ∀ {Z2 H2 ρ2 σ2}, Go K Z1 H1 (wipeR ρ1 vs) (L2.wipe σ vs) Z2 H2 ρ2 σ2 → Ks K Z1 H1 Z2 H2 := fun g => Go.ks f1 g
      let W : Nat → Nat → Hp → Prop := fun i m H2 => m = ds.length - i ∧ i ≤ ds.length ∧ ∃ Z2 ρ2' L, Go K Z1 H1 (wipeR ρ1 vs) (L2.wipe σ vs) Z2 H2 ρ2' (L2.wipe σ vs) ∧ H2 Dd = some (Zx.SetXO w Dd L) ∧ ¬ Z2 Dd ∧ ¬ Ow ρ2' (L2.wipe σ vs) Dd ∧ lcL2 vs vs1 g mt mi1 g1 mt1 me (ds.drop i) ρ2' (L.map PyData.str) = some (out, ρ2)
      refine ⟨W, ⟨ds.length, by simp, Nat.zero_le _, Z1, _, [], g0, upd_same, nz1, fun w => nw1 (ow_wipe w), by rw [List.drop_zero]; exact e2⟩, ?_⟩
      rintro i m H2 ⟨rfl, hile, Z2, ρ2', L, g2, hD, nz, nw, e3⟩
      by_cases hi : i < ds.length
      · refine .inr ⟨w'.goes i H2 hi (hG Z2 H2 (ks1 g2)), W (i + 1) (ds.length - (i + 1)), fun H' h => ⟨_, by omega, h⟩, fun x H3 y => ?_⟩
        have y := w'.yields i H2 x H3 hi (hG Z2 H2 (ks1 g2)) y
        obtain ⟨d, Z3, hd, n3, rd⟩ := hY Z2 H2 i x H3 (ks1 g2) hi y
        rw [drop_cons hd] at e3
        obtain ⟨ρ4, e4, e3⟩ := bnd e3
        obtain ⟨⟨b, ρ5⟩, e5, e3⟩ := bnd e3
        have g3 := n3.go g2.fr
        refine ⟨Z3, ρ2', d, ρ4, g3.fr, rd, e4, fun Z4 H4 σ4 g4 o4 => ?_⟩
        have hw : L2.wipe σ4 vs = L2.wipe (L2.wipe σ vs) vs := wipe_off o4 hj
        rw [wipe_idem fun i hi => hi] at hw
        refine ⟨hw, Z4, ρ4, b, ρ5, g4.fr, e5, fun Z5 H5 g5 => ?_⟩
        have g25 := (g3.trans g4).trans g5
        have keepD : ∀ {Z6 H6 ρ6 σ6}, Go K Z2 H2 ρ2' (L2.wipe σ vs) Z6 H6 ρ6 σ6 → H6 Dd = some (Zx.SetXO w Dd L) ∧ ¬ Z6 Dd ∧ ¬ Ow ρ6 σ6 Dd := by
          intro Z6 H6 ρ6 σ6 g6
          refine ⟨g6.st.keep _ _ hD nw, fun z => ?_, fun w => ?_⟩
          · rcases g6.st.zn _ z with z | z | z
            · exact nz z
            · rw [hD] at z; cases z
            · exact nw z
          · rcases g6.st.wn _ w with z | z
            · exact nw z
            · rw [hD] at z; cases z
        try simp only at e3
        cases b with
        | false =>
          rw [if_neg Bool.false_ne_true] at e3
          refine iteF ?_
          obtain ⟨h5, nz5, nw5⟩ := keepD g25
          refine ⟨rfl, by omega, Z5, wipeR ρ5 vs, L, ?_, h5, nz5, ?_, e3⟩
          · have := (g2.trans g25).wipe vs; rw [hw] at this; exact this
          · rw [← hw]; exact fun w => nw5 (ow_wipe w)
        | true =>
          rw [if_pos rfl] at e3
          refine iteT ?_
          obtain ⟨⟨ds1, ρ6⟩, e6, e3⟩ := bnd e3
          split at e3
          · rename_i ok1
            obtain ⟨⟨acc', ρ7⟩, e7, e3⟩ := bnd e3
            obtain ⟨t3, eo3⟩ := lcL2_pre e3
            refine ⟨Z5, ρ5, ds1, ρ6, g5.fr, e6, fun Z6 H6 J1 g6 wd1 => ?_⟩
            obtain ⟨G1, Y1, w1, hG1, hY1⟩ := wd1.ex
            have g26 := g25.trans g6
            have g16 := g2.trans g26
            obtain ⟨h6, nz6, nw6⟩ := keepD g26
            have f6 := g6.fr.wipe vs1
            -- the state of the inner loop, from (Z1, H1)
            let V1 : Nat → Nat → Hp → Prop := fun j n H7 => n = ds1.length - j ∧ j ≤ ds1.length ∧ ∃ Z7 ρ7' L7, Go K Z1 H1 (wipeR ρ1 vs) (L2.wipe σ vs) Z7 H7 ρ7' (L2.wipe σ4 vs1) ∧ Ks K Z6 H6 Z7 H7 ∧ H7 Dd = some (Zx.SetXO w Dd L7) ∧ ¬ Z7 Dd ∧ ¬ Ow ρ7' (L2.wipe σ4 vs1) Dd ∧ lcL vs1 g1 mt1 me (ds1.drop j) ρ7' (L7.map PyData.str) = some (acc', ρ7)
            refine ⟨V1, ⟨ds1.length, by simp, Nat.zero_le _, Z6, _, L, g16.wipe vs1, ⟨fun _ z => z, fun _ _ _ e => e, fun _ _ e => e, fun _ _ _ e => e⟩, h6, nz6, fun w => nw6 (ow_wipe w), by rw [List.drop_zero]; exact e7⟩, ?_⟩
            rintro j n H7 ⟨rfl, hjle, Z7, ρ7', L7, g7, ks7, hD7, nz7, nw7, e8⟩
            by_cases hj7 : j < ds1.length
            · refine .inr ⟨w1.goes j H7 hj7 (hG1 Z7 H7 ks7), V1 (j + 1) (ds1.length - (j + 1)), fun H' h => ⟨_, by omega, h⟩, fun x H8 y => ?_⟩
              have y := w1.yields j H7 x H8 hj7 (hG1 Z7 H7 ks7) y
              obtain ⟨d, Z8, hd, n8, rd⟩ := hY1 Z7 H7 j x H8 ks7 hj7 y
              rw [drop_cons hd] at e8
              obtain ⟨ρ9, e9, e8⟩ := bnd e8
              obtain ⟨⟨b, ρ10⟩, e10, e8⟩ := bnd e8
              have g8 := n8.go g7.fr
              refine ⟨Z8, ρ7', d, ρ9, g8.fr, rd, e9, fun Z9 H9 σ9 g9 o9 => ?_⟩
              have hw9 : L2.wipe σ9 vs1 = L2.wipe (L2.wipe σ4 vs1) vs1 := wipe_off o9 hj1
              rw [wipe_idem fun i hi => hi] at hw9
              refine ⟨hw9, Z9, ρ9, b, ρ10, g9.fr, e10, fun Z10 H10 g10 => ?_⟩
              have g710 := (g8.trans g9).trans g10
              have ksT : ∀ {Za Ha ρa σa Zb Hb ρb σb}, Fr K Za Ha ρa σa → Go K Za Ha ρa σa Zb Hb ρb σb → Ks K Z6 H6 Za Ha → Ks K Z6 H6 Zb Hb := fun fa gab ka =>
                have kb := Go.ks fa gab
                ⟨fun a z => kb.zm a (ka.zm a z), fun a o z e => kb.ls a o (ka.zm a z) (ka.ls a o z e), fun a xs e => kb.tp a xs (ka.tp a xs e), fun a o u e => kb.fz a o u (ka.fz a o u e)⟩
              have keep7 : ∀ {Zb Hb ρb σb}, Go K Z7 H7 ρ7' (L2.wipe σ4 vs1) Zb Hb ρb σb → Hb Dd = some (Zx.SetXO w Dd L7) ∧ ¬ Zb Dd ∧ ¬ Ow ρb σb Dd := by
                intro Zb Hb ρb σb gb
                refine ⟨gb.st.keep _ _ hD7 nw7, fun z => ?_, fun w => ?_⟩
                · rcases gb.st.zn _ z with z | z | z
                  · exact nz7 z
                  · rw [hD7] at z; cases z
                  · exact nw7 z
                · rcases gb.st.wn _ w with z | z
                  · exact nw7 z
                  · rw [hD7] at z; cases z
              try simp only at e8
              cases b with
              | false =>
                rw [if_neg Bool.false_ne_true] at e8
                refine iteF ?_
                obtain ⟨q1, q2, q3⟩ := keep7 g710
                refine ⟨rfl, by omega, Z10, wipeR ρ10 vs1, L7, ?_, ksT g7.fr g710 ks7, q1, q2, ?_, e8⟩
                · have := (g7.trans g710).wipe vs1; rw [hw9] at this; exact this
                · rw [← hw9]; exact fun w => q3 (ow_wipe w)
              | true =>
                rw [if_pos rfl] at e8
                refine iteT ?_
                obtain ⟨⟨r11, ρ11⟩, e11, e8⟩ := bnd e8
                obtain ⟨⟨d12, ρ12⟩, e12, e8⟩ := bnd e8
                refine ⟨Z10, ρ10, r11, ρ11, g10.fr, e11, fun Z11 H11 v11 g11 h11 => ?_⟩
                obtain ⟨Z12, _, g12, rd12⟩ := fz_ok g11 h11 e12
                try simp only at e8
                split at e8
                · rename_i hlen
                  obtain ⟨t8, eo8⟩ := lcL_pre e8
                  have eo : out = (L7.map PyData.str ++ [d12]) ++ (t8 ++ t3) := by rw [eo3, eo8, List.append_assoc]
                  obtain ⟨c, rfl⟩ := isS eo (List.mem_append_right _ (List.mem_singleton.mpr rfl))
                  have hlS := lenS eo
                  have ev : v11 = .str c := by simpa only [RD] using rd12
                  obtain ⟨q1, q2, q3⟩ := keep7 (g710.trans g12)
                  have k13 := ksT g7.fr (g710.trans g12) ks7
                  have ga := (g7.trans (g710.trans g12)).sideX (u := Zx.SetXO w Dd (L7 ++ [c])) q2 q3 ⟨_, q1⟩ hDd
                  have em : (L7 ++ [c]).map PyData.str = L7.map PyData.str ++ [.str c] := by rw [List.map_append]; rfl
                  refine ⟨c, L7, ev, q1, by rw [List.length_append, List.length_map] at hlS; simp only [List.length_cons, List.length_nil] at hlS; unfold scanBound; omega, rfl, by omega, Z12, wipeR ρ12 vs1, L7 ++ [c], ?_, ⟨k13.zm, fun a o z e => ?_, fun a xs e => ?_, fun a o u e => ?_⟩, upd_same, q2, ?_, by rw [em]; exact e8⟩
                  · have := ga.wipe vs1; rw [hw9] at this; exact this
                  · rw [upd_ne (fun z' => by subst z'; exact q2 (k13.zm _ z))]; exact k13.ls a o z e
                  · have q := k13.tp a xs e
                    exact TQ.upd q fun o e => by rw [q1] at e; cases e
                  · have q := k13.fz a o u e
                    rw [upd_ne (fun z => by subst z; rw [q1] at q; cases q)]; exact q
                  · rw [← hw9]; exact fun w => q3 (ow_wipe w)
                · cases e8
            · have ej : j = ds1.length := by omega
              subst ej
              rw [List.drop_length] at e8
              cases e8
              refine .inl ⟨w1.stops H7 (hG1 Z7 H7 ks7), rfl, by omega, Z7, wipeR ρ7 vs, _, ?_, hD7, nz7, ?_, e3⟩
              · have := g7.wipe vs
                rw [wipe_wipe hv, hw] at this; exact this
              · rw [← hw, ← wipe_wipe hv]; exact fun w => nw7 (ow_wipe w)
          · cases e3
      · have ej : i = ds.length := by omega
        subst ej
        rw [List.drop_length] at e3
        cases e3
        have gb := Go.back g1'.fr ok g2
        have ga := g1'.trans gb
        have eL : L = ys := by
          have : L.map PyData.str = ys.map PyData.str := hout
          exact (List.map_inj_right (fun a b h => by injection h)).mp this
        subst eL
        refine .inl ⟨w'.stops H2 (hG Z2 H2 (ks1 g2)), Dd, L, rfl, hD, hyl, fun ns pp hs hn hm hp => ?_⟩
        rw [setS_of hs hn hm]
        exact q_lst ga.fr.zl (rds_strs _) (fun Z' H' v n nr => k Z' H' v (ga.trans (n.go ga.fr)) (nr.rr ga n)) pp hp
    · cases er
  · cases e
theorem ce_ssc (hc : X.calm = true) (hN : X.N.Nodup) (hg0 : Gl X "sorted") (hm0 : X.mg "sorted" = none) (hi : CI X tg iter mi) (ok : BlkOk X.N X.env.scope scope own) (hj : ∀ i ∈ js, i ∈ own.map (·.2)) (hj1 : ∀ i ∈ js1, i ∈ vs1) (hv : ∀ i ∈ vs1, i ∈ own.map (·.2))
    (hg : ∀ (s : Shared) (H : Hp) (C : Addr) (cl : List (Str × Addr)) (fp : List Addr), CG (X.blk s H scope (compEnvC scope cl C X.env) fp) js tg g) (ht : ∀ (s : Shared) (H : Hp) (C : Addr) (cl : List (Str × Addr)) (fp : List Addr), PTsC (X.blk s H scope (compEnvC scope cl C X.env) fp) ifs mt)
    (hi1 : ∀ (s : Shared) (H : Hp) (C : Addr) (cl : List (Str × Addr)) (fp : List Addr), CI (X.blk s H scope (compEnvC scope cl C X.env) fp) tg1 iter1 mi1)
    (hg1 : ∀ (s : Shared) (H : Hp) (C : Addr) (cl : List (Str × Addr)) (fp : List Addr), CG (X.blk s H scope (compEnvC scope cl C X.env) fp) js1 tg1 g1) (ht1 : ∀ (s : Shared) (H : Hp) (C : Addr) (cl : List (Str × Addr)) (fp : List Addr), PTsC (X.blk s H scope (compEnvC scope cl C X.env) fp) ifs1 mt1)
    (he : ∀ (s : Shared) (H : Hp) (C : Addr) (cl : List (Str × Addr)) (fp : List Addr), CE (X.blk s H scope (compEnvC scope cl C X.env) fp) elt me) (hs : ∀ x, foldedSetIterable iter X.env x = pure x := by intro _; rfl) (hs1 : ∀ env x, foldedSetIterable iter1 env x = pure x := by intro _ _; rfl)
    (na : starEach [.SetComp elt [⟨tg, iter, ifs, 0⟩, ⟨tg1, iter1, ifs1, 0⟩] scope pos] X.env = (false, eval (.SetComp elt [⟨tg, iter, ifs, 0⟩, ⟨tg1, iter1, ifs1, 0⟩] scope pos) X.env) :: starEach [] X.env := by rfl) :
    CE X (.Call (.Name "sorted" p) [.SetComp elt [⟨tg, iter, ifs, 0⟩, ⟨tg1, iter1, ifs1, 0⟩] scope pos] [] p2) (mSsC (own.map (·.2)) vs1 mi g mt mi1 g1 mt1 me) :=
  pe_imp (Zx.pe_sortX hc hg0 hm0 (Zx.pe_sc2 (wi1 := tI X.KW (isTup tg1) mi1) (g := tG X.KW (isTup tg) js g) (tt := tT X.KW mt) (g1 := tG X.KW (isTup tg1) js1 g1) (tt1 := tT X.KW mt1) (te := tE X.KW me) hc hN hi ok hv hg ht hi1 hg1 ht1 he hs hs1) (na := na)) (tE_SsC hj hj1 hv)
end
end Zl
end

-- ZIo
section
/-! a call that changes several of the containers handed in -/
namespace Zl
open PySem PySem.Spec PyProof.Rows L2

def shR : List Bool → List R → List R
  | true :: bs, _ :: rs => .val .none :: shR bs rs
  | false :: bs, r :: rs => r :: shR bs rs
  | _, _ => []
def shV : List Bool → List V → List V
  | true :: bs, _ :: vs => .non :: shV bs vs
  | false :: bs, v :: vs => v :: shV bs vs
  | _, _ => []
def ioJs : List Bool → List R → List Nat
  | true :: bs, .bor j :: rs => j :: ioJs bs rs
  | true :: bs, _ :: rs => ioJs bs rs
  | false :: bs, _ :: rs => ioJs bs rs
  | _, _ => []
def ioArgs (ρ : Rho) : List Bool → List R → Option Rho
  | [], [] => some []
  | true :: bs, .bor j :: rs => match ρ[j]? with
    | some (Sl.own _ o) => (ioArgs ρ bs rs).map fun q => Sl.own true o :: q
    | _ => none
  | false :: bs, r :: rs => (vArg ρ r).bind fun s => (ioArgs ρ bs rs).map fun q => s :: q
  | _, _ => none
/-- what the slots hold behind the call -/
def ioOut : List Bool → List R → Rho → Option (List (Nat × O))
  | [], [], [] => some []
  | true :: bs, .bor j :: rs, .own _ o :: ρ => (ioOut bs rs ρ).map fun q => (j, o) :: q
  | false :: bs, _ :: rs, _ :: ρ => ioOut bs rs ρ
  | _, _, _ => none
def setO (ρ : Rho) (p : Nat × O) : Rho := match ρ[p.1]? with
  | some (Sl.own b _) => ρ.set p.1 (.own b p.2)
  | _ => ρ
def setOs : List (Nat × O) → Rho → Rho
  | [], ρ => ρ
  | p :: l, ρ => setO (setOs l ρ) p
def mCallM (F : ME) (bs : List Bool) (ms : MA) : ME := fun ρ => (ms ρ).bind fun p => if vIx p.2 (shR bs p.1) = [] ∧ (ioJs bs p.1).Nodup then (ioArgs p.2 bs p.1).bind fun ρa => (F ρa).bind fun q => if noBor q.1 = true then (ioOut bs p.1 q.2).map fun l => (q.1, setOs l p.2) else none else none
section
variable {K : KW} {Z Z1 Z2 Z' : AS} {H H1 H' : Hp} {ρ ρ1 ρ' ρa ρa' : Rho} {σ : St} {rs : List R} {vs : List V} {bs : List Bool}
theorem ioArgs_sh : ∀ {bs : List Bool} {rs : List R} {ρa : Rho}, ioArgs ρ bs rs = some ρa → ∃ ρs, vArgs ρ (shR bs rs) = some ρs ∧ bs.length = rs.length ∧ ρs.length = ρa.length ∧
    ∀ (k : Nat) (s : Sl), ρa[k]? = some s → (bs[k]? = some true ∧ ∃ j b o, rs[k]? = some (.bor j) ∧ ρ[j]? = some (Sl.own b o) ∧ s = .own true o) ∨ (bs[k]? = some false ∧ ρs[k]? = some s)
  | [], [], ρa, h => by cases h; exact ⟨[], rfl, rfl, rfl, fun k s h => by simp at h⟩
  | [], _ :: _, _, h => by cases h
  | true :: bs, [], _, h => by cases h
  | false :: bs, [], _, h => by cases h
  | true :: bs, .val _ :: rs, _, h => by cases h
  | true :: bs, .own _ :: rs, _, h => by cases h
  | true :: bs, .bor j :: rs, ρa, h => by
    simp only [ioArgs] at h
    split at h
    · rename_i b o q
      obtain ⟨ρt, e, h⟩ := Option.map_eq_some_iff.mp h
      cases h
      obtain ⟨ρs, e1, e2, e3, e4⟩ := ioArgs_sh e
      refine ⟨Sl.val .none :: ρs, by simp [shR, vArgs, vArg, e1], by simp [e2], by simp [e3], fun k s hk => ?_⟩
      cases k with
      | zero => simp at hk; subst hk; exact .inl ⟨rfl, j, b, o, rfl, q, rfl⟩
      | succ k => simpa using e4 k s (by simpa using hk)
    · cases h
  | false :: bs, r :: rs, ρa, h => by
    obtain ⟨s0, e0, h⟩ := bnd h
    obtain ⟨ρt, e, h⟩ := Option.map_eq_some_iff.mp h
    cases h
    obtain ⟨ρs, e1, e2, e3, e4⟩ := ioArgs_sh e
    refine ⟨s0 :: ρs, by simp [shR, vArgs, e0, e1], by simp [e2], by simp [e3], fun k s hk => ?_⟩
    cases k with
    | zero => simp at hk; subst hk; exact .inr ⟨rfl, rfl⟩
    | succ k => simpa using e4 k s (by simpa using hk)
theorem shP : ∀ {bs : List Bool} {rs : List R} {vs : List V}, bs.length = rs.length → Paired (RR K H Z1 H1 ρ1 σ) rs vs → Paired (RR K H Z1 H1 ρ1 σ) (shR bs rs) (shV bs vs)
  | [], [], _, _, .nil => .nil
  | true :: bs, _ :: rs, _, hl, .cons _ t => .cons (by simp only [RR, RD]) (shP (by simpa using hl) t)
  | false :: bs, _ :: rs, _, hl, .cons h t => .cons h (shP (by simpa using hl) t)
theorem shV_get : ∀ {bs : List Bool} {vs : List V} {k : Nat}, bs[k]? = some false → (shV bs vs)[k]? = vs[k]?
  | [], _, _, h => by simp at h
  | true :: bs, [], k, h => by simp [shV]
  | false :: bs, [], k, h => by simp [shV]
  | true :: bs, v :: vs, 0, h => by simp at h
  | false :: bs, v :: vs, 0, h => rfl
  | true :: bs, v :: vs, k + 1, h => by simpa [shV] using shV_get (bs := bs) (vs := vs) (k := k) (by simpa using h)
  | false :: bs, v :: vs, k + 1, h => by simpa [shV] using shV_get (bs := bs) (vs := vs) (k := k) (by simpa using h)
theorem js_mem : ∀ {bs : List Bool} {rs : List R} {k j : Nat}, bs[k]? = some true → rs[k]? = some (.bor j) → j ∈ ioJs bs rs
  | [], _, _, _, h, _ => by simp at h
  | b :: bs, [], _, _, _, h => by simp at h
  | true :: bs, r :: rs, 0, j, _, h => by simp at h; subst h; simp [ioJs]
  | false :: bs, r :: rs, 0, j, h, _ => by simp at h
  | true :: bs, .bor i :: rs, k + 1, j, h, h' => by
    simp only [ioJs]
    exact List.mem_cons_of_mem _ (js_mem (k := k) (by simpa using h) (by simpa using h'))
  | true :: bs, .val _ :: rs, k + 1, j, h, h' => by simp only [ioJs]; exact js_mem (k := k) (by simpa using h) (by simpa using h')
  | true :: bs, .own _ :: rs, k + 1, j, h, h' => by simp only [ioJs]; exact js_mem (k := k) (by simpa using h) (by simpa using h')
  | false :: bs, _ :: rs, k + 1, j, h, h' => by simp only [ioJs]; exact js_mem (k := k) (by simpa using h) (by simpa using h')
theorem js_inj : ∀ {bs : List Bool} {rs : List R} {k l j : Nat}, (ioJs bs rs).Nodup → bs[k]? = some true → rs[k]? = some (.bor j) → bs[l]? = some true → rs[l]? = some (.bor j) → k = l
  | [], _, _, _, _, _, h, _, _, _ => by simp at h
  | b :: bs, [], _, _, _, _, _, h, _, _ => by simp at h
  | b :: bs, r :: rs, 0, 0, j, _, _, _, _, _ => rfl
  | b :: bs, r :: rs, 0, l + 1, j, nd, h1, h2, h3, h4 => by
    simp at h1 h2; subst h1 h2
    simp only [ioJs] at nd
    exact ((List.nodup_cons.mp nd).1 (js_mem (k := l) (by simpa using h3) (by simpa using h4))).elim
  | b :: bs, r :: rs, k + 1, 0, j, nd, h1, h2, h3, h4 => by
    simp at h3 h4; subst h3 h4
    simp only [ioJs] at nd
    exact ((List.nodup_cons.mp nd).1 (js_mem (k := k) (by simpa using h1) (by simpa using h2))).elim
  | b :: bs, r :: rs, k + 1, l + 1, j, nd, h1, h2, h3, h4 => by
    have nd' : (ioJs bs rs).Nodup := by
      cases b with
      | false => simpa only [ioJs] using nd
      | true =>
        cases r with
        | bor i => simp only [ioJs] at nd; exact (List.nodup_cons.mp nd).2
        | _ => simpa only [ioJs] using nd
    rw [js_inj (k := k) (l := l) nd' (by simpa using h1) (by simpa using h2) (by simpa using h3) (by simpa using h4)]
theorem out_get : ∀ {bs : List Bool} {rs : List R} {ρ : Rho} {l : List (Nat × O)}, ioOut bs rs ρ = some l → (∀ p ∈ l, ∃ (k : Nat) (b : Bool), bs[k]? = some true ∧ rs[k]? = some (R.bor p.1) ∧ ρ[k]? = some (Sl.own b p.2)) ∧ (∀ j, j ∈ ioJs bs rs ↔ j ∈ l.map (·.1))
  | [], [], [], l, h => by cases h; simp [ioJs]
  | true :: bs, .bor j :: rs, .own b o :: ρ, l, h => by
    simp only [ioOut] at h
    obtain ⟨l', e, h⟩ := Option.map_eq_some_iff.mp h
    cases h
    obtain ⟨a1, a2⟩ := out_get e
    refine ⟨fun p hp => ?_, fun i => by simp only [ioJs, List.map_cons, List.mem_cons, a2]⟩
    rcases List.mem_cons.mp hp with rfl | hp
    · exact ⟨0, b, rfl, rfl, rfl⟩
    · obtain ⟨k, b', h1, h2, h3⟩ := a1 p hp
      exact ⟨k + 1, b', by simpa using h1, by simpa using h2, by simpa using h3⟩
  | false :: bs, _ :: rs, _ :: ρ, l, h => by
    simp only [ioOut] at h
    obtain ⟨a1, a2⟩ := out_get h
    refine ⟨fun p hp => ?_, fun i => by simp only [ioJs]; exact a2 i⟩
    obtain ⟨k, b', h1, h2, h3⟩ := a1 p hp
    exact ⟨k + 1, b', by simpa using h1, by simpa using h2, by simpa using h3⟩
  | [], _ :: _, _, _, h => by simp [ioOut] at h
  | [], [], _ :: _, _, h => by simp [ioOut] at h
  | true :: _, [], _, _, h => by simp [ioOut] at h
  | false :: _, [], _, _, h => by simp [ioOut] at h
  | true :: _, .val _ :: _, _, _, h => by simp [ioOut] at h
  | true :: _, .own _ :: _, _, _, h => by simp [ioOut] at h
  | true :: _, .bor _ :: _, [], _, h => by simp [ioOut] at h
  | true :: _, .bor _ :: _, .no :: _, _, h => by simp [ioOut] at h
  | true :: _, .bor _ :: _, .val _ :: _, _, h => by simp [ioOut] at h
  | true :: _, .bor _ :: _, .scr _ :: _, _, h => by simp [ioOut] at h
  | false :: _, _ :: _, [], _, h => by simp [ioOut] at h
theorem setO_len {p : Nat × O} : (setO ρ p).length = ρ.length := by
  unfold setO
  split
  · rw [List.length_set]
  · rfl
theorem setOs_len : ∀ {l : List (Nat × O)}, (setOs l ρ).length = ρ.length
  | [] => rfl
  | p :: l => by rw [setOs, setO_len, setOs_len]
theorem setO_get {p : Nat × O} {i : Nat} {s : Sl} (h : (setO ρ p)[i]? = some s) : (ρ[i]? = some s ∧ (i = p.1 → ∀ b o, s ≠ .own b o)) ∨ (i = p.1 ∧ ∃ b o, ρ[i]? = some (Sl.own b o) ∧ s = .own b p.2) := by
  unfold setO at h
  split at h
  · rename_i b o q
    rcases set_get h with ⟨rfl, e, _⟩ | ⟨n, h⟩
    · exact .inr ⟨rfl, b, o, q, e⟩
    · exact .inl ⟨h, fun e => (n e).elim⟩
  · rename_i nq
    refine .inl ⟨h, fun e b o es => ?_⟩
    subst e es
    exact nq b o h
theorem setOs_get : ∀ {l : List (Nat × O)} {i : Nat} {s : Sl}, (setOs l ρ)[i]? = some s → (ρ[i]? = some s ∧ (i ∈ l.map (·.1) → ∀ b o, s ≠ .own b o)) ∨ ∃ b o o', (i, o') ∈ l ∧ ρ[i]? = some (Sl.own b o) ∧ s = .own b o'
  | [], i, s, h => .inl ⟨h, fun z => by simp at z⟩
  | p :: l, i, s, h => by
    rw [setOs] at h
    rcases setO_get h with ⟨h, n⟩ | ⟨e, b, o, h, es⟩
    · rcases setOs_get h with ⟨h, n'⟩ | ⟨b, o, o', hm, h, es⟩
      · refine .inl ⟨h, fun z => ?_⟩
        rw [List.map_cons, List.mem_cons] at z
        exact z.elim (fun e => n e) n'
      · exact .inr ⟨b, o, o', List.mem_cons_of_mem _ hm, h, es⟩
    · rcases setOs_get h with ⟨h, _⟩ | ⟨b', o', o'', _, h, eo⟩
      · exact .inr ⟨b, o, p.2, by rw [e]; exact List.mem_cons_self, h, es⟩
      · cases eo
        exact .inr ⟨b, o', p.2, by rw [e]; exact List.mem_cons_self, h, es⟩
theorem tE_callM {F : ME} {ms : MA} {n : Nat} {E : XK} (hF : ∀ ρ r, F ρ = some r → ρ.length = n) : ∀ σ H Q, tE K (mCallM F bs ms) σ H Q → tCall (spD K F n) [] E (tAR K ms) σ H Q := fun σ H Q ⟨Z, ρ, r, ρ', fr, e, k⟩ => by
  obtain ⟨⟨rs, ρ1⟩, e1, e⟩ := bnd e
  simp only at e
  split at e
  · rename_i hcond
    obtain ⟨hv0, hnd⟩ := hcond
    obtain ⟨ρa, e2, e⟩ := bnd e
    obtain ⟨⟨r3, ρa'⟩, e3, e⟩ := bnd e
    simp only at e
    split at e
    · rename_i nb
      obtain ⟨l, el, e⟩ := Option.map_eq_some_iff.mp e
      cases e
      obtain ⟨ol, oj⟩ := out_get el
      obtain ⟨ρs, s1, s2, s3, s4⟩ := ioArgs_sh e2
      refine ⟨Z, ρ, rs, ρ1, fr, e1, fun Z1 H1 vs g1 h1 => ?_⟩
      have hP := shP (bs := bs) s2 h1
      obtain ⟨fs, nos⟩ := args_fr g1.fr hP s1 rfl
      have nvw : ∀ a, ¬ Vw ρ1 σ (vIx ρ1 (shR bs rs)) a := fun a ⟨j, hj, _⟩ => by rw [hv0] at hj; simp at hj
      have hla : ρa.length = vs.length := by
        have a1 := fs.len
        rw [List.length_map, ← paired_len hP] at a1
        have a2 : (shR bs rs).length = rs.length := by
          have : ∀ {bs : List Bool} {rs : List R}, bs.length = rs.length → (shR bs rs).length = rs.length := fun {bs} => by
            induction bs with
            | nil => intro rs h; cases rs <;> simp_all [shR]
            | cons b bs ih =>
              intro rs h
              cases rs with
              | nil => simp at h
              | cons r rs => cases b <;> simp [shR, ih (rs := rs) (by simpa using h)]
          exact this s2
        rw [← s3, a1, a2, paired_len h1]
      have hl : vs.length = n := by rw [← hla]; exact hF _ _ e3
      have bor_at : ∀ {k j : Nat} {b : Bool} {o : O}, rs[k]? = some (.bor j) → ρ1[j]? = some (Sl.own b o) → ∃ a, vs[k]? = some (V.ref a) ∧ σ[j]? = some (some (V.ref a)) ∧ ¬ Z1 a ∧ RO K Z1 H1 o a := fun {k j b o} hr hq => by
        obtain ⟨v, hv, rr⟩ := paired_at h1 hr
        have hσ : σ[j]? = some (some v) := rr
        obtain ⟨a, ea, nz, ro⟩ := g1.fr.own _ _ _ hq
        rw [hσ] at ea; cases ea
        exact ⟨a, hv, hσ, nz, ro⟩
      have nz2 : ∀ {j : Nat} {b : Bool} {o : O} {a : Addr}, ρ1[j]? = some (Sl.own b o) → σ[j]? = some (some (V.ref a)) → ¬ (Z1 a ∨ Tm (shR bs rs) (shV bs vs) a ∨ Vw ρ1 σ (vIx ρ1 (shR bs rs)) a) := fun hq he z => nvw _ (not_shown g1.fr hP rfl hq he z).1
      have fa : Fr K (fun a => Z1 a ∨ Tm (shR bs rs) (shV bs vs) a ∨ Vw ρ1 σ (vIx ρ1 (shR bs rs)) a) H1 ρa (vs.map some) := by
        refine ⟨fs.zl, by rw [List.length_map, hla], fun k d q => ?_, fun k b o q => ?_, fun k ns q => ?_, fun k j b1 b2 o1 o2 a q1 q2 x1 x2 => ?_⟩
        · rcases s4 k _ q with ⟨_, _, _, _, _, _, z⟩ | ⟨hb, q⟩
          · cases z
          · obtain ⟨v, ev, rd⟩ := fs.val k d q
            rw [List.getElem?_map, shV_get hb] at ev
            exact ⟨v, by rw [List.getElem?_map]; exact ev, rd⟩
        · rcases s4 k _ q with ⟨hb, j, b', o', hr, hq, z⟩ | ⟨hb, q⟩
          · cases z
            obtain ⟨a, hv, hσ, nz, ro⟩ := bor_at hr hq
            exact ⟨a, by rw [List.getElem?_map, hv]; rfl, nz2 hq hσ, ro.zmono fun b z => .inl z⟩
          · exact (nos k b o q).elim
        · rcases s4 k _ q with ⟨_, _, _, _, _, _, z⟩ | ⟨hb, q⟩
          · cases z
          · obtain ⟨a, ev, sc⟩ := fs.scr k ns q
            rw [List.getElem?_map, shV_get hb] at ev
            exact ⟨a, by rw [List.getElem?_map]; exact ev, sc⟩
        · rcases s4 k _ q1 with ⟨hb, j1, b', o', hr, hq, z⟩ | ⟨hb, q⟩
          · rcases s4 j _ q2 with ⟨hb2, j2, b2', o2', hr2, hq2, z2⟩ | ⟨hb2, q2⟩
            · obtain ⟨a', hv, hσ, _⟩ := bor_at hr hq
              obtain ⟨a'', hv2, hσ2, _⟩ := bor_at hr2 hq2
              rw [List.getElem?_map, hv] at x1
              rw [List.getElem?_map, hv2] at x2
              cases x1; cases x2
              have := g1.fr.apart _ _ _ _ _ _ _ hq hq2 hσ hσ2
              subst this
              exact js_inj hnd hb hr hb2 hr2
            · exact (nos j _ _ q2).elim
          · exact (nos k _ _ q).elim
      have owa : ∀ a, Ow ρa (vs.map some) a → ∃ (k j : Nat) (b : Bool) (o : O), bs[k]? = some true ∧ rs[k]? = some (R.bor j) ∧ ρ1[j]? = some (Sl.own b o) ∧ σ[j]? = some (some (V.ref a)) := fun a ⟨k, b, o, q, e⟩ => by
        rcases s4 k _ q with ⟨hb, j, b', o', hr, hq, z⟩ | ⟨hb, q⟩
        · obtain ⟨a', hv, hσ, _⟩ := bor_at hr hq
          rw [List.getElem?_map, hv] at e
          cases e
          exact ⟨k, j, b', o', hb, hr, hq, hσ⟩
        · exact (nos k b o q).elim
      have ow1 : ∀ a, Ow ρa (vs.map some) a → Ow ρ1 σ a := fun a w => let ⟨_, j, b, o, _, _, hq, hσ⟩ := owa a w; ⟨j, b, o, hq, hσ⟩
      show spD K F n (vs ++ []) H1 Q E
      rw [List.append_nil]
      refine ⟨hl, _, ρa, _, ρa', fa, e3, fun Z' H' v ga hr => ?_⟩
      have zin : ∀ a, Z' a → H1 a ≠ none → ¬ Ow ρa (vs.map some) a → Z1 a ∨ Tm (shR bs rs) (shV bs vs) a ∨ Vw ρ1 σ (vIx ρ1 (shR bs rs)) a := fun a z hn nw => by
        rcases ga.st.zn a z with z | z | z
        · exact z
        · exact (hn z).elim
        · exact (nw z).elim
      have gf : Go K Z H ρ σ Z' H' (setOs l ρ1) σ := by
        refine call_end g1 hP rfl fa ga (fun a w => g1.st.wn a (ow1 a w)) (fun a _ => nvw a) setOs_len (fun a z => z) (fun a z => ga.st.zm a (.inl z)) (fun a z => .inl z) fun i s qs => ?_
        rcases setOs_get qs with ⟨qs, nn⟩ | ⟨b, o, o', hm, hq, es⟩
        · refine .inl ⟨qs, fun b o es a ea => ?_⟩
          subst es
          have nj : i ∉ ioJs bs rs := fun z => nn ((oj i).1 z) b o rfl
          have nw : ¬ Ow ρa (vs.map some) a := fun w => by
            obtain ⟨k', j, b', o', hb, hrk, hq, hσ⟩ := owa a w
            have := g1.fr.apart _ _ _ _ _ _ _ qs hq ea hσ
            subst this
            exact nj (js_mem hb hrk)
          exact ⟨fun z => nz2 qs ea (zin a z (g1.fr.live ⟨i, _, _, qs, ea⟩) nw), nw⟩
        · obtain ⟨k', b', hb, hrk, hok⟩ := ol _ hm
          obtain ⟨a, hv, hσ, _, _⟩ := bor_at hrk hq
          obtain ⟨a', ea, nz', ro'⟩ := ga.fr.own _ _ _ hok
          rw [List.getElem?_map, hv] at ea
          cases ea
          exact .inr (.inl ⟨b, o, o', a, hq, es, hσ, nz', ro'⟩)
      have ow2 : ∀ a, Ow (setOs l ρ1) σ a → Ow ρ1 σ a := fun a ⟨j, b2, o2, q2, e2⟩ => by
        rcases setOs_get q2 with ⟨q2, _⟩ | ⟨b, o, o', _, hq, es⟩
        · exact ⟨j, b2, o2, q2, e2⟩
        · exact ⟨j, b, o, hq, e2⟩
      exact k _ H' v gf (rr_back g1 nb hr ow2 (fun _ z => z) (fun d ed h => h) (fun o a eo h => h))
    · cases e
  · cases e
end
section
variable {X : Cx} {x : Str} {p pos : Pos} {e : Expr} {es : List Expr} {k lev : Nat} {ps : List Str} {F : ME} {ms : MA} {st : Stmt} {bs : List Bool}
theorem cc_callM (C : Cal X.prog X.w X.K X.mg X.base x st lev ps F) (hr : RoomG k X.A) (hk : lev ≤ k) (hg : Gl X x) (ha : CA X (e :: es) ms) (hdb : (x == ("__debug__" : Str)) = false := by decide) (he : starEach (e :: es) X.env = (false, eval e X.env) :: starEach es X.env := by rfl) (hpl : (backTo pos (starEach es X.env)).any (·.1) = false := by rfl) :
    CE X (.Call (.Name x p) (e :: es) [] pos) (mCallM F bs ms) := by
  obtain ⟨f, fd, FF, G, hm, hb⟩ := C.ex
  exact pe_imp (pe_callG G (hr.mono hk) hg hm FF.kp hb pass0 ha hdb he hpl) (tE_callM C.len)
end
end Zl
end

-- ZDu
section
/-! dicts made here that grow: update by a display, d[k] = v of a new key -/
namespace Zl
open PySem PySem.Spec PyProof.Rows L2
section
variable {X : Cx}
def rUpd : V → List V → Hp → VK → Prop := fun x xs H Q => ∃ a b kvs more, x = V.ref a ∧ xs = [V.ref b] ∧ a ≠ b ∧ H a = some (.dK kvs) ∧ H b = some (.dK more) ∧ kvs.length + more.length ≤ sizeLine ∧ Q .non (upd H a (.dK (mergeK kvs more)))
theorem mt_update : MtR X "dict.update" rUpd := by
  intro pins s σ H x xs v us Q I rx rxs h
  obtain ⟨a, b, kvs, more, rfl, rfl, hne, ha, hb, hl, q⟩ := h
  cases rx
  obtain ⟨u, rfl, ru⟩ := rxs.one
  cases ru
  obtain ⟨z, hd, vs, rel, dd⟩ := dk_of I.hok ha
  obtain ⟨z2, hd2, ws, rel2, dd2⟩ := dk_of I.hok hb
  refine call_meetsIn PySem.F.slot_dict_update dd.typeIs PySem.F.entry_dict_update (PySem.F.args_dict_update_2 _ _) (meets_dict_update (mixKind X.prog X.w) a b hne hd2)
    ⟨vs, ws, dd, dd2, by rw [← rel.length, ← rel2.length]; exact hl, fun h' hm _ hs => ?_⟩
  have he : ∃ q, h'.get? a = some q := let ⟨q, _, _, hq, _⟩ := hm; ⟨q, hq⟩
  exact ⟨.non, _, d_write (t' := s.toks) I (by rw [ha]; exact True.intro) hs he (dk_new (Nat.le_trans (length_mergeK more kvs) hl) hd (KV.merge rel2 rel) hm), rfl, q⟩
end
def keysOf : List (D × D) → Option (List (Key × D))
  | [] => some []
  | (k, d) :: r => (keyOf k).bind fun key => (keysOf r).map fun q => (key, d) :: q
theorem keysOf_is : ∀ {ds : List (D × D)} {ks : List (Key × D)}, keysOf ds = some ks → ds = dkv ks
  | [], _, h => by cases h; rfl
  | (k, d) :: r, _, h => by
    obtain ⟨key, e1, h⟩ := bnd h
    obtain ⟨q, e2, h⟩ := Option.map_eq_some_iff.mp h
    cases h
    rw [keysOf_is e2, keyOf_d e1]; rfl
def updF : O → List D → Option (D × O)
  | .dct ks, [.dict ds] => (keysOf ds).bind fun ks2 => if nodK (ks ++ ks2) = true ∧ (ks ++ ks2).length ≤ 1000 then some (.none, .dct (ks ++ ks2)) else none
  | _, _ => none
theorem keyD_inj {a b : Key} (h : keyD a = keyD b) : a = b := by
  cases a <;> cases b <;> simp [keyD] at h <;> rw [h]
section
variable {K : KW} {Z : AS} {H : Hp}
theorem rdk_keys : ∀ {ks : List (Key × D)} {vs : List (Key × V)}, RDk K Z H (dkv ks) vs → vs.map (·.1) = ks.map (·.1)
  | [], vs, h => by simp only [dkv, List.map_nil, RDk] at h; subst h; rfl
  | (k, d) :: ks, vs, h => by
    simp only [dkv, List.map_cons, RDk] at h
    obtain ⟨key, v, r, rfl, e, _, h2⟩ := h
    rw [List.map_cons, List.map_cons, rdk_keys h2, keyD_inj e]
theorem rdk_app : ∀ {ks : List (Key × D)} {vs : List (Key × V)} {ks2 : List (Key × D)} {ws : List (Key × V)}, RDk K Z H (dkv ks) vs → RDk K Z H (dkv ks2) ws → RDk K Z H (dkv (ks ++ ks2)) (vs ++ ws)
  | [], vs, _, _, h, h2 => by simp only [dkv, List.map_nil, RDk] at h; subst h; exact h2
  | (k, d) :: ks, vs, ks2, ws, h, h2 => by
    simp only [dkv, List.map_cons, RDk] at h
    obtain ⟨key, v, r, rfl, e, h1, h3⟩ := h
    simp only [dkv, List.cons_append, List.map_cons, RDk]
    exact ⟨key, v, r ++ ws, rfl, e, h1, rdk_app h3 h2⟩
theorem rdk_all {Z' : AS} {H' : Hp} (h : ∀ {d : D} {v : V}, RD K Z H d v → RD K Z' H' d v) : ∀ {ks : List (D × D)} {vs : List (Key × V)}, RDk K Z H ks vs → RDk K Z' H' ks vs
  | [], _, q => by simpa only [RDk] using q
  | (k, d) :: ks, _, q => by
    simp only [RDk] at q ⊢
    obtain ⟨key, v, r, e, ek, h1, h2⟩ := q
    exact ⟨key, v, r, e, ek, h h1, rdk_all h h2⟩
end
theorem noTp_dkv {ks : List (Key × D)} : noTp (dkv ks) = true := by
  unfold noTp dkv
  rw [List.all_map, List.all_eq_true]
  intro p _
  cases p with
  | mk k d => cases k <;> rfl
theorem ok_upd {K : KW} : MethOk K updF rUpd := fun Z H a o o' ds vs d Q ro rd e mono k => by
  unfold updF at e
  split at e
  · rename_i ks ds'
    obtain ⟨ks2, e1, e⟩ := bnd e
    split at e
    · rename_i hc
      obtain ⟨hn, hl⟩ := hc
      cases e
      obtain ⟨kv, ha, r1⟩ := ro
      have rd1 : ∃ v, vs = [v] ∧ RD K Z H (.dict ds') v := by
        simp only [RDs] at rd
        obtain ⟨v, r, rfl, h1, h2⟩ := rd
        subst h2
        exact ⟨v, rfl, h1⟩
      obtain ⟨v, rfl, rd1⟩ := rd1
      have rd1' := rd1
      simp only [RD] at rd1
      obtain ⟨b, kv2, rfl, zb, hb, r2⟩ : ∃ b kv2, v = .ref b ∧ Z b ∧ H b = some (.dK kv2) ∧ RDk K Z H ds' kv2 := by
        rcases rd1 with rd1 | ⟨b, xs2, _, _, _, r2, ne⟩
        · exact rd1
        · exact absurd (no_both (by rw [keysOf_is e1]; exact noTp_dkv) (rdt_tp r2)) ne
      have hne : a ≠ b := fun e => by
        subst e
        have := mono (.lst []) rd1'
        simp only [RD] at this
        rcases this with ⟨a', vs', e1, _, e2, _⟩ | ⟨a', vs', e1, _, e2, _⟩
        · cases e1
          rw [upd_same] at e2
          cases e2
        · cases e1
          rw [upd_same] at e2
          cases e2
      have e2 := keysOf_is e1
      rw [e2] at r2
      have nd := of_decide_eq_true hn
      rw [List.map_append] at nd
      have em : mergeK kv kv2 = kv ++ kv2 := merge_nd (by rw [rdk_keys r1, rdk_keys r2]; exact nd)
      have hkl : kv.length + kv2.length ≤ 1000 := by
        have h1 := congrArg List.length (rdk_keys r1)
        have h2 := congrArg List.length (rdk_keys r2)
        rw [List.length_map, List.length_map] at h1 h2
        rw [List.length_append] at hl
        omega
      refine ⟨a, b, kv, kv2, rfl, rfl, hne, ha, hb, Nat.le_trans hkl (by decide), ?_⟩
      rw [em]
      refine k _ _ (by simp only [RD]) ⟨kv ++ kv2, upd_same, ?_⟩
      exact rdk_app (rdk_all (fun h => mono _ h) r1) (rdk_all (fun h => mono _ h) r2)
    · cases e
  · cases e
section
variable {X : Cx} {x : Str} {px apos cpos : Pos} {e : Expr} {md : MD} {i : Nat}
theorem ce_update (hx : PE X (.Name x px) (tVar i)) (ha : CD X [e] md)
    (hbase : attributeBase (.Name x px) "update" X.env (eval (.Name x px) X.env) = eval (.Name x px) X.env := by rfl)
    (hfew : ((backTo cpos (starEach [e] X.env)).all (fun x => !x.1) && (backToKw cpos (keywordEach [] X.env)).all (fun x => x.1.isSome)
      && decide (([e] : List Expr).length + ([] : List Keyword).length + (if ([] : List Keyword).isEmpty then 0 else 1) < 30)) = true := by rfl)
    (hline : (apos.endLine == cpos.line) = true := by rfl) (hs : starEach [e] X.env = (false, eval e X.env) :: starEach [] X.env := by rfl) (hplain : (backTo cpos (starEach [] X.env)).any (·.1) = false := by rfl) :
    CE X (.Call (.Attribute (.Name x px) "update" apos) [e] [] cpos) (mMeth "dict" updF i md) :=
  ce_meth PySem.F.plainAttrs_dict PySem.F.slot_dict_update PySem.F.type_dict_update mt_update ok_upd hx ha hbase hfew hline hs hplain
/-- d[k] = v, k a new key -/
def putF : O → D → D → Option O
  | .dct ks, k, d => (keyOf k).bind fun key => if nodK (ks ++ [(key, d)]) = true ∧ ks.length ≤ 1000 then some (.dct (ks ++ [(key, d)])) else none
  | _, _, _ => none
def mSetK (i : Nat) (me mi : ME) : MS := fun ρ => (me ρ).bind fun p => (fz p.2 p.1).bind fun w => match w.2[i]? with
  | some (Sl.own _ _) => (mi w.2).bind fun q => match q.1 with
    | .val kd => match q.2[i]? with
      | some (Sl.own b o) => (putF o kd w.1).bind fun o' => some (.nx, q.2.set i (.own b o'))
      | _ => none
    | _ => none
  | _ => none
theorem cs_setK {ix v : Expr} {tpos pos : Pos} {me mi : ME} (hu : X.A.units + 64 < cLine) (hx : PE X (.Name x px) (tVar i)) (hi : CE X ix mi) (hv : CE X v me)
    (ha : ∀ v, assign (.Subscript (.Name x px) ix tpos) X.env v = (do
      let ov ← holding [v] (eval (.Name x px) X.env)
      let iv ← holding [v, ov] (eval ix X.env)
      standAt tpos
      holding [v, ov, iv] (setItem ov iv v)
      release [v, ov, iv] []) := by intro _; rfl)
    (hs : swapsWithSole [.Subscript (.Name x px) ix tpos] v pos.line X.env = pure false := by rfl) (hw : swappedStores [.Subscript (.Name x px) ix tpos] v X.env = pure none := by rfl) (h1 : (assignEach [.Subscript (.Name x px) ix tpos] X.env).map (·.2) = [assign (.Subscript (.Name x px) ix tpos) X.env] := by rfl) :
    CS X (.Assign [.Subscript (.Name x px) ix tpos] v pos) (mSetK i me mi) :=
  ps_imp (ps_asg hv (pg_sub hx hi (set_dict (by omega)) ha) hs hw h1) fun Dn σ H ⟨Z, ρ, fl, ρ', fr, e, k⟩ => by
    obtain ⟨⟨r1, ρ1⟩, e1, e⟩ := bnd e
    obtain ⟨⟨d, ρ2⟩, e2, e⟩ := bnd e
    simp only at e
    split at e
    · rename_i b0 o0 q0
      obtain ⟨⟨r3, ρ3⟩, e3, e⟩ := bnd e
      simp only at e
      split at e
      · rename_i kd
        split at e
        · rename_i b o q
          obtain ⟨o', e4, e⟩ := bnd e
          cases e
          refine ⟨Z, ρ, r1, ρ1, fr, e1, fun Z1 H1 v g1 h1 => ?_⟩
          obtain ⟨Z2, _, g2, rd⟩ := fz_ok g1 h1 e2
          obtain ⟨a, ea, _, _⟩ := g2.fr.own _ _ _ q0
          refine ⟨.ref a, ea, Z2, ρ2, _, ρ3, g2.fr, e3, fun Z3 H3 w g3 h3 => ?_⟩
          have g := g2.trans g3
          obtain ⟨a', ea', nz, ro⟩ := g.fr.own _ _ _ q
          rw [ea] at ea'; cases ea'
          cases o with
          | lst _ => cases e4
          | dtp _ => cases e4
          | dct ks =>
            obtain ⟨key, ek, e4⟩ := bnd e4
            split at e4
            · rename_i hc
              obtain ⟨hn, hl⟩ := hc
              cases e4
              have hw : w = kV key := keyOf_rd ek h3
              subst hw
              obtain ⟨ws, hq, r⟩ := ro
              have hk := rdk_keys r
              have hno : valV ws key = none := valV_no (by
                rw [hk]
                have nd := of_decide_eq_true hn
                rw [List.map_append] at nd
                exact fun m => (List.nodup_append.mp nd).2.2 key m key (by simp) rfl)
              have hwl : ws.length ≤ 1000 := by
                have := congrArg List.length hk
                rw [List.length_map, List.length_map] at this
                omega
              refine ⟨a, _, rfl, DPut.k hq (Nat.lt_of_le_of_lt hwl (by decide)), ?_⟩
              rw [putK_new _ hno]
              refine k Z3 _ σ (g.mut q ea ⟨_, upd_same, ?_⟩)
              refine rdk_app (rdk_all (fun h => rd_mut g.fr q ea h) r) ?_
              simp only [dkv, List.map_cons, List.map_nil, RDk]
              exact ⟨key, v, [], rfl, rfl, rd_mut g.fr q ea (g2.fr.rd g3.st rd), rfl⟩
            · cases e4
        · cases e
      · cases e
    · cases e
end
end Zl
end

-- ZIdx
section
/-! l.index(x), flat things -/
namespace Zl
open PySem PySem.Spec PyProof.Rows L2
def idxF : O → List D → Option (D × O)
  | .lst ds, [d] => if (flatD d && ds.all flatD) = true then (ds.findIdx? fun z => PyData.eqv z d).map fun j => (.int (j : Nat), .lst ds) else none
  | _, _ => none
theorem upd_id {H : Hp} {a : Addr} {u : HO} (h : H a = some u) : upd H a u = H := by
  funext b
  unfold upd
  split
  · rename_i e; subst e; exact h.symm
  · rfl
theorem ok_idx {K : KW} : MethOk K idxF (rIndex K) := fun Z H a o o' ds vs d Q ro h e m k => by
  unfold idxF at e
  split at e
  · rename_i ds2 d2
    split at e
    · rename_i hc
      simp only [Bool.and_eq_true] at hc
      obtain ⟨j, ej, e⟩ := Option.map_eq_some_iff.mp e
      cases e
      obtain ⟨w, rfl, h1⟩ := rds1 h
      obtain ⟨ws, q, r⟩ := ro
      obtain ⟨f1, _⟩ := flats h1 hc.1 r hc.2
      rw [List.findIdx?_eq_some_iff_getElem] at ej
      obtain ⟨hj, e1, e2⟩ := ej
      obtain ⟨z, ez, rz⟩ := rds_get r (List.getElem?_eq_getElem hj)
      have fl : ∀ x ∈ ds2, flatD x = true := List.all_eq_true.mp hc.2
      have hk := k (.lst ws) (.int (j : Nat)) (by simp only [RD])
      rw [upd_id q] at hk
      refine ⟨a, ws, w, j, z, rfl, rfl, .inl (.of q), flat_rd h1 hc.1, f1, ez, by rw [flat_eq rz h1 (fl _ (List.getElem_mem hj)) hc.1]; exact e1, fun p z' hp hz' => ?_, hk ⟨ws, q, r⟩⟩
      have hpl : p < ds2.length := by omega
      obtain ⟨z2, ez2, rz2⟩ := rds_get r (List.getElem?_eq_getElem hpl)
      rw [hz'] at ez2
      cases ez2
      rw [flat_eq rz2 h1 (fl _ (List.getElem_mem hpl)) hc.1]
      simpa using e2 p hp
    · cases e
  · cases e
section
variable {X : Cx} {x : Str} {px apos cpos : Pos} {e : Expr} {md : MD} {i : Nat}
theorem ce_index (hx : PE X (.Name x px) (tVar i)) (ha : CD X [e] md) (hbase : attributeBase (.Name x px) "index" X.env (eval (.Name x px) X.env) = eval (.Name x px) X.env := by rfl)
    (hfew : ((backTo cpos (starEach [e] X.env)).all (fun x => !x.1) && (backToKw cpos (keywordEach [] X.env)).all (fun x => x.1.isSome) && decide ([e].length + ([] : List Keyword).length + (if ([] : List Keyword).isEmpty then 0 else 1) < 30)) = true := by rfl)
    (hline : (apos.endLine == cpos.line) = true := by rfl) (hs : starEach [e] X.env = (false, eval e X.env) :: starEach [] X.env := by rfl) (hplain : (backTo cpos (starEach [] X.env)).any (·.1) = false := by rfl) :
    CE X (.Call (.Attribute (.Name x px) "index" apos) [e] [] cpos) (mMeth "list" idxF i md) :=
  ce_meth PySem.F.plainAttrs_list PySem.F.slot_list_index PySem.F.type_list_index mt_index ok_idx hx ha hbase hfew hline hs hplain
end
end Zl
end

-- ZIn
section
/-! a call that changes several of the containers handed in, one of them just made -/
namespace Zl
open PySem PySem.Spec PyProof.Rows L2
def ioArgsN (ρ : Rho) : List Bool → List R → Option Rho
  | [], [] => some []
  | true :: bs, .bor j :: rs => match ρ[j]? with
    | some (Sl.own _ o) => (ioArgsN ρ bs rs).map fun q => Sl.own true o :: q
    | _ => none
  | true :: bs, .own o :: rs => (ioArgsN ρ bs rs).map fun q => Sl.own true o :: q
  | false :: bs, r :: rs => (vArg ρ r).bind fun s => (ioArgsN ρ bs rs).map fun q => s :: q
  | _, _ => none
/-- what the slots hold behind the call -/
def ioOutN : List Bool → List R → Rho → Option (List (Nat × O))
  | [], [], [] => some []
  | true :: bs, .bor j :: rs, .own _ o :: ρ => (ioOutN bs rs ρ).map fun q => (j, o) :: q
  | true :: bs, .own _ :: rs, .own _ _ :: ρ => ioOutN bs rs ρ
  | false :: bs, _ :: rs, _ :: ρ => ioOutN bs rs ρ
  | _, _, _ => none
def isO : R → Bool
  | .own _ => true
  | _ => false
/-- such a call; one container among the arguments may be just made -/
def mCallN (F : ME) (bs : List Bool) (ms : MA) : ME := fun ρ => (ms ρ).bind fun p => if vIx p.2 (shR bs p.1) = [] ∧ (ioJs bs p.1).Nodup ∧ (p.1.filter isO).length ≤ 1 then (ioArgsN p.2 bs p.1).bind fun ρa => (F ρa).bind fun q => if noBor q.1 = true then (ioOutN bs p.1 q.2).map fun l => (q.1, setOs l p.2) else none else none
section
variable {K : KW} {Z Z1 Z2 Z' : AS} {H H1 H' : Hp} {ρ ρ1 ρ' ρa ρa' : Rho} {σ : St} {rs : List R} {vs : List V} {bs : List Bool}
theorem ioArgsN_sh : ∀ {bs : List Bool} {rs : List R} {ρa : Rho}, ioArgsN ρ bs rs = some ρa → ∃ ρs, vArgs ρ (shR bs rs) = some ρs ∧ bs.length = rs.length ∧ ρs.length = ρa.length ∧
    ∀ (k : Nat) (s : Sl), ρa[k]? = some s → (bs[k]? = some true ∧ ∃ j b o, rs[k]? = some (.bor j) ∧ ρ[j]? = some (Sl.own b o) ∧ s = .own true o) ∨ (bs[k]? = some true ∧ ∃ o, rs[k]? = some (.own o) ∧ s = .own true o) ∨ (bs[k]? = some false ∧ ρs[k]? = some s)
  | [], [], ρa, h => by cases h; exact ⟨[], rfl, rfl, rfl, fun k s h => by simp at h⟩
  | [], _ :: _, _, h => by cases h
  | true :: bs, [], _, h => by cases h
  | false :: bs, [], _, h => by cases h
  | true :: bs, .val _ :: rs, _, h => by cases h
  | true :: bs, .own o :: rs, ρa, h => by
    simp only [ioArgsN] at h
    obtain ⟨ρt, e, h⟩ := Option.map_eq_some_iff.mp h
    cases h
    obtain ⟨ρs, e1, e2, e3, e4⟩ := ioArgsN_sh e
    refine ⟨Sl.val .none :: ρs, by simp [shR, vArgs, vArg, e1], by simp [e2], by simp [e3], fun k s hk => ?_⟩
    cases k with
    | zero => simp at hk; subst hk; exact .inr (.inl ⟨rfl, o, rfl, rfl⟩)
    | succ k => simpa using e4 k s (by simpa using hk)
  | true :: bs, .bor j :: rs, ρa, h => by
    simp only [ioArgsN] at h
    split at h
    · rename_i b o q
      obtain ⟨ρt, e, h⟩ := Option.map_eq_some_iff.mp h
      cases h
      obtain ⟨ρs, e1, e2, e3, e4⟩ := ioArgsN_sh e
      refine ⟨Sl.val .none :: ρs, by simp [shR, vArgs, vArg, e1], by simp [e2], by simp [e3], fun k s hk => ?_⟩
      cases k with
      | zero => simp at hk; subst hk; exact .inl ⟨rfl, j, b, o, rfl, q, rfl⟩
      | succ k => simpa using e4 k s (by simpa using hk)
    · cases h
  | false :: bs, r :: rs, ρa, h => by
    obtain ⟨s0, e0, h⟩ := bnd h
    obtain ⟨ρt, e, h⟩ := Option.map_eq_some_iff.mp h
    cases h
    obtain ⟨ρs, e1, e2, e3, e4⟩ := ioArgsN_sh e
    refine ⟨s0 :: ρs, by simp [shR, vArgs, e0, e1], by simp [e2], by simp [e3], fun k s hk => ?_⟩
    cases k with
    | zero => simp at hk; subst hk; exact .inr (.inr ⟨rfl, rfl⟩)
    | succ k => simpa using e4 k s (by simpa using hk)
theorem outN_get : ∀ {bs : List Bool} {rs : List R} {ρ : Rho} {l : List (Nat × O)}, ioOutN bs rs ρ = some l → (∀ p ∈ l, ∃ (k : Nat) (b : Bool), bs[k]? = some true ∧ rs[k]? = some (R.bor p.1) ∧ ρ[k]? = some (Sl.own b p.2)) ∧ (∀ j, j ∈ ioJs bs rs ↔ j ∈ l.map (·.1))
  | [], [], [], l, h => by cases h; simp [ioJs]
  | true :: bs, .bor j :: rs, .own b o :: ρ, l, h => by
    simp only [ioOutN] at h
    obtain ⟨l', e, h⟩ := Option.map_eq_some_iff.mp h
    cases h
    obtain ⟨a1, a2⟩ := outN_get e
    refine ⟨fun p hp => ?_, fun i => by simp only [ioJs, List.map_cons, List.mem_cons, a2]⟩
    rcases List.mem_cons.mp hp with rfl | hp
    · exact ⟨0, b, rfl, rfl, rfl⟩
    · obtain ⟨k, b', h1, h2, h3⟩ := a1 p hp
      exact ⟨k + 1, b', by simpa using h1, by simpa using h2, by simpa using h3⟩
  | true :: bs, .own _ :: rs, .own _ _ :: ρ, l, h => by
    simp only [ioOutN] at h
    obtain ⟨a1, a2⟩ := outN_get h
    refine ⟨fun p hp => ?_, fun i => by simp only [ioJs]; exact a2 i⟩
    obtain ⟨k, b', h1, h2, h3⟩ := a1 p hp
    exact ⟨k + 1, b', by simpa using h1, by simpa using h2, by simpa using h3⟩
  | false :: bs, _ :: rs, _ :: ρ, l, h => by
    simp only [ioOutN] at h
    obtain ⟨a1, a2⟩ := outN_get h
    refine ⟨fun p hp => ?_, fun i => by simp only [ioJs]; exact a2 i⟩
    obtain ⟨k, b', h1, h2, h3⟩ := a1 p hp
    exact ⟨k + 1, b', by simpa using h1, by simpa using h2, by simpa using h3⟩
  | [], _ :: _, _, _, h => by simp [ioOutN] at h
  | [], [], _ :: _, _, h => by simp [ioOutN] at h
  | true :: _, [], _, _, h => by simp [ioOutN] at h
  | false :: _, [], _, _, h => by simp [ioOutN] at h
  | true :: _, .val _ :: _, _, _, h => by simp [ioOutN] at h
  | true :: _, .own _ :: _, [], _, h => by simp [ioOutN] at h
  | true :: _, .own _ :: _, .no :: _, _, h => by simp [ioOutN] at h
  | true :: _, .own _ :: _, .val _ :: _, _, h => by simp [ioOutN] at h
  | true :: _, .own _ :: _, .scr _ :: _, _, h => by simp [ioOutN] at h
  | true :: _, .bor _ :: _, [], _, h => by simp [ioOutN] at h
  | true :: _, .bor _ :: _, .no :: _, _, h => by simp [ioOutN] at h
  | true :: _, .bor _ :: _, .val _ :: _, _, h => by simp [ioOutN] at h
  | true :: _, .bor _ :: _, .scr _ :: _, _, h => by simp [ioOutN] at h
  | false :: _, _ :: _, [], _, h => by simp [ioOutN] at h
theorem one_own : ∀ {rs : List R} {k l : Nat} {o o' : O}, (rs.filter isO).length ≤ 1 → rs[k]? = some (.own o) → rs[l]? = some (.own o') → k = l
  | [], _, _, _, _, _, h, _ => by simp at h
  | r :: rs, 0, 0, _, _, _, _, _ => rfl
  | r :: rs, 0, l + 1, o, o', hc, h1, h2 => by
    simp at h1; subst h1
    have : R.own o' ∈ rs.filter isO := List.mem_filter.mpr ⟨List.mem_of_getElem? (by simpa using h2), rfl⟩
    have := List.length_pos_of_mem this
    rw [List.filter_cons_of_pos (by rfl), List.length_cons] at hc
    omega
  | r :: rs, k + 1, 0, o, o', hc, h1, h2 => by
    simp at h2; subst h2
    have : R.own o ∈ rs.filter isO := List.mem_filter.mpr ⟨List.mem_of_getElem? (by simpa using h1), rfl⟩
    have := List.length_pos_of_mem this
    rw [List.filter_cons_of_pos (by rfl), List.length_cons] at hc
    omega
  | r :: rs, k + 1, l + 1, o, o', hc, h1, h2 => by
    have hc' : (rs.filter isO).length ≤ 1 := by
      cases c : isO r with
      | true => rw [List.filter_cons_of_pos c, List.length_cons] at hc; omega
      | false => rw [List.filter_cons_of_neg (by rw [c]; exact Bool.false_ne_true)] at hc; exact hc
    rw [one_own (k := k) (l := l) hc' (by simpa using h1) (by simpa using h2)]
theorem shR_own : ∀ {bs : List Bool} {rs : List R} {k : Nat} {o : O}, (shR bs rs)[k]? = some (.own o) → bs[k]? = some false ∧ rs[k]? = some (.own o)
  | [], rs, k, o, h => by simp [shR] at h
  | true :: bs, [], k, o, h => by simp [shR] at h
  | false :: bs, [], k, o, h => by simp [shR] at h
  | true :: bs, r :: rs, 0, o, h => by simp [shR] at h
  | false :: bs, r :: rs, 0, o, h => by simp [shR] at h; subst h; simp
  | true :: bs, r :: rs, k + 1, o, h => by simpa using shR_own (bs := bs) (rs := rs) (k := k) (by simpa [shR] using h)
  | false :: bs, r :: rs, k + 1, o, h => by simpa using shR_own (bs := bs) (rs := rs) (k := k) (by simpa [shR] using h)
theorem tE_callN {F : ME} {ms : MA} {n : Nat} {E : XK} (hF : ∀ ρ r, F ρ = some r → ρ.length = n) : ∀ σ H Q, tE K (mCallN F bs ms) σ H Q → tCall (spD K F n) [] E (tAR K ms) σ H Q := fun σ H Q ⟨Z, ρ, r, ρ', fr, e, k⟩ => by
  obtain ⟨⟨rs, ρ1⟩, e1, e⟩ := bnd e
  simp only at e
  split at e
  · rename_i hcond
    obtain ⟨hv0, hnd, h1o⟩ := hcond
    obtain ⟨ρa, e2, e⟩ := bnd e
    obtain ⟨⟨r3, ρa'⟩, e3, e⟩ := bnd e
    simp only at e
    split at e
    · rename_i nb
      obtain ⟨l, el, e⟩ := Option.map_eq_some_iff.mp e
      cases e
      obtain ⟨ol, oj⟩ := outN_get el
      obtain ⟨ρs, s1, s2, s3, s4⟩ := ioArgsN_sh e2
      refine ⟨Z, ρ, rs, ρ1, fr, e1, fun Z1 H1 vs g1 h1 => ?_⟩
      have hP := shP (bs := bs) s2 h1
      obtain ⟨fs, nos⟩ := args_fr g1.fr hP s1 rfl
      have nvw : ∀ a, ¬ Vw ρ1 σ (vIx ρ1 (shR bs rs)) a := fun a ⟨j, hj, _⟩ => by rw [hv0] at hj; simp at hj
      have hla : ρa.length = vs.length := by
        have a1 := fs.len
        rw [List.length_map, ← paired_len hP] at a1
        have a2 : (shR bs rs).length = rs.length := by
          have : ∀ {bs : List Bool} {rs : List R}, bs.length = rs.length → (shR bs rs).length = rs.length := fun {bs} => by
            induction bs with
            | nil => intro rs h; cases rs <;> simp_all [shR]
            | cons b bs ih =>
              intro rs h
              cases rs with
              | nil => simp at h
              | cons r rs => cases b <;> simp [shR, ih (rs := rs) (by simpa using h)]
          exact this s2
        rw [← s3, a1, a2, paired_len h1]
      have hl : vs.length = n := by rw [← hla]; exact hF _ _ e3
      have bor_at : ∀ {k j : Nat} {b : Bool} {o : O}, rs[k]? = some (.bor j) → ρ1[j]? = some (Sl.own b o) → ∃ a, vs[k]? = some (V.ref a) ∧ σ[j]? = some (some (V.ref a)) ∧ ¬ Z1 a ∧ RO K Z1 H1 o a := fun {k j b o} hr hq => by
        obtain ⟨v, hv, rr⟩ := paired_at h1 hr
        have hσ : σ[j]? = some (some v) := rr
        obtain ⟨a, ea, nz, ro⟩ := g1.fr.own _ _ _ hq
        rw [hσ] at ea; cases ea
        exact ⟨a, hv, hσ, nz, ro⟩
      have own_at : ∀ {k : Nat} {o : O}, rs[k]? = some (.own o) → ∃ a, vs[k]? = some (V.ref a) ∧ ¬ Z1 a ∧ ¬ Ow ρ1 σ a ∧ RO K Z1 H1 o a ∧ H a = none := fun {k o} hr => by
        obtain ⟨v, hv, rr⟩ := paired_at h1 hr
        obtain ⟨a, rfl, nz, nw, ro, n0⟩ := rr
        exact ⟨a, hv, nz, nw, ro, n0⟩
      have noTm : ∀ {k : Nat} {o : O} {a : Addr}, bs[k]? = some true → rs[k]? = some (.own o) → ¬ Tm (shR bs rs) (shV bs vs) a := fun {k o a} hb hr ⟨k', o', q1, _⟩ => by
        obtain ⟨hb', hr'⟩ := shR_own q1
        have := one_own h1o hr hr'
        subst this
        rw [hb] at hb'
        cases hb'
      have nz2 : ∀ {j : Nat} {b : Bool} {o : O} {a : Addr}, ρ1[j]? = some (Sl.own b o) → σ[j]? = some (some (V.ref a)) → ¬ (Z1 a ∨ Tm (shR bs rs) (shV bs vs) a ∨ Vw ρ1 σ (vIx ρ1 (shR bs rs)) a) := fun hq he z => nvw _ (not_shown g1.fr hP rfl hq he z).1
      have fa : Fr K (fun a => Z1 a ∨ Tm (shR bs rs) (shV bs vs) a ∨ Vw ρ1 σ (vIx ρ1 (shR bs rs)) a) H1 ρa (vs.map some) := by
        refine ⟨fs.zl, by rw [List.length_map, hla], fun k d q => ?_, fun k b o q => ?_, fun k ns q => ?_, fun k j b1 b2 o1 o2 a q1 q2 x1 x2 => ?_⟩
        · rcases s4 k _ q with ⟨_, _, _, _, _, _, z⟩ | ⟨_, _, _, z⟩ | ⟨hb, q⟩
          · cases z
          · cases z
          · obtain ⟨v, ev, rd⟩ := fs.val k d q
            rw [List.getElem?_map, shV_get hb] at ev
            exact ⟨v, by rw [List.getElem?_map]; exact ev, rd⟩
        · rcases s4 k _ q with ⟨hb, j, b', o', hr, hq, z⟩ | ⟨hb, o', hr, z⟩ | ⟨hb, q⟩
          · cases z
            obtain ⟨a, hv, hσ, nz, ro⟩ := bor_at hr hq
            exact ⟨a, by rw [List.getElem?_map, hv]; rfl, nz2 hq hσ, ro.zmono fun b z => .inl z⟩
          · cases z
            obtain ⟨a, hv, nz, nw, ro, n0⟩ := own_at hr
            exact ⟨a, by rw [List.getElem?_map, hv]; rfl, fun z => z.elim nz fun z => z.elim (noTm hb hr) (nvw a), ro.zmono fun b z => .inl z⟩
          · exact (nos k b o q).elim
        · rcases s4 k _ q with ⟨_, _, _, _, _, _, z⟩ | ⟨_, _, _, z⟩ | ⟨hb, q⟩
          · cases z
          · cases z
          · obtain ⟨a, ev, sc⟩ := fs.scr k ns q
            rw [List.getElem?_map, shV_get hb] at ev
            exact ⟨a, by rw [List.getElem?_map]; exact ev, sc⟩
        · rcases s4 k _ q1 with ⟨hb, j1, b', o', hr, hq, z⟩ | ⟨hb, o', hr, z⟩ | ⟨hb, q⟩
          · rcases s4 j _ q2 with ⟨hb2, j2, b2', o2', hr2, hq2, z2⟩ | ⟨hb2, o2', hr2, z2⟩ | ⟨hb2, q2⟩
            · obtain ⟨a', hv, hσ, _⟩ := bor_at hr hq
              obtain ⟨a'', hv2, hσ2, _⟩ := bor_at hr2 hq2
              rw [List.getElem?_map, hv] at x1
              rw [List.getElem?_map, hv2] at x2
              cases x1; cases x2
              have := g1.fr.apart _ _ _ _ _ _ _ hq hq2 hσ hσ2
              subst this
              exact js_inj hnd hb hr hb2 hr2
            · obtain ⟨a', hv, hσ, _⟩ := bor_at hr hq
              obtain ⟨a'', hv2, _, nw, _, _⟩ := own_at hr2
              rw [List.getElem?_map, hv] at x1
              rw [List.getElem?_map, hv2] at x2
              cases x1; cases x2
              exact (nw ⟨j1, b', o', hq, hσ⟩).elim
            · exact (nos j _ _ q2).elim
          · rcases s4 j _ q2 with ⟨hb2, j2, b2', o2', hr2, hq2, z2⟩ | ⟨hb2, o2', hr2, z2⟩ | ⟨hb2, q2⟩
            · obtain ⟨a', hv, hσ, _⟩ := bor_at hr2 hq2
              obtain ⟨a'', hv2, _, nw, _, _⟩ := own_at hr
              rw [List.getElem?_map, hv] at x2
              rw [List.getElem?_map, hv2] at x1
              cases x1; cases x2
              exact (nw ⟨j2, b2', o2', hq2, hσ⟩).elim
            · exact one_own h1o hr hr2
            · exact (nos j _ _ q2).elim
          · exact (nos k _ _ q).elim
      have owa : ∀ a, Ow ρa (vs.map some) a → (∃ (k j : Nat) (b : Bool) (o : O), bs[k]? = some true ∧ rs[k]? = some (R.bor j) ∧ ρ1[j]? = some (Sl.own b o) ∧ σ[j]? = some (some (V.ref a))) ∨ (¬ Ow ρ1 σ a ∧ H a = none) := fun a ⟨k, b, o, q, e⟩ => by
        rcases s4 k _ q with ⟨hb, j, b', o', hr, hq, z⟩ | ⟨hb, o', hr, z⟩ | ⟨hb, q⟩
        · obtain ⟨a', hv, hσ, _⟩ := bor_at hr hq
          rw [List.getElem?_map, hv] at e
          cases e
          exact .inl ⟨k, j, b', o', hb, hr, hq, hσ⟩
        · obtain ⟨a', hv, _, nw, _, n0⟩ := own_at hr
          rw [List.getElem?_map, hv] at e
          cases e
          exact .inr ⟨nw, n0⟩
        · exact (nos k b o q).elim
      have ow1 : ∀ a, Ow ρa (vs.map some) a → Ow ρ σ a ∨ H a = none := fun a w => by
        rcases owa a w with ⟨_, j, b, o, _, _, hq, hσ⟩ | ⟨_, n0⟩
        · exact g1.st.wn a ⟨j, b, o, hq, hσ⟩
        · exact .inr n0
      show spD K F n (vs ++ []) H1 Q E
      rw [List.append_nil]
      refine ⟨hl, _, ρa, _, ρa', fa, e3, fun Z' H' v ga hr => ?_⟩
      have zin : ∀ a, Z' a → H1 a ≠ none → ¬ Ow ρa (vs.map some) a → Z1 a ∨ Tm (shR bs rs) (shV bs vs) a ∨ Vw ρ1 σ (vIx ρ1 (shR bs rs)) a := fun a z hn nw => by
        rcases ga.st.zn a z with z | z | z
        · exact z
        · exact (hn z).elim
        · exact (nw z).elim
      have gf : Go K Z H ρ σ Z' H' (setOs l ρ1) σ := by
        refine call_end g1 hP rfl fa ga ow1 (fun a _ => nvw a) setOs_len (fun a z => z) (fun a z => ga.st.zm a (.inl z)) (fun a z => .inl z) fun i s qs => ?_
        rcases setOs_get qs with ⟨qs, nn⟩ | ⟨b, o, o', hm, hq, es⟩
        · refine .inl ⟨qs, fun b o es a ea => ?_⟩
          subst es
          have nj : i ∉ ioJs bs rs := fun z => nn ((oj i).1 z) b o rfl
          have nw : ¬ Ow ρa (vs.map some) a := fun w => by
            rcases owa a w with ⟨k', j, b', o', hb, hrk, hq, hσ⟩ | ⟨nw, _⟩
            rotate_left
            · exact nw ⟨i, b, o, qs, ea⟩
            have := g1.fr.apart _ _ _ _ _ _ _ qs hq ea hσ
            subst this
            exact nj (js_mem hb hrk)
          exact ⟨fun z => nz2 qs ea (zin a z (g1.fr.live ⟨i, _, _, qs, ea⟩) nw), nw⟩
        · obtain ⟨k', b', hb, hrk, hok⟩ := ol _ hm
          obtain ⟨a, hv, hσ, _, _⟩ := bor_at hrk hq
          obtain ⟨a', ea, nz', ro'⟩ := ga.fr.own _ _ _ hok
          rw [List.getElem?_map, hv] at ea
          cases ea
          exact .inr (.inl ⟨b, o, o', a, hq, es, hσ, nz', ro'⟩)
      have ow2 : ∀ a, Ow (setOs l ρ1) σ a → Ow ρ1 σ a := fun a ⟨j, b2, o2, q2, e2⟩ => by
        rcases setOs_get q2 with ⟨q2, _⟩ | ⟨b, o, o', _, hq, es⟩
        · exact ⟨j, b2, o2, q2, e2⟩
        · exact ⟨j, b, o, hq, e2⟩
      exact k _ H' v gf (rr_back g1 nb hr ow2 (fun _ z => z) (fun d ed h => h) (fun o a eo h => h))
    · cases e
  · cases e
end
section
variable {X : Cx} {x : Str} {p pos : Pos} {e : Expr} {es : List Expr} {k lev : Nat} {ps : List Str} {F : ME} {ms : MA} {st : Stmt} {bs : List Bool}
theorem cc_callN (C : Cal X.prog X.w X.K X.mg X.base x st lev ps F) (hr : RoomG k X.A) (hk : lev ≤ k) (hg : Gl X x) (ha : CA X (e :: es) ms) (hdb : (x == ("__debug__" : Str)) = false := by decide) (he : starEach (e :: es) X.env = (false, eval e X.env) :: starEach es X.env := by rfl) (hpl : (backTo pos (starEach es X.env)).any (·.1) = false := by rfl) :
    CE X (.Call (.Name x p) (e :: es) [] pos) (mCallN F bs ms) := by
  obtain ⟨f, fd, FF, G, hm, hb⟩ := C.ex
  exact pe_imp (pe_callG G (hr.mono hk) hg hm FF.kp hb pass0 ha hdb he hpl) (tE_callN C.len)
end
end Zl
end

-- ZPut
section
/-! d[k] = v, k there or new -/
namespace Zl
open PySem PySem.Spec PyProof.Rows L2
def pK (ks : List (Key × D)) (k : Key) (d : D) : List (Key × D) :=
  if (ks.any fun p => decide (p.1 = k)) = true then ks.map (fun p => if p.1 = k then (p.1, d) else p) else ks ++ [(k, d)]
def pT (ks : List (D × D)) (nk : NestedKey) (k d : D) : List (D × D) :=
  if (lkT ks nk).isSome = true then ks.map (fun p => if NK p.1 = some nk then (p.1, d) else p) else ks ++ [(k, d)]
def putG : O → D → D → Option O
  | .dct ks, k, d => match keyOf k with
    | some key => if ks.length ≤ 1000 then some (.dct (pK ks key d)) else none
    | none => (nkey k).bind fun _ => if ks.isEmpty = true then some (.dtp [(k, d)]) else none
  | .dtp ks, k, d => (nkey k).bind fun nk => if ks.length ≤ 1000000 then some (.dtp (pT ks nk k d)) else none
  | _, _, _ => none
section
variable {K : KW} {Z : AS} {H : Hp}
theorem rdk_any {k : Key} : ∀ {ks : List (Key × D)} {vs : List (Key × V)}, RDk K Z H (dkv ks) vs → (vs.any fun p => decide (p.1 = k)) = ks.any fun p => decide (p.1 = k)
  | [], vs, h => by simp only [dkv, List.map_nil, RDk] at h; subst h; rfl
  | (k', d) :: ks, vs, h => by
    simp only [dkv, List.map_cons, RDk] at h
    obtain ⟨key, v, r, rfl, e, _, h2⟩ := h
    have e := keyD_inj e
    subst e
    rw [List.any_cons, List.any_cons, rdk_any h2]
theorem rdk_map {k : Key} {d : D} {v : V} (hd : RD K Z H d v) : ∀ {ks : List (Key × D)} {vs : List (Key × V)}, RDk K Z H (dkv ks) vs → RDk K Z H (dkv (ks.map fun p => if p.1 = k then (p.1, d) else p)) (vs.map fun p => if p.1 = k then (p.1, v) else p)
  | [], vs, h => by simp only [dkv, List.map_nil, RDk] at h; subst h; simp [dkv, RDk]
  | (k', d') :: ks, vs, h => by
    simp only [dkv, List.map_cons, RDk] at h
    obtain ⟨key, w, r, rfl, e, h1, h2⟩ := h
    have e := keyD_inj e
    subst e
    have ih := rdk_map (k := k) hd h2
    rw [List.map_cons, List.map_cons]
    by_cases c : k' = k
    · simp only [c, if_true, dkv, List.map_cons, RDk]
      exact ⟨k, v, _, rfl, rfl, hd, ih⟩
    · simp only [c, if_false, dkv, List.map_cons, RDk]
      exact ⟨k', w, _, rfl, rfl, h1, ih⟩
theorem rdk_put {k : Key} {d : D} {v : V} {ks : List (Key × D)} {vs : List (Key × V)} (hd : RD K Z H d v) (h : RDk K Z H (dkv ks) vs) : RDk K Z H (dkv (pK ks k d)) (putK vs k v) := by
  unfold pK putK
  rw [rdk_any h]
  split
  · exact rdk_map hd h
  · refine rdk_app h ?_
    simp only [dkv, List.map_cons, List.map_nil, RDk]
    exact ⟨k, v, [], rfl, rfl, hd, rfl⟩
theorem rdt_all {Z' : AS} {H' : Hp} (h : ∀ {d : D} {v : V}, RD K Z H d v → RD K Z' H' d v) : ∀ {ks : List (D × D)} {vs : Xs}, RDt K Z H ks vs → RDt K Z' H' ks vs
  | [], _, q => by simpa only [RDt] using q
  | (k, d) :: ks, _, q => by
    simp only [RDt] at q ⊢
    obtain ⟨nk, b, v, r, e, e1, e2, h0, h1, h2⟩ := q
    exact ⟨nk, b, v, r, e, e1, e2, h h0, h h1, rdt_all h h2⟩
theorem rdt_snoc {k d : D} {nk : NestedKey} {b : Addr} {v : V} (e1 : NK k = some nk) (e2 : nk.depth ≤ 8) (r1 : RD K Z H k (.ref b)) (r2 : RD K Z H d v) : ∀ {ks : List (D × D)} {vs : Xs}, RDt K Z H ks vs → RDt K Z H (ks ++ [(k, d)]) (vs ++ [(nk, b, v)])
  | [], _, q => by
    simp only [RDt] at q
    subst q
    simp only [List.nil_append, RDt]
    exact ⟨nk, b, v, [], rfl, e1, e2, r1, r2, rfl⟩
  | (k', d') :: ks, _, q => by
    simp only [RDt] at q
    obtain ⟨nk', b', v', r, rfl, f1, f2, h0, h1, h2⟩ := q
    simp only [List.cons_append, RDt]
    exact ⟨nk', b', v', _, rfl, f1, f2, h0, h1, rdt_snoc e1 e2 r1 r2 h2⟩
theorem rdt_map {d : D} {nk : NestedKey} {v : V} (r2 : RD K Z H d v) : ∀ {ks : List (D × D)} {vs : Xs}, RDt K Z H ks vs → RDt K Z H (ks.map fun p => if NK p.1 = some nk then (p.1, d) else p) (vs.map fun x => if x.1 = nk then (x.1, x.2.1, v) else x)
  | [], _, q => by
    simp only [RDt] at q
    subst q
    simp only [List.map_nil, RDt]
  | (k', d') :: ks, _, q => by
    simp only [RDt] at q
    obtain ⟨nk', b', v', r, rfl, f1, f2, h0, h1, h2⟩ := q
    have ih := rdt_map (nk := nk) r2 h2
    rw [List.map_cons, List.map_cons]
    by_cases c : nk' = nk
    · have c' : NK k' = some nk := by rw [f1, c]
      simp only [c, c', if_true, RDt]
      exact ⟨nk, b', v, _, rfl, rfl, c ▸ f2, h0, r2, ih⟩
    · have c' : ¬ NK k' = some nk := fun e => c (by rw [f1] at e; exact Option.some.inj e)
      simp only [c, c', if_false, RDt]
      exact ⟨nk', b', v', _, rfl, f1, f2, h0, h1, ih⟩
theorem rdt_some {ks : List (D × D)} {xs : Xs} {nk : NestedKey} (h : RDt K Z H ks xs) : (atV xs nk).isSome = (lkT ks nk).isSome := by
  have hv := rdt_val (k := nk) h
  cases h9 : lkT ks nk with
  | none => rw [hv.2 h9]; rfl
  | some d => obtain ⟨v, e9, _⟩ := hv.1 d h9; rw [e9]; rfl
theorem rdt_put {k d : D} {nk : NestedKey} {b : Addr} {v : V} (e1 : NK k = some nk) (e2 : nk.depth ≤ 8) (r1 : RD K Z H k (.ref b)) (r2 : RD K Z H d v) {ks : List (D × D)} {vs : Xs} (h : RDt K Z H ks vs) : RDt K Z H (pT ks nk k d) (storedV vs nk b v) := by
  unfold pT storedV
  rw [rdt_some h]
  split
  · exact rdt_map r2 h
  · exact rdt_snoc e1 e2 r1 r2 h
theorem pT_ne {ks : List (D × D)} {nk : NestedKey} {k d : D} : pT ks nk k d ≠ [] := by
  unfold pT
  split
  · rename_i h
    cases ks with
    | nil => cases h
    | cons p ks => simp
  · simp
end
/-- what is put into a dict, either kind -/
def DPutA (K : KW) (H : Hp) (a : Addr) (y v : V) (H' : Hp) : Prop := DPut H a y v H' ∨ ∃ (Z : AS) (xs : Xs) (k : NestedKey) (b : Addr), y = .ref b ∧ DtAt K Z H a xs ∧ KeyT K Z H k b ∧ xs.length < sizeLine ∧ H' = upd H a (DtO K a (storedV xs k b v))
def rSetA (K : KW) (o i v : V) (H : Hp) (Q : Hp → Prop) : Prop := ∃ a H', o = .ref a ∧ DPutA K H a i v H' ∧ Q H'
theorem set_dictA {X : Cx} (hu : X.A.units + 64 < cLine) : PSet X (rSetA X.KW) := fun pins s σ H o i v ov iv u Q I ro ri rv h => by
  obtain ⟨a, H', eo, g, q⟩ := h
  subst eo
  cases (show ov = Value.ref a from ro)
  rcases g with g | ⟨Z, xs, k, b, ei, g, hk, hl, eH⟩
  · exact d_setItem (by omega) I g ri rv fun s' I' => ⟨H', I', q⟩
  · subst ei eH
    cases (show iv = Value.ref b from ri)
    exact dt_set (by unfold Room8; omega) I g hk hl rv fun s' I' => ⟨_, I', q⟩
section
variable {X : Cx} {x : Str} {px apos cpos : Pos} {e : Expr} {md : MD} {i : Nat}
def mSetP (i : Nat) (me mi : ME) : MS := fun ρ => (me ρ).bind fun p => (fz p.2 p.1).bind fun w => match w.2[i]? with
  | some (Sl.own _ _) => (mi w.2).bind fun q => match q.1 with
    | .val kd => match q.2[i]? with
      | some (Sl.own b o) => (putG o kd w.1).bind fun o' => some (.nx, q.2.set i (.own b o'))
      | _ => none
    | _ => none
  | _ => none
theorem cs_setP {ix v : Expr} {tpos pos : Pos} {me mi : ME} (hu : X.A.units + 64 < cLine) (hx : PE X (.Name x px) (tVar i)) (hi : CE X ix mi) (hv : CE X v me)
    (ha : ∀ v, assign (.Subscript (.Name x px) ix tpos) X.env v = (do
      let ov ← holding [v] (eval (.Name x px) X.env)
      let iv ← holding [v, ov] (eval ix X.env)
      standAt tpos
      holding [v, ov, iv] (setItem ov iv v)
      release [v, ov, iv] []) := by intro _; rfl)
    (hs : swapsWithSole [.Subscript (.Name x px) ix tpos] v pos.line X.env = pure false := by rfl) (hw : swappedStores [.Subscript (.Name x px) ix tpos] v X.env = pure none := by rfl) (h1 : (assignEach [.Subscript (.Name x px) ix tpos] X.env).map (·.2) = [assign (.Subscript (.Name x px) ix tpos) X.env] := by rfl) :
    CS X (.Assign [.Subscript (.Name x px) ix tpos] v pos) (mSetP i me mi) :=
  ps_imp (ps_asg hv (pg_sub hx hi (set_dictA hu) ha) hs hw h1) fun Dn σ H ⟨Z, ρ, fl, ρ', fr, e, k⟩ => by
    obtain ⟨⟨r1, ρ1⟩, e1, e⟩ := bnd e
    obtain ⟨⟨d, ρ2⟩, e2, e⟩ := bnd e
    simp only at e
    split at e
    · rename_i b0 o0 q0
      obtain ⟨⟨r3, ρ3⟩, e3, e⟩ := bnd e
      simp only at e
      split at e
      · rename_i kd
        split at e
        · rename_i b o q
          obtain ⟨o', e4, e⟩ := bnd e
          cases e
          refine ⟨Z, ρ, r1, ρ1, fr, e1, fun Z1 H1 v g1 h1 => ?_⟩
          obtain ⟨Z2, _, g2, rd⟩ := fz_ok g1 h1 e2
          obtain ⟨a, ea, _, _⟩ := g2.fr.own _ _ _ q0
          refine ⟨.ref a, ea, Z2, ρ2, _, ρ3, g2.fr, e3, fun Z3 H3 w g3 h3 => ?_⟩
          have g := g2.trans g3
          obtain ⟨a', ea', nz, ro⟩ := g.fr.own _ _ _ q
          rw [ea] at ea'; cases ea'
          cases o with
          | lst _ => cases e4

          | dct ks =>
            obtain ⟨ws, hq, r⟩ := ro
            simp only [putG] at e4
            split at e4
            · rename_i key ek
              obtain ⟨hl, e4⟩ := ite_some e4
              cases e4
              have hw : w = kV key := keyOf_rd ek h3
              subst hw
              have hwl : ws.length ≤ 1000000 := by
                have := congrArg List.length (rdk_keys r)
                rw [List.length_map, List.length_map] at this
                omega
              refine ⟨a, _, rfl, .inl (DPut.k hq (Nat.lt_of_le_of_lt hwl (by decide))), ?_⟩
              refine k Z3 _ σ (g.mut q ea ⟨_, upd_same, ?_⟩)
              exact rdk_put (rd_mut g.fr q ea (g2.fr.rd g3.st rd)) (rdk_all (fun h => rd_mut g.fr q ea h) r)
            · obtain ⟨nk, ek, e4⟩ := bnd e4
              obtain ⟨hl, e4⟩ := ite_some e4
              cases e4
              have e0 : ks = [] := by cases ks with
                | nil => rfl
                | cons _ _ => cases hl
              subst e0
              simp only [dkv, List.map_nil, RDk] at r
              subst r
              obtain ⟨ds, rfl, e5, e6⟩ := nkey_tup ek
              have h3' := h3
              simp only [RR, RD] at h3
              obtain ⟨b', vs', rfl, _⟩ := h3
              refine ⟨a, _, rfl, .inr ⟨Z3, [], nk, b', rfl, ⟨.inr ⟨rfl, hq⟩, fun _ z => nomatch z⟩, ⟨e6, _, e5, h3'⟩, by decide, rfl⟩, ?_⟩
              refine k Z3 _ σ (g.mut q ea ⟨_, upd_same, ?_, by simp⟩)
              show RDt X.KW Z3 _ [(_, _)] [(nk, b', v)]
              simp only [RDt]
              exact ⟨nk, b', v, [], rfl, e5, e6, rd_mut g.fr q ea h3', rd_mut g.fr q ea (g2.fr.rd g3.st rd), rfl⟩
          | dtp ks =>
            obtain ⟨nk, ek, e4⟩ := bnd e4
            obtain ⟨hl, e4⟩ := ite_some e4
            cases e4
            obtain ⟨ws, hq, r, ne⟩ := ro
            obtain ⟨ds, rfl, e5, e6⟩ := nkey_tup ek
            have h3' := h3
            simp only [RR, RD] at h3
            obtain ⟨b', vs', rfl, _⟩ := h3
            refine ⟨a, _, rfl, .inr ⟨Z3, ws, nk, b', rfl, rdt_at hq r, ⟨e6, _, e5, h3'⟩, ?_, rfl⟩, ?_⟩
            · rw [rdt_len r]; exact Nat.lt_of_le_of_lt hl (by decide)
            · refine k Z3 _ σ (g.mut q ea ⟨_, upd_same, ?_, pT_ne⟩)
              exact rdt_put e5 e6 (rd_mut g.fr q ea h3') (rd_mut g.fr q ea (g2.fr.rd g3.st rd)) (rdt_all (fun h => rd_mut g.fr q ea h) r)
        · cases e
      · cases e
    · cases e
end
end Zl
end

-- ZNest
section
/-! lists just made are put into a list, that is looked at, then the lists in it are changed and left -/
namespace Zl
open PySem PySem.Spec PyProof.Rows L2
def nOwn : List R → Option (List D)
  | [] => some []
  | .own (.lst ds) :: rs => if ds.length < 65536 then (nOwn rs).map fun q => .list ds :: q else none
  | _ :: _ => none
def nClr (js : List Nat) (ρ : Rho) : Rho := js.foldl (fun r j => r.set j .no) ρ
def nPar (js : List Nat) (ρ : Rho) : Bool := js.all fun j => !parAt ρ j && decide (j < ρ.length)
def mNest (i : Nat) (js : List Nat) (okm : Nat → Bool) (ms : MA) (mt : MT) (rv : Bool) : MS := fun ρ => (ms ρ).bind fun p => (nOwn p.1).bind fun ds => if ds.length < 65536 then (stS i (.val (.list ds)) p.2).bind fun ρ1 => (mt ρ1).bind fun q =>
  if q.1 = true then some (.rt (.val (.bool rv)), q.2) else if okm ds.length = true then (thw (ρ1.set i .no) (q.2.set i .no)).bind fun ρ3 => if nPar js ρ3 = true then some (.nx, nClr js ρ3) else none else none else none
section
variable {K : KW} {Z Z0 Z1 Z2 Z3 Z' : AS} {H H0 H1 H2 H3 H' : Hp} {ρ ρ0 ρ1 ρ2 ρ3 ρ' : Rho} {σ σ0 σ1 σ2 σ' : St} {N : AS}
theorem nClr_len : ∀ (js : List Nat) (ρ : Rho), (nClr js ρ).length = ρ.length
  | [], _ => rfl
  | j :: js, ρ => by
    show (nClr js (ρ.set j .no)).length = _
    rw [nClr_len js, List.length_set]
theorem nClr_get : ∀ {js : List Nat} {ρ : Rho} {k : Nat} {s : Sl}, (nClr js ρ)[k]? = some s → (k ∉ js ∧ ρ[k]? = some s) ∨ s = .no
  | [], _, _, _, h => .inl ⟨by simp, h⟩
  | j :: js, ρ, k, s, h => by
    have h' : (nClr js (ρ.set j .no))[k]? = some s := h
    rcases nClr_get h' with ⟨n, h1⟩ | h1
    · rcases set_get h1 with ⟨_, h2, _⟩ | ⟨n2, h2⟩
      · exact .inr h2
      · exact .inl ⟨fun z => (List.mem_cons.mp z).elim n2 n, h2⟩
    · exact .inr h1
theorem Go.offN (g : Go K Z0 H0 ρ0 σ0 Z H ρ σ) {js : List Nat} (off : Off js σ σ') : Go K Z0 H0 ρ0 σ0 Z H (nClr js ρ) σ' := by
  have ow : ∀ {a}, Ow (nClr js ρ) σ' a → Ow ρ σ a := fun {a} ⟨j, b, o, q, e⟩ => by
    rcases nClr_get q with ⟨n, q⟩ | q
    · exact ⟨j, b, o, q, by rw [← off.2 j n]; exact e⟩
    · cases q
  refine ⟨⟨g.st.keep, g.st.zm, g.st.zn, fun a w => g.st.wn a (ow w), g.st.gr⟩, ⟨g.fr.zl, by rw [nClr_len, off.1]; exact g.fr.len, fun j d q => ?_, fun j b o q => ?_, fun j ns q => ?_, fun j k b1 b2 o1 o2 a q1 q2 e1 e2 => ?_⟩, fun j o' q => ?_⟩
  · rcases nClr_get q with ⟨n, q⟩ | q
    · rw [off.2 j n]; exact g.fr.val _ _ q
    · cases q
  · rcases nClr_get q with ⟨n, q⟩ | q
    · rw [off.2 j n]; exact g.fr.own _ _ _ q
    · cases q
  · rcases nClr_get q with ⟨n, q⟩ | q
    · rw [off.2 j n]; exact g.fr.scr _ _ q
    · cases q
  · rcases nClr_get q1 with ⟨n1, q1⟩ | q1
    · rcases nClr_get q2 with ⟨n2, q2⟩ | q2
      · rw [off.2 j n1] at e1
        rw [off.2 k n2] at e2
        exact g.fr.apart _ _ _ _ _ _ _ q1 q2 e1 e2
      · cases q2
    · cases q1
  · rcases nClr_get q with ⟨n, q⟩ | q
    · rw [off.2 j n]; exact g.par _ _ q
    · cases q
/-- what is changed is none of ours -/
theorem Go.outN (g : Go K Z H ρ σ Z3 H2 ρ3 σ1) (hn : ∀ a, N a → ¬ Z3 a ∧ ¬ Ow ρ3 σ1 a ∧ H a = none ∧ ∃ vs, H2 a = some (.lst vs)) (keep : ∀ a o, ¬ N a → H2 a = some o → H3 a = some o) (gr : ∀ a, H3 a = none → H2 a = none) : Go K Z H ρ σ Z3 H3 ρ3 σ1 := by
  have ht : ∀ a xs, TQ K H2 a xs → TQ K H3 a xs := fun a xs h => h.elim (fun ⟨o, h, c⟩ => .inl ⟨o, keep a _ (fun n => by obtain ⟨_, _, _, vs, e⟩ := hn a n; rw [e] at h; cases h) h, c⟩) .inr
  have hl : ∀ a o, Z3 a → H2 a = some o → H3 a = some o := fun a o z e => keep a o (fun n => (hn a n).1 z) e
  refine ⟨⟨fun a o h w => keep a o (fun n => by rw [(hn a n).2.2.1] at h; cases h) (g.st.keep a o h w), g.st.zm, g.st.zn, g.st.wn, fun a h => g.st.gr a (gr a h)⟩, ⟨fun a z e => g.fr.zl a z (gr a e), g.fr.len, fun j d q => ?_, fun j b o q => ?_, fun j ns q => ?_, g.fr.apart⟩, g.par⟩
  · obtain ⟨v, e, r⟩ := g.fr.val _ _ q
    exact ⟨v, e, RD.mono (fun _ z => z) hl ht _ _ r⟩
  · obtain ⟨a, e, nz, r⟩ := g.fr.own _ _ _ q
    have na : ¬ N a := fun n => (hn a n).2.1 ⟨j, b, o, q, e⟩
    refine ⟨a, e, nz, ?_⟩
    cases o with
    | lst ds => obtain ⟨vs, q, r⟩ := r; exact ⟨vs, keep a _ na q, RDs.mono (fun _ z => z) hl ht _ _ r⟩
    | dct ds => obtain ⟨vs, q, r⟩ := r; exact ⟨vs, keep a _ na q, RDk.mono (fun _ z => z) hl ht _ _ r⟩
    | dtp ds => obtain ⟨vs, q, r⟩ := r; exact ⟨vs, keep a _ na q, RDt.mono (fun _ z => z) hl ht _ _ r.1, r.2⟩
  · obtain ⟨a, e, r⟩ := g.fr.scr _ _ q
    refine ⟨a, e, r.keep fun o q => keep a _ (fun n => ?_) q⟩
    obtain ⟨_, _, _, vs, e⟩ := hn a n
    rw [e] at q; cases q
theorem thawN (f : Fr K Z0 H0 ρ σ) (keep : ∀ a o, H0 a = some o → ¬ Ow ρ σ a → H2 a = some o) (zm : ∀ a, Z0 a → Z2 a) (gr : ∀ a, H2 a = none → H0 a = none) (fr2 : Fr K Z2 H2 ρ' σ) (e : thw ρ ρ' = some ρ2)
    (nN : ∀ a, N a → ¬ Z0 a ∧ ¬ Ow ρ σ a) (zn : ∀ a, Z2 a → Z0 a ∨ H0 a = none ∨ Ow ρ σ a ∨ N a) : Go K Z0 H0 ρ σ (fun a => Z2 a ∧ ¬ Ow ρ σ a ∧ ¬ N a) H2 ρ2 σ := by
  have zm' : ∀ a, Z0 a → (fun a => Z2 a ∧ ¬ Ow ρ σ a ∧ ¬ N a) a := fun a z => ⟨zm a z, fun w => f.nz w z, fun n => (nN a n).1 z⟩
  refine ⟨⟨keep, zm', fun a z => ?_, fun a w => .inl (thw_ow e a w), gr⟩, ⟨fun a z => fr2.zl a z.1, by rw [thw_len e]; exact f.len, fun i d h => ?_, fun i b o h => ?_, fun i ns h => ?_, fun i j b b' o o' a h1 h2 e1 e2 => ?_⟩, fun i o h => ?_⟩
  · rcases zn a z.1 with h | h | h | h
    · exact .inl h
    · exact .inr (.inl h)
    · exact (z.2.1 h).elim
    · exact (z.2.2 h).elim
  · obtain ⟨s, s', h1, h2, h3⟩ := thw_get e h
    have es := thS_other h3 (fun b o => fun z => nomatch z)
    subst es
    obtain ⟨v, hv, rd⟩ := f.val i d h1
    exact ⟨v, hv, RD.mono zm' (fun a o z q => keep a o q fun w => f.nz w z) (sqT_keep keep fun _ w => f.mut w) d v rd⟩
  · obtain ⟨s, s', h1, h2, h3⟩ := thw_get e h
    obtain ⟨o0, rfl, c, hs⟩ := thS_own h3
    obtain ⟨a, ha, _, _⟩ := f.own i b o0 h1
    refine ⟨a, ha, fun z => z.2.1 ⟨i, b, o0, h1, ha⟩, ?_⟩
    rcases hs with ⟨b', rfl⟩ | ⟨ds, rfl, rfl⟩
    · obtain ⟨a', ha', _, ro⟩ := fr2.own i b' o h2
      rw [ha] at ha'; cases ha'
      exact clean_ro c ro
    · obtain ⟨v, hv, rd⟩ := fr2.val i _ h2
      rw [ha] at hv; cases hv
      simp only [RD] at rd
      obtain ⟨a', vs, ea, _, q, rr⟩ := rd
      cases ea
      exact ⟨vs, q, clean_rds c rr⟩
  · obtain ⟨s, s', h1, h2, h3⟩ := thw_get e h
    have es := thS_other h3 (fun b o => fun z => nomatch z)
    subst es
    obtain ⟨a, ha, sc⟩ := f.scr i ns h1
    refine ⟨a, ha, sc.keep fun o q => keep a _ q fun w => ?_⟩
    exact (f.mut w).frz q
  · obtain ⟨s, s', h3, _, h5⟩ := thw_get e h1
    obtain ⟨t, t', h6, _, h8⟩ := thw_get e h2
    obtain ⟨p1, rfl, _⟩ := thS_own h5
    obtain ⟨p2, rfl, _⟩ := thS_own h8
    exact f.apart i j _ _ _ _ a h3 h6 e1 e2
  · obtain ⟨s, s', h1, _, h3⟩ := thw_get e h
    obtain ⟨o0, rfl, _⟩ := thS_own h3
    exact ⟨⟨o0, h1⟩, rfl⟩
theorem nOwn_ok : ∀ {rs : List R} {ds : List D} {vs : List V}, nOwn rs = some ds → RRs K H0 Z H ρ σ rs vs → ∃ as : List Addr, vs = as.map V.ref ∧ as.length = ds.length ∧
    (∀ a ∈ as, ¬ Z a ∧ ¬ Ow ρ σ a ∧ H0 a = none ∧ ∃ xs, H a = some (.lst xs) ∧ xs.length < 65536) ∧ ∀ Z', (∀ a, Z a → Z' a) → (∀ a ∈ as, Z' a) → RDs K Z' H ds vs
  | [], _, _, e, h => by
    cases e; cases h
    exact ⟨[], rfl, rfl, fun a h => by simp at h, fun Z' _ _ => by simp only [RDs]⟩
  | .own (.lst xs) :: rs, _, _, e, h => by
    simp only [nOwn] at e
    split at e
    · rename_i hl
      obtain ⟨q, e1, e⟩ := Option.map_eq_some_iff.mp e
      cases e
      cases h with
      | cons h1 h2 =>
        obtain ⟨as, rfl, el, ha, hr⟩ := nOwn_ok e1 h2
        obtain ⟨a, rfl, nz, nw, ro, n0⟩ := h1
        obtain ⟨ws, ew, er⟩ := ro
        refine ⟨a :: as, rfl, by simp [el], fun b hb => ?_, fun Z' mz hz => ?_⟩
        · rcases List.mem_cons.mp hb with rfl | hb
          · exact ⟨nz, nw, n0, ws, ew, by rw [rds_len er]; exact hl⟩
          · exact ha b hb
        · simp only [RDs, RD, List.map_cons]
          exact ⟨_, _, rfl, ⟨a, ws, rfl, hz a (by simp), ew, er.zmono mz⟩, hr Z' mz fun b hb => hz b (by simp [hb])⟩
    · cases e
  | .own (.dct _) :: rs, _, _, e, h => by cases e
  | .own (.dtp _) :: rs, _, _, e, h => by cases e
  | .val _ :: rs, _, _, e, h => by cases e
  | .bor _ :: rs, _, _, e, h => by cases e
/-- a statement that changes the lists in the i-th slot's list -/
def MutOk (K : KW) (i : Nat) (js : List Nat) (okm : Nat → Bool) (t3 : TS) : Prop := ∀ (Dn : Ends) (σ : St) (H : Hp) (p : Addr) (as : List Addr),
  (∀ j ∈ js, j < σ.length) → σ[i]? = some (some (.ref p)) → H p = some (.lst (as.map V.ref)) → (∀ a ∈ as, ∃ vs, H a = some (.lst vs) ∧ vs.length < 65536) → as.length < 65536 → p ∉ as → okm as.length = true →
  (∀ H' σ', (∀ a o, a ∉ as → H a = some o → H' a = some o) → (∀ a, H' a = none → H a = none) → Off js σ σ' → Dn.nx σ' H') → t3 Dn σ H
theorem ow_clr {js : List Nat} (off : Off js σ σ') {a : Addr} (w : Ow (nClr js ρ) σ' a) : Ow ρ σ a := by
  obtain ⟨j, b, o, q, e⟩ := w
  rcases nClr_get q with ⟨n, q⟩ | q
  · exact ⟨j, b, o, q, by rw [← off.2 j n]; exact e⟩
  · cases q
theorem Go.zS (g : Go K Z H ρ σ Z0 H0 ρ0 σ) (hA : ∀ a, N a → ¬ Ow ρ0 σ a ∧ H a = none ∧ H0 a ≠ none) : Go K Z H ρ σ (fun a => Z0 a ∨ N a) H0 ρ0 σ := by
  refine ⟨⟨g.st.keep, fun a z => .inl (g.st.zm a z), fun a z => z.elim (g.st.zn a) fun n => .inr (.inl (hA a n).2.1), g.st.wn, g.st.gr⟩, ⟨fun a z => z.elim (g.fr.zl a) fun n => (hA a n).2.2, g.fr.len, fun j d q => ?_, fun j b o q => ?_, g.fr.scr, g.fr.apart⟩, g.par⟩
  · obtain ⟨v, e, r⟩ := g.fr.val _ _ q
    exact ⟨v, e, r.zmono fun _ z => .inl z⟩
  · obtain ⟨a, e, nz, r⟩ := g.fr.own _ _ _ q
    exact ⟨a, e, fun z => z.elim nz fun n => (hA a n).1 ⟨j, b, o, q, e⟩, r.zmono fun _ z => .inl z⟩
theorem nest_ok {i : Nat} {js : List Nat} {okm : Nat → Bool} {t3 : TS} {ms : MA} {mt : MT} {rv : Bool} (hm : MutOk K i js okm t3) : ∀ Dn σ H, tS K (mNest i js okm ms mt rv) Dn σ H →
    tSeq (tAsg (tLst (tAR K ms)) (gName i)) (tSeq (tIfS (tT K mt) (tRet (tC (.bl rv))) tNext) t3) Dn σ H := fun Dn σ H ⟨Z, ρ, fl, ρ', fr, e, k⟩ => by
  obtain ⟨⟨rs, ρ0⟩, e1, e⟩ := bnd e
  obtain ⟨ds, e2, e⟩ := bnd e
  simp only at e
  split at e
  · rename_i hlt
    obtain ⟨ρ1, e3, e⟩ := bnd e
    obtain ⟨⟨b, ρ2⟩, e4, e⟩ := bnd e
    refine ⟨Z, ρ, rs, ρ0, fr, e1, fun Z0 H0 vs g0 rr => ?_⟩
    obtain ⟨as, rfl, hl, ha, hrd⟩ := nOwn_ok e2 rr
    refine ⟨by rw [List.length_map, hl]; show ds.length ≤ 2 ^ 24; omega, fun p hp => ?_⟩
    have hpa : p ∉ as := fun m => by obtain ⟨_, _, _, xs, ex, _⟩ := ha p m; rw [hp] at ex; cases ex
    have gA : Go K Z H ρ σ (fun a => Z0 a ∨ a ∈ as) H0 ρ0 σ := g0.zS fun a m => by
      obtain ⟨_, h2, h3, xs, ex, _⟩ := ha a m
      exact ⟨h2, h3, by rw [ex]; exact fun z => nomatch z⟩
    have nB : Nw (fun a => Z0 a ∨ a ∈ as) H0 (fun a => (Z0 a ∨ a ∈ as) ∨ a = p) (upd H0 p (.lst (as.map V.ref))) := Nw.z hp (by rw [upd_same]; exact fun z => nomatch z) (Nw.upd hp)
    have gB := gA.trans (nB.go gA.fr)
    have rd : RD K (fun a => (Z0 a ∨ a ∈ as) ∨ a = p) (upd H0 p (.lst (as.map V.ref))) (.list ds) (.ref p) := by
      simp only [RD]
      exact ⟨p, _, rfl, .inr rfl, upd_same, nB.rds (hrd _ (fun _ z => .inl z) fun _ m => .inr m)⟩
    have gC := stS_val gB e3 rd
    refine ⟨_, ρ1, b, ρ2, gC.fr, e4, fun Z2 H2 g2 => ?_⟩
    cases b with
    | true =>
      rw [if_pos rfl] at e ⊢
      cases e
      exact k Z2 H2 _ (gC.trans g2) _ (by simp only [RX, RD])
    | false =>
      rw [if_neg Bool.false_ne_true] at e ⊢
      split at e
      · rename_i ho
        obtain ⟨ρ3, e5, e⟩ := bnd e
        split at e
        · rename_i hpar
          cases e
          have hs : i < ρ0.length ∧ ρ1 = ρ0.set i (.val (.list ds)) := by
            unfold stS at e3
            split at e3
            · cases e3
            · split at e3
              · rename_i h; cases e3; exact ⟨h, rfl⟩
              · cases e3
          obtain ⟨hi, rfl⟩ := hs
          have hoff : Off [i] σ (σ.set i (some (.ref p))) := off_set
          have G0 := g0.offN hoff
          have en : (ρ0.set i (.val (.list ds))).set i .no = nClr [i] ρ0 := List.set_set _
          have ow : ∀ a, Ow (ρ0.set i (.val (.list ds))) (σ.set i (some (.ref p))) a → Ow (nClr [i] ρ0) (σ.set i (some (.ref p))) a := fun a ⟨j, b, o, q, e⟩ => by
            rcases set_get q with ⟨_, q, _⟩ | ⟨n, q⟩
            · cases q
            · exact ⟨j, b, o, by show (ρ0.set i .no)[j]? = _; rw [List.getElem?_set_ne (Ne.symm n)]; exact q, e⟩
          have keepA : ∀ a o, H0 a = some o → ¬ Ow (nClr [i] ρ0) (σ.set i (some (.ref p))) a → H2 a = some o := fun a o h w => g2.st.keep a o (nB.keep a o h) fun w' => w (ow a w')
          have nN : ∀ a, (a ∈ as ∨ a = p) → ¬ Z0 a ∧ ¬ Ow (nClr [i] ρ0) (σ.set i (some (.ref p))) a := fun a m => by
            rcases m with m | rfl
            · obtain ⟨h1, h2, _⟩ := ha a m
              exact ⟨h1, fun w => h2 (ow_clr hoff w)⟩
            · exact ⟨fun z => g0.fr.zl _ z hp, fun w => g0.fr.live (ow_clr hoff w) hp⟩
          rw [en] at e5
          have T := thawN (N := fun a => a ∈ as ∨ a = p) G0.fr keepA (fun a z => g2.st.zm a (.inl (.inl z))) (fun a h => nB.gr (g2.st.gr a h)) ((g2.forget i).fr) e5 nN fun a z => by
            rcases g2.st.zn a z with z | z | z
            · rcases z with (z | z) | z
              · exact .inl z
              · exact .inr (.inr (.inr (.inl z)))
              · exact .inr (.inr (.inr (.inr z)))
            · exact .inr (.inl (nB.gr z))
            · exact .inr (.inr (.inl (ow a z)))
          have GT := G0.trans T
          have live : ∀ a ∈ as, ∃ vs, H2 a = some (.lst vs) ∧ vs.length < 65536 := fun a m => by
            obtain ⟨_, _, _, xs, ex, hx⟩ := ha a m
            exact ⟨xs, keepA a _ ex (nN a (.inl m)).2, hx⟩
          refine hm Dn _ H2 p as (fun j hj => ?_) (List.getElem?_set_self (g0.fr.lt hi)) (g2.st.keep p _ upd_same fun w => (nN p (.inr rfl)).2 (ow p w)) live (by rw [hl]; exact hlt) hpa (by rw [hl]; exact ho) fun H3 σ3 kp gr off => ?_
          · have := List.all_eq_true.mp hpar j hj
            simp only [Bool.and_eq_true, decide_eq_true_eq] at this
            rw [← GT.fr.len]; exact this.2
          · exact k _ H3 σ3 ((GT.outN (N := fun a => a ∈ as) (fun a m => ⟨fun z => z.2.2 (.inl m), fun w => (nN a (.inl m)).2 (thw_ow e5 a w), (ha a m).2.2.1, let ⟨vs, h, _⟩ := live a m; ⟨vs, h⟩⟩) kp gr).offN off)
        · cases e
      · cases e
  · cases e
/-! ### what may be done to them -/
theorem mut_app {i k : Nat} {v : V} : MutOk K i [] (fun n => decide (k < n)) (tDrop (tBM K "list" rAppend (tOp (rIxL K) (tVar i) (tC (.int k))) (tCons (tC v) tNil))) := fun Dn σ H p as hj hs hp ha hn hpa hk q => by
  have hk := of_decide_eq_true hk
  obtain ⟨vs, hv, hl⟩ := ha as[k] (List.getElem_mem hk)
  refine ⟨.ref p, hs, p, as.map V.ref, k, .ref as[k], rfl, rfl, .of hp, atI_nat (by rw [List.getElem?_map, List.getElem?_eq_getElem hk]; rfl), .inl ⟨rfl, vs, .of hv⟩, as[k], vs, v, rfl, rfl, hv, by show vs.length < 2 ^ 24; omega, ?_⟩
  refine q _ σ (fun a o m h => ?_) (fun a h => ?_) ⟨rfl, fun _ _ => rfl⟩
  · rw [upd_ne]; exact h
    intro e; exact m (by rw [e]; exact List.getElem_mem hk)
  · by_cases e : a = as[k]
    · rw [e, upd_same] at h; cases h
    · rw [upd_ne e] at h; exact h
theorem mut_rev {i k : Nat} : MutOk K i [] (fun n => decide (k < n)) (tDrop (tBM0 K "list" rReverse (tOp (rIxL K) (tVar i) (tC (.int k))))) := fun Dn σ H p as hj hs hp ha hn hpa hk q => by
  have hk := of_decide_eq_true hk
  obtain ⟨vs, hv, hl⟩ := ha as[k] (List.getElem_mem hk)
  refine ⟨.ref p, hs, p, as.map V.ref, k, .ref as[k], rfl, rfl, .of hp, atI_nat (by rw [List.getElem?_map, List.getElem?_eq_getElem hk]; rfl), .inl ⟨rfl, vs, .of hv⟩, as[k], vs, rfl, rfl, hv, ?_⟩
  refine q _ σ (fun a o m h => ?_) (fun a h => ?_) ⟨rfl, fun _ _ => rfl⟩
  · rw [upd_ne]; exact h
    intro e; exact m (by rw [e]; exact List.getElem_mem hk)
  · by_cases e : a = as[k]
    · rw [e, upd_same] at h; cases h
    · rw [upd_ne e] at h; exact h
/-- what is done to each of them -/
def BodyOk (K : KW) (j : Nat) (tb : TS) : Prop := ∀ (Dn : Ends) (σ : St) (H : Hp) (a : Addr) (vs : List V), σ[j]? = some (some (.ref a)) → H a = some (.lst vs) → vs.length < 2 ^ 20 →
  (∀ H' ws, ws.length ≤ vs.length + 1 → H' a = some (.lst ws) → (∀ b, b ≠ a → H' b = H b) → Dn.nx σ H') → tb Dn σ H
theorem body_apprev {j : Nat} {v : V} : BodyOk K j (tSeq (tDrop (tBM K "list" rAppend (tVar j) (tCons (tC v) tNil))) (tDrop (tBM0 K "list" rReverse (tVar j)))) := fun Dn σ H a vs hs hv hl q => by
  refine ⟨.ref a, hs, .inl ⟨rfl, vs, .of hv⟩, a, vs, v, rfl, rfl, hv, by show vs.length < 2 ^ 24; omega, ?_⟩
  refine ⟨.ref a, hs, .inl ⟨rfl, vs ++ [v], .of upd_same⟩, a, vs ++ [v], rfl, rfl, upd_same, ?_⟩
  exact q _ (vs ++ [v]).reverse (by simp) upd_same fun b hb => by rw [upd_ne hb, upd_ne hb]
theorem mut_for {i j : Nat} {tb : TS} (hb : BodyOk K j tb) : MutOk K i [j] (fun _ => true) (tFor (iList K (tVar i)) (gName j) tb) := fun Dn σ H p as hj hs hp ha hn hpa hk q => by
  refine ⟨.ref p, hs, p, rfl, ⟨_, .of hp⟩, ?_⟩
  refine ⟨fun n m σ' H' => m = as.length - n ∧ n ≤ as.length ∧ Off [j] σ σ' ∧ (∀ b o, b ∉ as → H b = some o → H' b = some o) ∧ (∀ b, H' b = none → H b = none) ∧ ∀ a ∈ as, ∃ vs, H' a = some (.lst vs) ∧ vs.length < 65536 + n,
    ⟨as.length, by omega, by omega, ⟨rfl, fun _ _ => rfl⟩, fun _ _ _ h => h, fun _ h => h, ha⟩, ?_⟩
  rintro n m σ' H' ⟨rfl, hle, off, kp, gr, hv⟩
  have hp' : H' p = some (.lst (as.map V.ref)) := kp p _ hpa hp
  by_cases hlt : n < as.length
  · refine .inr ⟨⟨_, .ref as[n], .of hp', by rw [List.getElem?_map, List.getElem?_eq_getElem hlt]; rfl⟩, fun σ2 H2 => as.length - (n + 1) = as.length - (n + 1) ∧ n + 1 ≤ as.length ∧ Off [j] σ σ2 ∧ (∀ b o, b ∉ as → H b = some o → H2 b = some o) ∧ (∀ b, H2 b = none → H b = none) ∧ ∀ a ∈ as, ∃ vs, H2 a = some (.lst vs) ∧ vs.length < 65536 + (n + 1),
      fun σ2 H2 h => ⟨as.length - (n + 1), by omega, h⟩, ?_⟩
    rintro x H1 ⟨rfl, hx⟩
    have ex : some (V.ref as[n]) = some x := by rw [← hx _ (.of hp'), List.getElem?_map, List.getElem?_eq_getElem hlt]; rfl
    cases ex
    obtain ⟨vs, ev, hl⟩ := hv as[n] (List.getElem_mem hlt)
    refine hb _ (σ'.set j (some (.ref as[n]))) H1 as[n] vs (List.getElem?_set_self (by rw [off.1]; exact hj j (by simp))) ev (by omega) fun H2 ws hw e2 h2 => ?_
    refine ⟨rfl, hlt, ⟨by rw [List.length_set]; exact off.1, fun l hl => ?_⟩, fun b o hb h => ?_, fun b h => ?_, fun a ha => ?_⟩
    · rw [List.getElem?_set_ne (fun e => hl (by simp [e]))]; exact off.2 l hl
    · rw [h2 b fun e => hb (by rw [e]; exact List.getElem_mem hlt)]; exact kp b o hb h
    · by_cases e : b = as[n]
      · rw [e, e2] at h; cases h
      · rw [h2 b e] at h; exact gr b h
    · by_cases e : a = as[n]
      · exact ⟨ws, by rw [e]; exact e2, by omega⟩
      · obtain ⟨ws', h3, h4⟩ := hv a ha
        exact ⟨ws', by rw [h2 a e]; exact h3, by omega⟩
  · refine .inl ⟨⟨_, .of hp', by rw [List.length_map]; omega⟩, ?_⟩
    exact q H' σ' (fun a o m h => kp a o m h) gr off
end
section
variable {X : Cx} {es : List Expr} {ms : MA} {mt : MT} {rest : List Stmt} {m : MS} {pos pos' pos2 pos3 pos4 pos5 : Pos} {c : Expr} {jj : Nat} {st3 : Stmt} {t3 : TS}
theorem css_nest {i : Nat} {js : List Nat} {okm : Nat → Bool} {x : Str} {b : Bool} (hN : X.N.Nodup) (hi : X.N[i]? = some x) (hx : Loc X.env.scope x) (ha : CA X es ms) (hc : CT X c mt) (h3 : PS X st3 t3) (hm : MutOk X.KW i js okm t3) (hr : CSs X rest m)
    (hs : swapsWith (.List es pos3) (some (.Name x pos')) pos.line X.env = pure false := by rfl) (hf : X.fn x = true ∨ X.env.scope.names.lookup x = some .local := by first | exact .inl rfl | exact .inr rfl | assumption) :
    CSs X (.Assign [.Name x pos'] (.List es pos3) pos :: .If c [.Return (some (.Constant (.bool b) jj pos4)) pos2] [] pos5 :: st3 :: rest) (mSeq (mNest i js okm ms mt b) m) :=
  pss_imp (pss_cons (ps_set hN hi hx (pe_lst ha) hs hf) (pss_cons (ps_if hc (pss_one (ps_ret pe_bl)) pss_nil) (pss_cons h3 hr))) fun Dn σ H h => nest_ok hm _ σ H (tS_seq _ _ _ h)
end
end Zl
end

-- ZFind
section
/-! find from a place on -/
namespace Zl
open PySem PySem.Spec PyProof.Rows L2
def findF (z : Str) : List D → Option R
  | [.str b, .int i] => some (.val (.int (Txt.find3 z b i)))
  | _ => none
theorem ok_find {K : KW} : OpM K findF (fun x xs H Q => ∃ (a b : Str) (i : Int), x = .str a ∧ xs = [.str b, .int i] ∧ Q (.int (Txt.find3 a b i)) H) := fun Z H z vs ds r0 Q zl hv er k => by
  unfold findF at er
  split at er
  · cases er
    obtain ⟨v1, v2, rfl, h1, h2⟩ := rvs2 hv
    cases rv_str h1
    cases rv_int h2
    exact ⟨z, _, _, rfl, rfl, k Z H _ (.refl _ _) (by simp only [NR, RD])⟩
  · cases er
section
variable {X : Cx} {apos cpos : Pos} {o e e2 : Expr} {me : ME} {ms : MA}
theorem ce_find (ho : CE X o me) (ha : CA X [e, e2] ms) (hbase : attributeBase o "find" X.env (eval o X.env) = eval o X.env := by rfl)
    (hfew : ((backTo cpos (starEach [e, e2] X.env)).all (fun x => !x.1) && (backToKw cpos (keywordEach [] X.env)).all (fun x => x.1.isSome) && decide ([e, e2].length + ([] : List Keyword).length + (if ([] : List Keyword).isEmpty then 0 else 1) < 30)) = true := by rfl)
    (hline : (apos.endLine == cpos.line) = true := by rfl) (hs : starEach [e, e2] X.env = (false, eval e X.env) :: starEach [e2] X.env := by rfl) (hplain : (backTo cpos (starEach [e2] X.env)).any (·.1) = false := by rfl) :
    CE X (.Call (.Attribute o "find" apos) [e, e2] [] cpos) (mSM findF me ms) := ce_sm PySem.F.slot_str_find PySem.F.type_str_find mt_find3 ok_find ho ha hbase hfew hline hs hplain
end
end Zl
end

-- ZDc
section
/-! dict(x): x a tuple or a list of pairs whose keys are texts or ints, none twice -/
namespace Zl
open PySem PySem.Spec PyProof.Rows L2
section
variable {X : Cx}
theorem TQ.plain {pins : List (Addr × Obj)} {σ : St} {H : Hp} {s : Shared} {a : Addr} {vs : List V} (I : Inv X pins σ H s) (h : TQ X.KW H a vs) : ∃ its : List Value, Vals vs its ∧ (∃ o n, s.heap.get? a = some o ∧ o.cls = .type "tuple" ∧ o.dict = none ∧ o.data = .seq its.toArray n) ∧ vs.length ≤ sizeLine := by
  obtain ⟨its, rv, ht, hz⟩ := I.tuple h.sq
  obtain ⟨o, ho, hc, n, hdat⟩ := ht
  refine ⟨its, rv, ⟨o, n, ho, hc, ?_, hdat⟩, hz⟩
  rcases h with ⟨o', h, _, hd⟩ | ⟨o', its', n', h, _, hd, _⟩
  · have e := (I.hok a _ h).1
    rw [ho] at e
    cases e
    exact hd
  · have e := I.kIn a o' h
    rw [ho] at e
    cases e
    exact hd
theorem pairs_of2 {pins : List (Addr × Obj)} {σ : St} {H : Hp} {s : Shared} (I : Inv X pins σ H s) : ∀ {ps : List Addr} {kvs : List (Key × V)}, Paired (fun p kv => SqT X.K H p [kV kv.1, kv.2]) ps kvs →
    ∃ (prs : List (Key × Value)) (ups : List (Value × Value)), KV kvs prs ∧ prs.length = ps.length ∧ ups.length = ps.length ∧ ∀ (j : Nat) (u v : Value), ups[j]? = some (u, v) → ∃ (b : Addr) (k : Key), ps[j]? = some b ∧ prs[j]? = some (k, v) ∧ IsTup s.heap b #[u, v] ∧ keyIs k u = true
  | _, _, .nil => ⟨[], [], .nil, rfl, rfl, fun j u v e => by simp at e⟩
  | _, _, .cons (a := p) (b := kv) h t => by
    obtain ⟨prs, ups, r, hl, hu, hp⟩ := pairs_of2 I t
    obtain ⟨its, rv, ht, _⟩ := I.tuple h
    obtain ⟨u, y, ei, ru, ry⟩ := vals2 rv
    subst ei
    refine ⟨(kv.1, y) :: prs, (u, y) :: ups, .cons ⟨rfl, ry⟩ r, by rw [List.length_cons, List.length_cons, hl], by rw [List.length_cons, List.length_cons, hu], fun j u' v' e => ?_⟩
    cases j with
    | zero =>
      have e' : (u, y) = (u', v') := Option.some.inj e
      cases e'
      exact ⟨p, kv.1, rfl, rfl, ht, kV_is (P := X.prog) (w := X.w) ru⟩
    | succ j =>
      obtain ⟨b, k, e1, e2, e3, e4⟩ := hp j u' v' (by simpa using e)
      exact ⟨b, k, by simpa using e1, by simpa using e2, e3, e4⟩
theorem call_dictT (hcalm : X.calm = true) : CallR X (.type "dict") (fun xs H Q => ∃ (a : Addr) (ps : List Addr) (kvs : List (Key × V)), xs = [.ref a] ∧ TQ X.KW H a (ps.map V.ref) ∧ Paired (fun p kv => SqT X.K H p [kV kv.1, kv.2]) ps kvs ∧
    ∀ p, H p = none → Q (.ref p) (upd H p (.dK (mergeK [] kvs)))) := by
  intro pins s σ H xs us Q I r q
  obtain ⟨a, ps, kvs, ex, hq, hp, q⟩ := q
  subst ex
  obtain ⟨u, eu, rx⟩ := vals1 r
  subst eu
  cases rx
  obtain ⟨its, rv, pl, hz⟩ := hq.plain I
  have ei := refs_at rv
  subst ei
  rw [List.length_map] at hz
  obtain ⟨prs, ups, rel, hl, hu, hpr⟩ := pairs_of2 I hp
  have P := PySem.PairArg.tuple (prog := X.prog) (w := X.w) a (ps.map Value.ref).toArray (fun j => ps[j]?.getD 0) ups
  refine PySem.call_dict_pairs (knd := mixKind X.prog X.w) (kvs := prs) P (I.ok.hd hcalm) ⟨pl, by simp [hu], fun j k v e => ?_⟩ ⟨by rw [hl, hu], fun j key v e => ?_⟩ (by rw [hu]; exact hz) fun h' tk hd' k => ?_
  · obtain ⟨b, kk, e1, e2, e3, e4⟩ := hpr j k v e
    refine ⟨by simp [e1], .inl ?_⟩
    show s.heap.IsTuple (ps[j]?.getD 0) _
    rw [e1]
    exact e3
  · obtain ⟨b, kk, e1, e2, e3, e4⟩ := hpr j key v e
    exact ⟨kk, e2, by rw [mixKind_is]; exact e4⟩
  · have hm : (s.heap.objs.size == sysModules) = false := beq_eq_false_iff_ne.mpr (Nat.ne_of_gt I.big)
    have hlen : (mergeK [] kvs).length ≤ sizeLine := by
      refine Nat.le_trans (length_mergeK kvs []) ?_
      rw [List.length_nil, Nat.zero_add, rel.length, hl]
      exact hz
    exact ⟨.ref s.heap.objs.size, upd H s.heap.objs.size (.dK (mergeK [] kvs)), I.laid (t' := tk) (fun b o e => k b o (fun z => nomatch z) e) (Nat.le_refl _) (show ObjOk X.prog X.w _ _ _ (.dK (mergeK [] kvs)) from ⟨hlen, hm, merged [] prs, KV.merge rel .nil, hd'⟩), rfl, q _ (I.hok.fresh (Nat.le_refl _))⟩
/-! the operation -/
def pairF : D → Option (Key × D)
  | .tuple [k, v] => (keyOf k).map fun key => (key, v)
  | _ => none
def pairsF : List D → Option (List (Key × D))
  | [] => some []
  | d :: ds => (pairF d).bind fun p => (pairsF ds).map fun r => p :: r
def dictF : List D → Option R
  | [.tuple ds] => (pairsF ds).bind fun ks => if nodK ks = true then some (.own (.dct ks)) else none
  | [.list ds] => (pairsF ds).bind fun ks => if nodK ks = true then some (.own (.dct ks)) else none
  | _ => none
theorem pairs_rd {K : KW} {Z : AS} {H : Hp} : ∀ {ds : List D} {vs : List V} {ks : List (Key × D)}, RDs K Z H ds vs → pairsF ds = some ks → ∃ (ps : List Addr) (kvs : List (Key × V)), vs = ps.map V.ref ∧ Paired (fun p kv => SqT K.F H p [kV kv.1, kv.2]) ps kvs ∧ RDk K Z H (dkv ks) kvs ∧ kvs.map (·.1) = ks.map (·.1)
  | [], vs, ks, h, e => by
    cases e
    simp only [RDs] at h
    subst h
    exact ⟨[], [], rfl, .nil, by simp only [dkv, List.map_nil, RDk], rfl⟩
  | d :: ds, vs, ks, h, e => by
    simp only [pairsF] at e
    obtain ⟨⟨key, dv⟩, e1, e⟩ := bnd e
    obtain ⟨r, e2, e⟩ := Option.map_eq_some_iff.mp e
    cases e
    simp only [RDs] at h
    obtain ⟨v, vr, rfl, hd, hr⟩ := h
    obtain ⟨ps, kvs, rfl, hp, hk, hm⟩ := pairs_rd hr e2
    match d, e1, hd with
    | .tuple [k, x], e1, hd =>
      obtain ⟨key', ek, e1⟩ := Option.map_eq_some_iff.mp e1
      cases e1
      simp only [RD] at hd
      obtain ⟨p, us, rfl, hq, hd⟩ := hd
      simp only [RDs] at hd
      obtain ⟨uk, u1, rfl, hk1, ux, u2, rfl, hx, rfl⟩ := hd
      have euk := keyOf_rd ek hk1
      subst euk
      refine ⟨p :: ps, (key, ux) :: kvs, rfl, .cons hq.sq hp, ?_, by simp [hm]⟩
      simp only [dkv, List.map_cons, RDk]
      exact ⟨key, ux, kvs, rfl, rfl, hx, hk⟩
def rDictOf (K : KW) : List V → Hp → VK → Prop := fun xs H Q => (∃ (a : Addr) (ps : List Addr) (kvs : List (Key × V)), xs = [.ref a] ∧ SqL K.F H a (ps.map V.ref) ∧ Paired (fun p kv => SqT K.F H p [kV kv.1, kv.2]) ps kvs ∧
    ∀ p, H p = none → Q (.ref p) (upd H p (.dK (mergeK [] kvs)))) ∨ (∃ (a : Addr) (ps : List Addr) (kvs : List (Key × V)), xs = [.ref a] ∧ TQ K H a (ps.map V.ref) ∧ Paired (fun p kv => SqT K.F H p [kV kv.1, kv.2]) ps kvs ∧
    ∀ p, H p = none → Q (.ref p) (upd H p (.dK (mergeK [] kvs))))
theorem o_dict {K : KW} : OpL K dictF (rDictOf K) := fun Z H vs ds r Q zl hx er k => by
  have fin : ∀ {ks : List (Key × D)} {kvs : List (Key × V)}, nodK ks = true → RDk K Z H (dkv ks) kvs → kvs.map (·.1) = ks.map (·.1) → r = .own (.dct ks) → ∀ p, H p = none → Q (.ref p) (upd H p (.dK (mergeK [] kvs))) := fun {ks kvs} hn hk hm er p hp => by
    have nd : (([] : List (Key × V)).map (·.1) ++ kvs.map (·.1)).Nodup := by
      rw [List.map_nil, List.nil_append, hm]
      exact of_decide_eq_true hn
    rw [merge_nd nd, List.nil_append]
    subst er
    have nw : Nw Z H Z (upd H p (.dK kvs)) := Nw.upd hp
    exact k Z _ _ nw ⟨p, rfl, hp, fun z => zl p z hp, kvs, upd_same, nw.rdk hk⟩
  unfold dictF at er
  split at er
  · obtain ⟨ks, ek, er⟩ := bnd er
    obtain ⟨hn, er⟩ := ite_some er
    cases er
    obtain ⟨v, rfl, hx'⟩ := rvs1 hx
    obtain ⟨a, vs, rfl, hq, hd⟩ := rv_tup hx'
    obtain ⟨ps, kvs, rfl, hp, hk, hm⟩ := pairs_rd hd ek
    exact .inr ⟨a, ps, kvs, rfl, hq, hp, fin hn hk hm rfl⟩
  · obtain ⟨ks, ek, er⟩ := bnd er
    obtain ⟨hn, er⟩ := ite_some er
    cases er
    obtain ⟨v, rfl, a, vs, rfl, hq, hd⟩ := rvs1 hx
    obtain ⟨ps, kvs, rfl, hp, hk, hm⟩ := pairs_rd hd ek
    exact .inl ⟨a, ps, kvs, rfl, hq, hp, fin hn hk hm rfl⟩
  · cases er
theorem ce_dict {e : Expr} {ms : MA} {p pos : Pos} (hc : X.calm = true) (hg : Gl X "dict") (hm : X.mg "dict" = none) (ha : CA X [e] ms) (he : starEach [e] X.env = (false, eval e X.env) :: starEach [] X.env := by rfl) : CE X (.Call (.Name "dict" p) [e] [] pos) (mCB dictF ms) :=
  ce_callTy (CallR.or (call_dictP hc) (call_dictT hc)) o_dict PyProof.Rows.boot_dict hg hm ha (he := he)
end
end Zl
end

-- ZOrd
section
/-! the order of tuples of ints, texts and such tuples: by a row of numbers that says it -/
namespace Zl
open PySem PySem.Spec PyProof.Rows L2
mutual
def enc : D → List Int
  | .int i => [1, i]
  | .str x => 2 :: (x.cps.toList.map fun (c : Nat) => ((c : Int) + 1)) ++ [0]
  | .tuple ds => 3 :: encs ds
  | _ => [4]
def encs : List D → List Int
  | [] => [0]
  | d :: ds => enc d ++ encs ds
end
mutual
def plainD : D → Bool
  | .int _ | .str _ => true
  | .tuple ds => plainDs ds
  | _ => false
def plainDs : List D → Bool
  | [] => true
  | d :: ds => plainD d && plainDs ds
end
theorem map_pf : ∀ {xs ys : List Nat} {s t : List Int}, (xs.map fun (c : Nat) => ((c : Int) + 1)) ++ 0 :: s = (ys.map fun (c : Nat) => ((c : Int) + 1)) ++ 0 :: t → xs = ys ∧ s = t
  | [], [], s, t, h => by simp at h; exact ⟨rfl, h⟩
  | [], y :: ys, s, t, h => by
    simp only [List.map_nil, List.nil_append, List.map_cons, List.cons_append] at h
    injection h with h1 h2
    omega
  | x :: xs, [], s, t, h => by
    simp only [List.map_nil, List.nil_append, List.map_cons, List.cons_append] at h
    injection h with h1 h2
    omega
  | x :: xs, y :: ys, s, t, h => by
    simp only [List.map_cons, List.cons_append] at h
    injection h with h1 h2
    obtain ⟨e1, e2⟩ := map_pf h2
    exact ⟨by rw [e1, show x = y by omega], e2⟩
theorem enc_ne {d : D} (h : plainD d = true) : ∃ a r, enc d = a :: r ∧ a ≠ 0 := by
  cases d with
  | int i => exact ⟨1, _, rfl, by decide⟩
  | str x => exact ⟨2, _, rfl, by decide⟩
  | tuple ds => exact ⟨3, _, rfl, by decide⟩
  | _ => cases h
mutual
theorem enc_pf : ∀ (x y : D) (s t : List Int), plainD x = true → plainD y = true → enc x ++ s = enc y ++ t → x = y ∧ s = t
  | .int i, .int j, s, t, _, _, h => by
    simp only [enc, List.cons_append, List.nil_append] at h
    injection h with _ h
    injection h with h1 h2
    exact ⟨by rw [h1], h2⟩
  | .str i, .str j, s, t, _, _, h => by
    simp only [enc, List.cons_append, List.append_assoc, List.nil_append] at h
    injection h with _ h
    obtain ⟨e1, e2⟩ := map_pf h
    refine ⟨?_, e2⟩
    cases i; cases j
    simp only at e1
    rw [Array.toList_inj] at e1
    rw [e1]
  | .tuple xs, .tuple ys, s, t, hx, hy, h => by
    simp only [enc, List.cons_append] at h
    injection h with _ h
    obtain ⟨e1, e2⟩ := encs_pf xs ys s t (by simpa only [plainD] using hx) (by simpa only [plainD] using hy) h
    exact ⟨by rw [e1], e2⟩
  | .int _, .str _, _, _, _, _, h | .int _, .tuple _, _, _, _, _, h | .str _, .int _, _, _, _, _, h | .str _, .tuple _, _, _, _, _, h | .tuple _, .int _, _, _, _, _, h | .tuple _, .str _, _, _, _, _, h => by
    simp only [enc, List.cons_append] at h
    injection h with h1 h2
    exact absurd h1 (by decide)
  | .none, _, _, _, h, _, _ | .bool _, _, _, _, h, _, _ | .list _, _, _, _, h, _, _ | .dict _, _, _, _, h, _, _ => by cases h
  | _, .none, _, _, _, h, _ | _, .bool _, _, _, _, h, _ | _, .list _, _, _, _, h, _ | _, .dict _, _, _, _, h, _ => by cases h
theorem encs_pf : ∀ (xs ys : List D) (s t : List Int), plainDs xs = true → plainDs ys = true → encs xs ++ s = encs ys ++ t → xs = ys ∧ s = t
  | [], [], s, t, _, _, h => by simpa [encs] using h
  | [], y :: ys, s, t, _, hy, h => by
    simp only [plainDs, Bool.and_eq_true] at hy
    obtain ⟨a, r, e, ne⟩ := enc_ne hy.1
    simp only [encs, e, List.cons_append] at h
    injection h with h1 _
    exact absurd h1.symm ne
  | x :: xs, [], s, t, hx, _, h => by
    simp only [plainDs, Bool.and_eq_true] at hx
    obtain ⟨a, r, e, ne⟩ := enc_ne hx.1
    simp only [encs, e, List.cons_append] at h
    injection h with h1 _
    exact absurd h1 ne
  | x :: xs, y :: ys, s, t, hx, hy, h => by
    simp only [plainDs, Bool.and_eq_true] at hx hy
    simp only [encs, List.append_assoc] at h
    obtain ⟨e1, e2⟩ := enc_pf x y _ _ hx.1 hy.1 h
    obtain ⟨e3, e4⟩ := encs_pf xs ys s t hx.2 hy.2 e2
    exact ⟨by rw [e1, e3], e4⟩
end
theorem enc_inj {x y : D} (hx : plainD x = true) (hy : plainD y = true) (h : enc x = enc y) : x = y := (enc_pf x y [] [] hx hy (by simpa using h)).1
/-- neither begins the other: what is behind is not looked at -/
theorem lt_app : ∀ {a b s t : List Int}, ¬ a <+: b → ¬ b <+: a → ((a ++ s < b ++ t) ↔ a < b)
  | [], b, s, t, h, _ => absurd List.nil_prefix h
  | a, [], s, t, _, h => absurd List.nil_prefix h
  | x :: a, y :: b, s, t, h1, h2 => by
    rw [List.cons_append, List.cons_append, List.cons_lt_cons_iff, List.cons_lt_cons_iff]
    by_cases e : x = y
    · subst e
      rw [lt_app (s := s) (t := t) (fun p => h1 (List.cons_prefix_cons.mpr ⟨rfl, p⟩)) (fun p => h2 (List.cons_prefix_cons.mpr ⟨rfl, p⟩))]
    · simp [e]
theorem enc_lt {x y : D} {s t : List Int} (hx : plainD x = true) (hy : plainD y = true) (ne : x ≠ y) : (enc x ++ s < enc y ++ t) ↔ enc x < enc y := by
  refine lt_app (fun ⟨r, e⟩ => ?_) (fun ⟨r, e⟩ => ?_)
  · exact ne (enc_pf x y r [] hx hy (by simpa using e)).1
  · exact ne (enc_pf y x r [] hy hx (by simpa using e)).1.symm
theorem app_lt : ∀ {a s t : List Int}, (a ++ s < a ++ t) ↔ s < t
  | [], _, _ => Iff.rfl
  | x :: a, s, t => by
    rw [List.cons_append, List.cons_append, List.cons_lt_cons_iff]
    simp [app_lt (a := a)]
def ltO (x y : D) : Bool := decide (enc x < enc y)
def ltV {α : Type} (k : α → D) (u v : α) : Bool := ltO (k u) (k v)
theorem swo_k {α : Type} (k : α → D) : SrtO.Swo (ltV k) := by
  refine ⟨fun x y h => ?_, fun x y z h1 h2 => ?_⟩
  · have h := of_decide_eq_true h
    exact decide_eq_false fun q => List.lt_irrefl _ (List.lt_trans h q)
  · have h1 := of_decide_eq_false h1
    have h2 := of_decide_eq_false h2
    have l1 := List.not_lt.mp h1
    have l2 := List.not_lt.mp h2
    exact decide_eq_false (List.not_lt.mpr (List.le_trans l1 l2))
end Zl
end

-- ZSrt
section
/-! sorted: lists of such tuples -/
namespace Zl
open PySem PySem.Spec PyProof.Rows L2 PySem.SeqAt
mutual
/-- comparable: where they differ first, both are ints, texts or tuples -/
def cmpb : D → D → Bool
  | .int _, .int _ => true
  | .str _, .str _ => true
  | .tuple xs, .tuple ys => cmpbs xs ys
  | _, _ => false
def cmpbs : List D → List D → Bool
  | x :: xs, y :: ys => if NK x = NK y then cmpbs xs ys else cmpb x y
  | _, _ => true
end
mutual
theorem nk_inj : ∀ (x y : D) (k : NestedKey), plainD x = true → plainD y = true → NK x = some k → NK y = some k → x = y
  | .int i, .int j, k, _, _, h1, h2 => by cases h1; cases h2; rfl
  | .str i, .str j, k, _, _, h1, h2 => by cases h1; cases h2; rfl
  | .tuple xs, .tuple ys, k, hx, hy, h1, h2 => by
    obtain ⟨ks, e1, f1⟩ := Option.map_eq_some_iff.mp (show (NKs xs).map NestedKey.tup = some k from h1)
    obtain ⟨ls, e2, f2⟩ := Option.map_eq_some_iff.mp (show (NKs ys).map NestedKey.tup = some k from h2)
    subst f1
    cases f2
    rw [nks_inj xs ys ks (by simpa only [plainD] using hx) (by simpa only [plainD] using hy) e1 e2]
  | .int _, .str _, _, _, _, h1, h2 => by cases h1; cases h2
  | .str _, .int _, _, _, _, h1, h2 => by cases h1; cases h2
  | .int _, .tuple ys, _, _, _, h1, h2 => by cases h1; obtain ⟨ls, _, f⟩ := Option.map_eq_some_iff.mp (show (NKs ys).map NestedKey.tup = _ from h2); cases f
  | .str _, .tuple ys, _, _, _, h1, h2 => by cases h1; obtain ⟨ls, _, f⟩ := Option.map_eq_some_iff.mp (show (NKs ys).map NestedKey.tup = _ from h2); cases f
  | .tuple ys, .int _, _, _, _, h2, h1 => by cases h1; obtain ⟨ls, _, f⟩ := Option.map_eq_some_iff.mp (show (NKs ys).map NestedKey.tup = _ from h2); cases f
  | .tuple ys, .str _, _, _, _, h2, h1 => by cases h1; obtain ⟨ls, _, f⟩ := Option.map_eq_some_iff.mp (show (NKs ys).map NestedKey.tup = _ from h2); cases f
  | .none, _, _, h, _, _, _ | .bool _, _, _, h, _, _, _ | .list _, _, _, h, _, _, _ | .dict _, _, _, h, _, _, _ => by cases h
  | _, .none, _, _, h, _, _ | _, .bool _, _, _, h, _, _ | _, .list _, _, _, h, _, _ | _, .dict _, _, _, h, _, _ => by cases h
theorem nks_inj : ∀ (x y : List D) (k : List NestedKey), plainDs x = true → plainDs y = true → NKs x = some k → NKs y = some k → x = y
  | [], [], _, _, _, _, _ => rfl
  | [], y :: ys, k, _, _, h1, h2 => by
    cases h1
    obtain ⟨_, _, h2⟩ := bnd (show (NK y).bind _ = _ from h2)
    obtain ⟨_, _, h2⟩ := Option.map_eq_some_iff.mp h2
    cases h2
  | y :: ys, [], k, _, _, h2, h1 => by
    cases h1
    obtain ⟨_, _, h2⟩ := bnd (show (NK y).bind _ = _ from h2)
    obtain ⟨_, _, h2⟩ := Option.map_eq_some_iff.mp h2
    cases h2
  | x :: xs, y :: ys, k, hx, hy, h1, h2 => by
    obtain ⟨k1, a1, h1⟩ := bnd (show (NK x).bind _ = _ from h1)
    obtain ⟨l1, a2, h1⟩ := Option.map_eq_some_iff.mp h1
    obtain ⟨k2, b1, h2⟩ := bnd (show (NK y).bind _ = _ from h2)
    obtain ⟨l2, b2, h2⟩ := Option.map_eq_some_iff.mp h2
    subst h1
    cases h2
    simp only [plainDs, Bool.and_eq_true] at hx hy
    rw [nk_inj x y _ hx.1 hy.1 a1 b1, nks_inj xs ys _ hx.2 hy.2 a2 b2]
end
mutual
inductive DatIs (h : Heap) : D → Value → Prop
  | int (i t) : DatIs h (.int i) (.int i t)
  | str (x t) : DatIs h (.str x) (.str x t)
  | tup {a o vs n ds} : h.get? a = some o → o.cls = .type "tuple" → o.data = .seq vs n → DatsIs h ds vs.toList → DatIs h (.tuple ds) (.ref a)
inductive DatsIs (h : Heap) : List D → List Value → Prop
  | nil : DatsIs h [] []
  | cons {d v ds vs} : DatIs h d v → DatsIs h ds vs → DatsIs h (d :: ds) (v :: vs)
end
mutual
theorem DatIs.plain {h : Heap} : ∀ {d : D} {v : Value}, DatIs h d v → plainD d = true
  | _, _, .int .. => rfl
  | _, _, .str .. => rfl
  | _, _, .tup _ _ _ r => by simp only [plainD]; exact DatsIs.plain r
theorem DatsIs.plain {h : Heap} : ∀ {d : List D} {v : List Value}, DatsIs h d v → plainDs d = true
  | _, _, .nil => rfl
  | _, _, .cons a b => by simp only [plainDs, DatIs.plain a, DatsIs.plain b]; rfl
end
mutual
theorem DatIs.nested {h : Heap} : ∀ {d : D} {v : Value}, DatIs h d v → ∃ k, NK d = some k ∧ NestedIs h k v
  | _, _, .int i t => ⟨_, rfl, .int i t⟩
  | _, _, .str i t => ⟨_, rfl, .text i t⟩
  | _, _, .tup a b c r => by
    obtain ⟨ks, e, n⟩ := DatsIs.nested r
    exact ⟨.tup ks, by simp only [NK, e, Option.map_some], .tup a b c n⟩
theorem DatsIs.nested {h : Heap} : ∀ {d : List D} {v : List Value}, DatsIs h d v → ∃ k, NKs d = some k ∧ NestedAll h k v
  | _, _, .nil => ⟨[], rfl, .nil⟩
  | _, _, .cons a b => by
    obtain ⟨k, e, n⟩ := DatIs.nested a
    obtain ⟨ks, e', n'⟩ := DatsIs.nested b
    exact ⟨k :: ks, by simp only [NKs, e, e', Option.bind_some, Option.map_some], .cons n n'⟩
end
mutual
theorem DatIs.at {h h' : Heap} (hk : ∀ a o vs n, h.get? a = some o → o.data = .seq vs n → o.cls = .type "tuple" → h'.get? a = some o) : ∀ {d : D} {v : Value}, DatIs h d v → DatIs h' d v
  | _, _, .int i t => .int i t
  | _, _, .str i t => .str i t
  | _, _, .tup a b c r => .tup (hk _ _ _ _ a c b) b c (DatsIs.at hk r)
theorem DatsIs.at {h h' : Heap} (hk : ∀ a o vs n, h.get? a = some o → o.data = .seq vs n → o.cls = .type "tuple" → h'.get? a = some o) : ∀ {d : List D} {v : List Value}, DatsIs h d v → DatsIs h' d v
  | _, _, .nil => .nil
  | _, _, .cons a b => .cons (DatIs.at hk a) (DatsIs.at hk b)
end
mutual
theorem DatIs.inj {h : Heap} : ∀ {d e : D} {v : Value}, DatIs h d v → DatIs h e v → d = e
  | _, _, _, .int i t, .int _ _ => rfl
  | _, _, _, .str i t, .str _ _ => rfl
  | _, _, _, .tup a b c r, .tup a' b' c' r' => by
    rw [a] at a'; cases a'
    rw [c] at c'; cases c'
    rw [DatsIs.inj r r']
theorem DatsIs.inj {h : Heap} : ∀ {d e : List D} {v : List Value}, DatsIs h d v → DatsIs h e v → d = e
  | _, _, _, .nil, .nil => rfl
  | _, _, _, .cons a b, .cons a' b' => by rw [DatIs.inj a a', DatsIs.inj b b']
end
theorem DatsIs.len {h : Heap} : ∀ {d : List D} {v : List Value}, DatsIs h d v → v.length = d.length
  | _, _, .nil => rfl
  | _, _, .cons a b => by rw [List.length_cons, List.length_cons, DatsIs.len b]
theorem DatsIs.get {h : Heap} : ∀ {d : List D} {v : List Value} {j : Nat} (h1 : j < v.length) (h2 : j < d.length), DatsIs h d v → DatIs h d[j] v[j]
  | _, _, 0, _, _, .cons a b => a
  | _, _, j + 1, h1, h2, .cons a b => DatsIs.get (j := j) (Nat.lt_of_succ_lt_succ h1) (Nat.lt_of_succ_lt_succ h2) b
mutual
def dpD : D → Nat
  | .tuple ds => dpDs ds + 1
  | _ => 0
def dpDs : List D → Nat
  | [] => 0
  | d :: ds => max (dpD d) (dpDs ds)
end
mutual
theorem nk_dp : ∀ (d : D) (k : NestedKey), NK d = some k → k.depth = dpD d
  | .none, _, h => by cases h; rfl
  | .bool _, _, h => by cases h; rfl
  | .int _, _, h => by cases h; rfl
  | .str _, _, h => by cases h; rfl
  | .list _, _, h => by cases h
  | .dict _, _, h => by cases h
  | .tuple ds, k, h => by
    obtain ⟨ks, e, f⟩ := Option.map_eq_some_iff.mp (show (NKs ds).map NestedKey.tup = some k from h)
    subst f
    simp only [NestedKey.depth, dpD, nks_dp ds ks e]
theorem nks_dp : ∀ (d : List D) (k : List NestedKey), NKs d = some k → NestedKey.depthAll k = dpDs d
  | [], _, h => by cases h; rfl
  | d :: ds, k, h => by
    obtain ⟨k1, e1, h⟩ := bnd (show (NK d).bind _ = _ from h)
    obtain ⟨l1, e2, h⟩ := Option.map_eq_some_iff.mp h
    subst h
    simp only [NestedKey.depthAll, dpDs, nk_dp d k1 e1, nks_dp ds l1 e2]
end
theorem dp_get : ∀ {ds : List D} {j : Nat} (h : j < ds.length), dpD ds[j] ≤ dpDs ds
  | d :: ds, 0, _ => Nat.le_max_left ..
  | d :: ds, j + 1, h => Nat.le_trans (dp_get (ds := ds) (j := j) (Nat.lt_of_succ_lt_succ h)) (Nat.le_max_right ..)
/-- == of them -/
theorem eq_d {A : Around} {s : Shared} {d e : D} {u v : Value} (h1 : DatIs s.heap d u) (h2 : DatIs s.heap e v) (hu : A.units + dpD d < cLine) : EqAt A s u v (decide (NK d = NK e)) := by
  obtain ⟨k1, e1, n1⟩ := h1.nested
  obtain ⟨k2, e2, n2⟩ := h2.nested
  have := eqAt_key k1 k2 A s u v n1 n2 (by rw [nk_dp d k1 e1]; omega)
  rw [e1, e2]
  have e : decide (some k1 = some k2) = NestedKey.beq k1 k2 := by
    rw [← NestedKey.decide_eq]
    by_cases c : k1 = k2 <;> simp [c]
  rw [e]
  exact this
theorem lt_int_enc (i j : Int) : ltO (.int i) (.int j) = decide (i < j) := by
  refine decide_eq_decide.mpr ?_
  show [1, i] < [1, j] ↔ _
  simp [List.cons_lt_cons_iff]
theorem lt_map : ∀ {xs ys : List Nat}, ((xs.map fun (c : Nat) => ((c : Int) + 1)) ++ [0] < (ys.map fun (c : Nat) => ((c : Int) + 1)) ++ [0]) ↔ xs < ys
  | [], [] => by simp
  | [], y :: ys => by
    simp only [List.map_nil, List.nil_append, List.map_cons, List.cons_append, List.cons_lt_cons_iff]
    exact ⟨fun _ => List.nil_lt_cons y ys, fun _ => .inl (by omega)⟩
  | x :: xs, [] => by
    simp only [List.map_nil, List.nil_append, List.map_cons, List.cons_append, List.cons_lt_cons_iff]
    refine ⟨fun h => ?_, fun h => absurd h (by simp)⟩
    rcases h with h | ⟨h, _⟩ <;> omega
  | x :: xs, y :: ys => by
    simp only [List.map_cons, List.cons_append, List.cons_lt_cons_iff, lt_map (xs := xs) (ys := ys)]
    constructor
    · rintro (h | ⟨h, q⟩)
      · exact .inl (by omega)
      · exact .inr ⟨by omega, q⟩
    · rintro (h | ⟨h, q⟩)
      · exact .inl (by omega)
      · exact .inr ⟨by omega, q⟩
theorem lt_str_enc (x y : Str) : ltO (.str x) (.str y) = decide (x.cps.toList < y.cps.toList) := by
  refine decide_eq_decide.mpr ?_
  show (2 :: _ ++ [0]) < (2 :: _ ++ [0]) ↔ _
  rw [List.cons_append, List.cons_append, List.cons_lt_cons_iff]
  simp [lt_map]
theorem lt_tup_enc (xs ys : List D) : ltO (.tuple xs) (.tuple ys) = decide (encs xs < encs ys) := by
  refine decide_eq_decide.mpr ?_
  show (3 :: encs xs) < (3 :: encs ys) ↔ _
  rw [List.cons_lt_cons_iff]
  simp
theorem enc_pos {d : D} (h : plainD d = true) : ∃ a r, enc d = a :: r ∧ 0 < a := by
  cases d with
  | int i => exact ⟨1, _, rfl, by decide⟩
  | str x => exact ⟨2, _, rfl, by decide⟩
  | tuple ds => exact ⟨3, _, rfl, by decide⟩
  | _ => cases h
theorem firstLt_map {e r : Nat → Bool} {fin : Bool} (f : Nat → Nat) : ∀ l : List Nat, firstLt e r fin (l.map f) = firstLt (fun j => e (f j)) (fun j => r (f j)) fin l
  | [] => rfl
  | j :: l => by
    rw [List.map_cons]
    unfold firstLt
    rw [firstLt_map f l]
theorem first_enc : ∀ {xs ys : List D}, plainDs xs = true → plainDs ys = true → (∀ x ∈ xs, ∃ k, NK x = some k) →
    firstLt (fun j => decide (xs[j]?.bind NK = ys[j]?.bind NK)) (fun j => ltO (xs.getD j .none) (ys.getD j .none)) (decide (xs.length < ys.length)) (List.range (min xs.length ys.length)) = decide (encs xs < encs ys)
  | [], [], _, _, _ => by simp [firstLt, encs]
  | [], y :: ys, _, hy, _ => by
    simp only [plainDs, Bool.and_eq_true] at hy
    obtain ⟨a, r, e, p⟩ := enc_pos hy.1
    simp [firstLt, encs, e, List.cons_lt_cons_iff, p]
  | x :: xs, [], hx, _, _ => by
    simp only [plainDs, Bool.and_eq_true] at hx
    obtain ⟨a, r, e, p⟩ := enc_pos hx.1
    simp [firstLt, encs, e, List.cons_lt_cons_iff]
    omega
  | x :: xs, y :: ys, hx, hy, hn => by
    simp only [plainDs, Bool.and_eq_true] at hx hy
    obtain ⟨k, ek⟩ := hn x List.mem_cons_self
    have ih := first_enc hx.2 hy.2 fun z hz => hn z (List.mem_cons_of_mem _ hz)
    have em : min (x :: xs).length (y :: ys).length = min xs.length ys.length + 1 := by simp only [List.length_cons]; omega
    rw [em, List.range_succ_eq_map]
    unfold firstLt
    simp only [List.getElem?_cons_zero, Option.bind_some, List.getD_cons_zero, decide_eq_true_eq]
    by_cases c : NK x = NK y
    · rw [if_pos c, firstLt_map]
      have exy : x = y := nk_inj x y k hx.1 hy.1 ek (by rw [← c]; exact ek)
      simp only [List.getElem?_cons_succ, List.getD_cons_succ, List.length_cons, Nat.succ_lt_succ_iff]
      rw [ih, exy]
      simp only [encs]
      exact decide_eq_decide.mpr app_lt.symm
    · rw [if_neg c]
      simp only [encs]
      exact decide_eq_decide.mpr (enc_lt hx.1 hy.1 fun e => c (by rw [e])).symm
theorem cmpbs_get : ∀ {xs ys : List D} {j : Nat} (h1 : j < xs.length) (h2 : j < ys.length), cmpbs xs ys = true → (∀ i, i < j → xs[i]?.bind NK = ys[i]?.bind NK) → ¬ NK xs[j] = NK ys[j] → cmpb xs[j] ys[j] = true
  | x :: xs, y :: ys, 0, _, _, h, _, n => by
    simp only [cmpbs] at h
    have n' : ¬ NK x = NK y := n
    rw [if_neg n'] at h
    exact h
  | x :: xs, y :: ys, j + 1, h1, h2, h, q, n => by
    have q0 := q 0 (Nat.zero_lt_succ _)
    simp only [List.getElem?_cons_zero, Option.bind_some] at q0
    simp only [cmpbs] at h
    rw [if_pos q0] at h
    exact cmpbs_get (j := j) (Nat.lt_of_succ_lt_succ h1) (Nat.lt_of_succ_lt_succ h2) h (fun i hi => by
      have := q (i + 1) (Nat.succ_lt_succ hi)
      simpa only [List.getElem?_cons_succ] using this) n
open AutoSeq1 (wpAny_loadPart') in
/-- t < u: only the first place where they differ is asked by < -/
theorem meets_tupLt (a c : Addr) (us ws : Array Value) (m m2 : Nat) (od od2 : Option Addr) (os os2 : Array (Option Value)) (e r : Nat → Bool) :
    Meets (Builtin.«tuple.__lt__» ⟨[.ref a, .ref c], []⟩)
      (fun A R s => s.heap.get? a = some { cls := .type "tuple", dict := od, data := .seq us m, slots := os } ∧ s.heap.get? c = some { cls := .type "tuple", dict := od2, data := .seq ws m2, slots := os2 } ∧
        (∀ k (p1 : k < us.size) (p2 : k < ws.size), EqAt A.in1 s us[k] ws[k] (e k)) ∧ (∀ k (p1 : k < us.size) (p2 : k < ws.size), (∀ i, i < k → e i = true) → e k = false → RcLt A.in1 s us[k] ws[k] (r k)) ∧
        R (.ok (.ret (.bool (firstLt e r (decide (us.size < ws.size)) (List.range (min us.size ws.size)))))) s) :=
  .of_wp fun prog w A R s z => by
    obtain ⟨hp, g, d, tk, os0⟩ := s
    obtain ⟨g1, g2, ge, gr, z⟩ := z
    have ff := AutoSeq1.sub_tuple_tuple
    have zl : (us.toList.zip ws.toList).length = min us.size ws.size := by simp
    wp_walk using wpAny_loadPart' g1, wpAny_loadPart' g2, wpAny_forIn_list _ (fun left b s' => b.1 = none ∧ s' = ⟨hp, g, d, tk, os0⟩ ∧ ∃ i, left = (us.toList.zip ws.toList).drop i ∧ (∀ k, k < i → e k = true) ∧
      R (.ok (.ret (.bool (firstLt e r (decide (us.size < ws.size)) ((List.range (min us.size ws.size)).drop i))))) ⟨hp, g, d, tk, os0⟩) _
    case turn =>
      rintro ⟨y, x⟩ left b s' ⟨hb0, rfl, i, hz, hi, hR⟩
      have il : i < (us.toList.zip ws.toList).length := by
        rcases Nat.lt_or_ge i (us.toList.zip ws.toList).length with q | q
        · exact q
        · rw [List.drop_of_length_le q] at hz; cases hz
      have im : i < min us.size ws.size := zl ▸ il
      have p1 : i < us.size := Nat.lt_of_lt_of_le im (Nat.min_le_left _ _)
      have p2 : i < ws.size := Nat.lt_of_lt_of_le im (Nat.min_le_right _ _)
      rw [List.drop_eq_getElem_cons il] at hz
      injection hz with hpr hleft
      have ey : y = us[i] := by simpa using congrArg Prod.fst hpr
      have ex : x = ws[i] := by simpa using congrArg Prod.snd hpr
      subst ey ex
      have dr : (List.range (min us.size ws.size)).drop i = i :: (List.range (min us.size ws.size)).drop (i + 1) := by simp [List.drop_eq_getElem_cons, im]
      rw [dr] at hR
      refine wpAny_bind (ge i p1 p2 prog w _ _ ?_)
      cases q : e i with
      | true =>
        rw [firstLt_yes q] at hR
        wp_walk
        refine ⟨rfl, rfl, i + 1, hleft, fun k hk => ?_, hR⟩
        rcases Nat.lt_or_ge k i with c | c
        · exact hi k c
        · rw [show k = i by omega]; exact q
      | false =>
        rw [firstLt_no q] at hR
        simp only [Bool.not_false, if_true]
        refine wpAny_bind ?_
        refine wpAny_rule ?_
        refine wpAny_bind ?_
        refine gr i p1 p2 hi q prog w _ _ ?_
        wp_walk
        exact ⟨_, rfl, hR⟩
    case fin =>
      rintro ⟨b1, b2⟩ s' ⟨hb0, rfl, i, hz, hi, hR⟩
      simp only at hb0
      subst hb0
      have il : min us.size ws.size ≤ i := by
        rcases Nat.lt_or_ge i (us.toList.zip ws.toList).length with q | q
        · rw [List.drop_eq_getElem_cons q] at hz; cases hz
        · exact zl ▸ q
      rw [List.drop_of_length_le (by simpa using il)] at hR
      wp_walk
      exact ⟨_, rfl, by simpa [Builtin.Tuple.tupleCompareSizes, firstLt] using hR⟩
    case h =>
      exact ⟨rfl, rfl, 0, rfl, (fun k hk => absurd hk (Nat.not_lt_zero k)), by simpa using z⟩
end Zl
end

-- ZSr2
section
namespace Zl
open PySem PySem.Spec PyProof.Rows L2 PySem.SeqAt
theorem lt_tuple {A : Around} {s : Shared} {a c : Addr} {us ws : Array Value} {o o2 : Obj} {m m2 : Nat} {e r : Nat → Bool} (g1 : s.heap.get? a = some o) (c1 : o.cls = .type "tuple") (d1 : o.data = .seq us m) (g2 : s.heap.get? c = some o2) (c2 : o2.cls = .type "tuple") (d2 : o2.data = .seq ws m2) (hu : A.units < cLine)
    (ge : ∀ k (p1 : k < us.size) (p2 : k < ws.size), EqAt A.in1 s us[k] ws[k] (e k)) (gr : ∀ k (p1 : k < us.size) (p2 : k < ws.size), (∀ i, i < k → e i = true) → e k = false → RcLt A.in1 s us[k] ws[k] (r k)) :
    RcLt A s (.ref a) (.ref c) (firstLt e r (decide (us.size < ws.size)) (List.range (min us.size ws.size))) := fun prog w E Q h => by
  obtain ⟨cls, dd, data, sl⟩ := o
  obtain ⟨cls2, dd2, data2, sl2⟩ := o2
  simp only at c1 d1 c2 d2
  subst c1 d1 c2 d2
  exact richCompare_meets_room (op := .Lt) ⟨_, g1, rfl⟩ ⟨_, g2, rfl⟩ F.slot_tuple_lt F.entry_tuple_lt (F.args_tuple_lt_2 _ _) (meets_tupLt a c us ws m m2 dd dd2 sl sl2 e r)
    ⟨g1, g2, ge, gr, (show Value.bool _ ≠ Value.notImplemented ∧ Q (.bool _) s from ⟨(fun z => nomatch z), h⟩)⟩ hu
theorem call_tupLt {prog : Program} {w : World} {A : Around} {E : Value → Shared → Prop} {s : Shared} {Q : Value → Shared → Prop} {a c : Addr} {us ws : Array Value} {o o2 : Obj} {m m2 : Nat} {e r : Nat → Bool} (g1 : s.heap.get? a = some o) (c1 : o.cls = .type "tuple") (d1 : o.data = .seq us m) (g2 : s.heap.get? c = some o2) (c2 : o2.cls = .type "tuple") (d2 : o2.data = .seq ws m2)
    (ge : ∀ k (p1 : k < us.size) (p2 : k < ws.size), EqAt A.in1 s us[k] ws[k] (e k)) (gr : ∀ k (p1 : k < us.size) (p2 : k < ws.size), (∀ i, i < k → e i = true) → e k = false → RcLt A.in1 s us[k] ws[k] (r k))
    (h : Q (.bool (firstLt e r (decide (us.size < ws.size)) (List.range (min us.size ws.size)))) s) : wpAny (model prog w) A (call (.builtin "tuple.__lt__") [.ref a, .ref c]) Q E s := by
  obtain ⟨cls, dd, data, sl⟩ := o
  obtain ⟨cls2, dd2, data2, sl2⟩ := o2
  simp only at c1 d1 c2 d2
  subst c1 d1 c2 d2
  exact call_meets F.slot_tuple_lt ⟨_, g1, rfl⟩ F.entry_tuple_lt (F.args_tuple_lt_2 _ _) (meets_tupLt a c us ws m m2 dd dd2 sl sl2 e r) ⟨g1, g2, ge, gr, h⟩
theorem in1_units {A : Around} : A.in1.units ≤ A.units + 1 := by simp [Around.in1]
/-- what two tuples of such items ask -/
theorem items_asks {A : Around} {s : Shared} {xs ys : List D} {us ws : Array Value} (lt : ∀ j (h1 : j < us.toList.length) (h2 : j < ws.toList.length) (h3 : j < xs.length) (h4 : j < ys.length), cmpb xs[j] ys[j] = true → RcLt A.in1 s us.toList[j] ws.toList[j] (ltO xs[j] ys[j]))
    (h1 : DatsIs s.heap xs us.toList) (h2 : DatsIs s.heap ys ws.toList) (hc : cmpbs xs ys = true) (hu : A.units + (dpDs xs + 1) < cLine) :
    (∀ k (p1 : k < us.size) (p2 : k < ws.size), EqAt A.in1 s us[k] ws[k] (decide (xs[k]?.bind NK = ys[k]?.bind NK))) ∧
    (∀ k (p1 : k < us.size) (p2 : k < ws.size), (∀ i, i < k → decide (xs[i]?.bind NK = ys[i]?.bind NK) = true) → decide (xs[k]?.bind NK = ys[k]?.bind NK) = false → RcLt A.in1 s us[k] ws[k] (ltO (xs.getD k .none) (ys.getD k .none))) ∧
    firstLt (fun j => decide (xs[j]?.bind NK = ys[j]?.bind NK)) (fun j => ltO (xs.getD j .none) (ys.getD j .none)) (decide (us.size < ws.size)) (List.range (min us.size ws.size)) = ltO (.tuple xs) (.tuple ys) := by
  have l1 := h1.len
  have l2 := h2.len
  rw [Array.length_toList] at l1 l2
  refine ⟨fun k p1 p2 => ?_, fun k p1 p2 hq hn => ?_, ?_⟩
  · have q1 : k < xs.length := by omega
    have q2 : k < ys.length := by omega
    have r1 := h1.get (j := k) (by rw [Array.length_toList]; exact p1) q1
    have r2 := h2.get (j := k) (by rw [Array.length_toList]; exact p2) q2
    have := eq_d (A := A.in1) r1 r2 (by have := dp_get q1; have := in1_units (A := A); omega)
    rw [List.getElem?_eq_getElem q1, List.getElem?_eq_getElem q2]
    simpa using this
  · have q1 : k < xs.length := by omega
    have q2 : k < ys.length := by omega
    rw [List.getElem?_eq_getElem q1, List.getElem?_eq_getElem q2] at hn
    have cm := cmpbs_get q1 q2 hc (fun i hi => of_decide_eq_true (hq i hi)) (of_decide_eq_false hn)
    have := lt k (by rw [Array.length_toList]; exact p1) (by rw [Array.length_toList]; exact p2) q1 q2 cm
    rw [List.getD_eq_getElem?_getD, List.getD_eq_getElem?_getD, List.getElem?_eq_getElem q1, List.getElem?_eq_getElem q2]
    simpa using this
  · rw [lt_tup_enc, l1, l2]
    exact first_enc h1.plain h2.plain fun x hx => by
      obtain ⟨ks, e, _⟩ := h1.nested
      obtain ⟨j, hj, rfl⟩ := List.mem_iff_getElem.mp hx
      obtain ⟨k, ek, _⟩ := (h1.get (j := j) (by rw [Array.length_toList]; omega) hj).nested
      exact ⟨k, ek⟩
theorem DatIs.tup_of {h : Heap} {xs : List D} {v : Value} (r : DatIs h (.tuple xs) v) : ∃ a o us n, v = .ref a ∧ h.get? a = some o ∧ o.cls = .type "tuple" ∧ o.data = .seq us n ∧ DatsIs h xs us.toList := by
  cases r with
  | tup a b c d => exact ⟨_, _, _, _, rfl, a, b, c, d⟩
theorem DatIs.int_of {h : Heap} {i : Int} {v : Value} (r : DatIs h (.int i) v) : ∃ t, v = .int i t := by
  cases r; exact ⟨_, rfl⟩
theorem DatIs.str_of {h : Heap} {i : Str} {v : Value} (r : DatIs h (.str i) v) : ∃ t, v = .str i t := by
  cases r; exact ⟨_, rfl⟩
theorem cmpb_kinds {d e : D} (h : cmpb d e = true) : (∃ i j, d = .int i ∧ e = .int j) ∨ (∃ i j, d = .str i ∧ e = .str j) ∨ ∃ xs ys, d = .tuple xs ∧ e = .tuple ys ∧ cmpbs xs ys = true := by
  cases d with
  | int i => cases e with
    | int j => exact .inl ⟨i, j, rfl, rfl⟩
    | _ => cases h
  | str i => cases e with
    | str j => exact .inr (.inl ⟨i, j, rfl, rfl⟩)
    | _ => cases h
  | tuple xs => cases e with
    | tuple ys => exact .inr (.inr ⟨xs, ys, rfl, rfl, by simpa only [cmpb] using h⟩)
    | _ => cases h
  | _ => cases h
/-- < of them -/
theorem lt_d : ∀ (n : Nat) (d e : D) (A : Around) (s : Shared) (u v : Value), dpD d ≤ n → cmpb d e = true → DatIs s.heap d u → DatIs s.heap e v → A.units + n < cLine → RcLt A s u v (ltO d e) := by
  intro n
  induction n with
  | zero =>
    intro d e A s u v hd hc h1 h2 hu
    rcases cmpb_kinds hc with ⟨i, j, rfl, rfl⟩ | ⟨i, j, rfl, rfl⟩ | ⟨xs, ys, rfl, rfl, hc'⟩
    · obtain ⟨t, rfl⟩ := h1.int_of
      obtain ⟨t', rfl⟩ := h2.int_of
      intro prog w E Q h
      rw [lt_int_enc] at h
      exact PyProof.Rows.lt_int h
    · obtain ⟨t, rfl⟩ := h1.str_of
      obtain ⟨t', rfl⟩ := h2.str_of
      intro prog w E Q h
      rw [lt_str_enc] at h
      exact PyProof.Rows.lt_str h
    · exact absurd hd (by simp only [dpD]; omega)
  | succ n ih =>
    intro d e A s u v hd hc h1 h2 hu
    rcases cmpb_kinds hc with ⟨i, j, rfl, rfl⟩ | ⟨i, j, rfl, rfl⟩ | ⟨xs, ys, rfl, rfl, hc'⟩
    · obtain ⟨t, rfl⟩ := h1.int_of
      obtain ⟨t', rfl⟩ := h2.int_of
      intro prog w E Q h
      rw [lt_int_enc] at h
      exact PyProof.Rows.lt_int h
    · obtain ⟨t, rfl⟩ := h1.str_of
      obtain ⟨t', rfl⟩ := h2.str_of
      intro prog w E Q h
      rw [lt_str_enc] at h
      exact PyProof.Rows.lt_str h
    · have hd' : dpDs xs ≤ n := by simp only [dpD] at hd; omega
      obtain ⟨a1, o1, us, n1, rfl, g1, b1, c1, r1⟩ := h1.tup_of
      obtain ⟨a2, o2, ws, n2, rfl, g2, b2, c2, r2⟩ := h2.tup_of
      have hin := in1_units (A := A)
      obtain ⟨ge, gr, er⟩ := items_asks (A := A) (fun j p1 p2 p3 p4 hcm => ih _ _ A.in1 s _ _ (Nat.le_trans (dp_get p3) hd') hcm (r1.get p1 p3) (r2.get p2 p4) (by omega)) r1 r2 hc' (by omega)
      have := lt_tuple (A := A) g1 b1 c1 g2 b2 c2 (by omega) ge gr
      rw [er] at this
      exact this
section
variable {prog : Program} {w : World} {A : Around} {E : Value → Shared → Prop} {s : Shared}
/-- as sorting asks it -/
theorem one_d {f : Bool} {d e : D} {u v : Value} {Q : Bool → Shared → Prop} (hc : cmpb d e = true) (h1 : DatIs s.heap d u) (h2 : DatIs s.heap e v) (hu : A.units + dpD d + 8 < cLine) (h : Q (ltO d e) s) : wpAny (model prog w) A (oneLt' f u v) Q E s := by
  cases f with
  | false => exact PySem.W.kat_one _ _ (lt_d (dpD d) d e A s u v (Nat.le_refl _) hc h1 h2 (by omega) prog w E (PySem.W.BoolBack Q) h)
  | true =>
    rcases cmpb_kinds hc with ⟨i, j, rfl, rfl⟩ | ⟨i, j, rfl, rfl⟩ | ⟨xs, ys, rfl, rfl, hc'⟩
    · obtain ⟨t, rfl⟩ := h1.int_of
      obtain ⟨t', rfl⟩ := h2.int_of
      rw [lt_int_enc] at h
      exact oneLt_int h
    · obtain ⟨t, rfl⟩ := h1.str_of
      obtain ⟨t', rfl⟩ := h2.str_of
      rw [lt_str_enc] at h
      exact oneLt_str h
    · obtain ⟨a1, o1, us, n1, rfl, g1, b1, c1, r1⟩ := h1.tup_of
      obtain ⟨a2, o2, ws, n2, rfl, g2, b2, c2, r2⟩ := h2.tup_of
      have hd : dpD (.tuple xs) = dpDs xs + 1 := rfl
      have hin := in1_units (A := A)
      rw [oneLt'_eq]
      simp only [if_true]
      refine wpAny_bind (wpAny_cRoomFor (by omega) ?_)
      refine wpAny_bind (wpAny_callSpecialIfBound?_slot ⟨_, g1, b1⟩ F.slot_tuple_lt ?_)
      obtain ⟨ge, gr, er⟩ := items_asks (A := A) (fun j p1 p2 p3 p4 hcm => lt_d (dpDs xs) _ _ A.in1 s _ _ (dp_get p3) hcm (r1.get p1 p3) (r2.get p2 p4) (by omega)) r1 r2 hc' (by omega)
      refine call_tupLt g1 b1 c1 g2 b2 c2 ge gr ?_
      rw [er]
      exact wpAny_truthy_bool h
end
end Zl
end

-- ZSr3
section
namespace Zl
open PySem PySem.Spec PyProof.Rows L2 PySem.SeqAt
section
variable {prog : Program} {w : World} {A : Around} {E : Value → Shared → Prop} {s : Shared}
theorem kat_d {b : Bool} {Q : Bool → Shared → Prop} : ∀ (xs ys : List D) (us ws : List Value) (i : Nat), DatsIs s.heap xs us → DatsIs s.heap ys ws → cmpbs xs ys = true → A.units + dpDs xs + 8 < cLine → Q (decide (encs xs < encs ys)) s →
    PySem.W.KatLex prog w A b (decide (us.length < ws.length)) Q (us.zip ws) i s
  | [], [], _, _, i, .nil, .nil, _, _, h => PySem.W.kat_nil (by simpa [encs] using h)
  | [], y :: ys, _, _, i, .nil, .cons a' b', _, _, h => by
    obtain ⟨z, r, e, p⟩ := enc_pos a'.plain
    have : decide (encs [] < encs (y :: ys)) = true := by simp [encs, e, List.cons_lt_cons_iff, p]
    rw [this] at h
    exact PySem.W.kat_nil (by simpa using h)
  | x :: xs, [], _, _, i, .cons a' b', .nil, _, _, h => by
    obtain ⟨z, r, e, p⟩ := enc_pos a'.plain
    have : decide (encs (x :: xs) < encs []) = false := by simp [encs, e, List.cons_lt_cons_iff]; omega
    rw [this] at h
    exact PySem.W.kat_nil (by simpa using h)
  | x :: xs, y :: ys, _, _, i, .cons (v := u) (vs := us) a1 b1, .cons (v := v) (vs := ws) a2 b2, hc, hu, h => by
    have m1 : dpD x ≤ dpDs (x :: xs) := Nat.le_max_left ..
    have m2 : dpDs xs ≤ dpDs (x :: xs) := Nat.le_max_right ..
    simp only [cmpbs] at hc
    have fe : decide ((u :: us).length < (v :: ws).length) = decide (us.length < ws.length) := by simp
    rw [fe]
    show PySem.W.KatLex prog w A b _ Q ((u, v) :: us.zip ws) i s
    refine PySem.W.kat_cons (eq_d a1 a2 (by omega) prog w _ _ ?_)
    refine PySem.W.kat_go (fun e1 => ?_) (fun e1 => ?_)
    · have c := of_decide_eq_true e1
      rw [if_pos c] at hc
      obtain ⟨k, ek, _⟩ := a1.nested
      have exy : x = y := nk_inj x y k a1.plain a2.plain ek (by rw [← c]; exact ek)
      refine PySem.W.kat_yes (kat_d xs ys us ws (i + 1) b1 b2 hc (by omega) ?_)
      have : decide (encs (x :: xs) < encs (y :: ys)) = decide (encs xs < encs ys) := by
        rw [exy]; simp only [encs]; exact decide_eq_decide.mpr app_lt
      rw [this] at h
      exact h
    · have c := of_decide_eq_false e1
      rw [if_neg c] at hc
      refine PySem.W.kat_no (one_d hc a1 a2 (by omega) ?_)
      have : decide (encs (x :: xs) < encs (y :: ys)) = ltO x y := by
        simp only [encs]; exact decide_eq_decide.mpr (enc_lt a1.plain a2.plain fun e => c (by rw [e]))
      rw [this] at h
      exact h
theorem mapM_of {M : Model} {β : Type} {f : Value → Sem β} {g : Value → β} : ∀ (l : List Value) {Q : List β → Shared → Prop}, (∀ v ∈ l, ∀ (Q' : β → Shared → Prop), Q' (g v) s → wpAny M A (f v) Q' E s) → Q (l.map g) s → wpAny M A (l.mapM f) Q E s
  | [], _, _, h => by rw [List.mapM_nil]; exact wpAny_pure h
  | x :: l, Q, hf, h => by
    rw [List.mapM_cons]
    refine wpAny_bind (hf x (.head _) _ (wpAny_bind ?_))
    exact mapM_of l (Q := fun bs s' => wpAny M A (pure (g x :: bs)) Q E s') (fun v hv => hf v (.tail _ hv)) (wpAny_pure h)
def firstH (h : Heap) : Value → Option Value
  | .ref a => (h.get? a).bind fun o => match o.data with
    | .seq vs _ => vs[0]?
    | _ => none
  | _ => none
def tyH (h : Heap) : Value → Value
  | .int _ _ => .type "int"
  | .str _ _ => .type "str"
  | .ref a => ((h.get? a).map (·.cls)).getD .none
  | _ => .none
theorem ty_d {d : D} {v : Value} (r : DatIs s.heap d v) {Q : Value → Shared → Prop} (h : Q (tyH s.heap v) s) : wpAny (model prog w) A (typeOf v) Q E s := by
  cases r with
  | int i t => exact wpAny_typeOf (typeIs_int s i t) h
  | str i t => exact wpAny_typeOf (typeIs_str s i t) h
  | @tup a0 o0 us n ds a b c e =>
    refine wpAny_typeOf ⟨_, a, b⟩ ?_
    have : tyH s.heap (.ref a0) = .type "tuple" := by simp only [tyH, a, Option.map_some, Option.getD_some]; exact b
    rw [this] at h
    exact h
/-- which kind of sort is taken, of tuples -/
def AllTup (h : Heap) (vs : List Value) : Prop := ∀ v ∈ vs, ∃ xs, DatIs h (.tuple xs) v
theorem kind_d {vs : List Value} (hv : AllTup s.heap vs) (ne : vs ≠ []) : ∃ κ, (κ = general' ∨ κ = oneType' ∨ ∃ b, κ = tuples' b) ∧ ∀ (Q : SortKind → Shared → Prop) (E : Value → Shared → Prop), Q κ s → wpAny (model prog w) A (keyKind' vs.toArray) Q E s := by
  have hfirst : ∀ (E : Value → Shared → Prop), ∀ v ∈ vs, ∀ (Q' : Option Value → Shared → Prop), Q' (firstH s.heap v) s → wpAny (model prog w) A (firstOfTuple' v) Q' E s := fun E v hm Q' hq => by
    obtain ⟨xs, r⟩ := hv v hm
    obtain ⟨a, o, us, n, rfl, g, c, d, _⟩ := r.tup_of
    rw [PySem.W.kas_first_eq]
    refine wpAny_bind (wpAny_typeOf ⟨_, g, c⟩ ?_)
    rw [if_neg (by decide)]
    refine wpAny_bind (listItems_at g d (wpAny_pure ?_))
    have : firstH s.heap (.ref a) = us[0]? := by simp only [firstH, g, Option.bind_some, d]
    rw [this] at hq
    exact hq
  have htup : ∀ v ∈ vs, tyH s.heap v = .type "tuple" := fun v hm => by
    obtain ⟨xs, r⟩ := hv v hm
    obtain ⟨a, o, us, n, rfl, g, c, d, _⟩ := r.tup_of
    simp only [tyH, g, Option.map_some, Option.getD_some, c]
  have hins : ∀ f, f ∈ (vs.map (firstH s.heap)).filterMap id → ∃ d, DatIs s.heap d f := fun f hf => by
    obtain ⟨o, ho, e⟩ := List.mem_filterMap.mp hf
    obtain ⟨v, hm, rfl⟩ := List.mem_map.mp ho
    obtain ⟨xs, r⟩ := hv v hm
    obtain ⟨a, o, us, n, rfl, g, c, d, rr⟩ := r.tup_of
    have e' : us[0]? = some f := by
      have : firstH s.heap (.ref a) = us[0]? := by simp only [firstH, g, Option.bind_some, d]
      rw [← this]; exact e
    have hl := rr.len
    have h0 : 0 < us.toList.length := by
      rw [Array.length_toList]
      exact (Array.getElem?_eq_some_iff.mp e').1
    have := rr.get h0 (by omega)
    have e2 : us.toList[0] = f := by
      have := (Array.getElem?_eq_some_iff.mp e').2
      simpa using this
    rw [e2] at this
    exact ⟨_, this⟩
  by_cases hall : ((vs.map (firstH s.heap)).toArray.all fun x => x.isSome) = true
  · let fs := ((vs.map (firstH s.heap)).toArray.filterMap id)
    let ts := (fs.toList.map (tyH s.heap)).toArray
    refine ⟨tuples' ((match ts[0]? with | some t => if (ts.all (· == t)) = true then some t else none | none => none : Option Value).any (· != .type "tuple")), .inr (.inr ⟨_, rfl⟩), fun Q E h => ?_⟩
    rw [kat_kind_eq, List.mapM_toArray, map_eq_pure_bind]
    refine wpAny_bind (wpAny_bind (mapM_of vs (hfirst E) (wpAny_pure ?_)))
    rw [if_pos hall]
    refine wpAny_bind (wpAny_rule ?_)
    rw [oneTypeOnly'_eq]
    have hts : ∀ (E : Value → Shared → Prop), ∀ v ∈ fs.toList, ∀ (Q' : Value → Shared → Prop), Q' (tyH s.heap v) s → wpAny (model prog w) A (typeOf v) Q' E s := fun E v hm Q' hq => by
      obtain ⟨d, r⟩ := hins v (by simpa [fs] using hm)
      exact ty_d r hq
    have efs : ((vs.map (firstH s.heap)).toArray.filterMap id) = fs.toList.toArray := by simp [fs]
    rw [efs, List.mapM_toArray, map_eq_pure_bind]
    refine wpAny_bind (wpAny_bind (wpAny_bind (mapM_of fs.toList (hts E) (wpAny_pure ?_))))
    have h' : Q (tuples' ((match ts[0]? with | some t => if (ts.all (· == t)) = true then some t else none | none => none : Option Value).any (· != .type "tuple"))) s := h
    show wpAny (model prog w) A (match ts[0]? with | some t => pure (if (ts.all (· == t)) = true then some t else none) | none => pure none) _ E s
    cases q : ts[0]? with
    | none => rw [q] at h'; exact wpAny_pure (wpAny_pure h')
    | some t => rw [q] at h'; exact wpAny_pure (wpAny_pure h')
  · by_cases h0 : ((vs.map (firstH s.heap)).toArray[0]?.bind id).isSome = true
    · refine ⟨general', .inl rfl, fun Q E h => ?_⟩
      rw [kat_kind_eq, List.mapM_toArray, map_eq_pure_bind]
      refine wpAny_bind (wpAny_bind (mapM_of vs (hfirst E) (wpAny_pure ?_)))
      rw [if_neg hall, if_pos h0]
      exact wpAny_pure h
    · refine ⟨oneType', .inr (.inl rfl), fun Q E h => ?_⟩
      rw [kat_kind_eq, List.mapM_toArray, map_eq_pure_bind]
      refine wpAny_bind (wpAny_bind (mapM_of vs (hfirst E) (wpAny_pure ?_)))
      rw [if_neg hall, if_neg h0, oneTypeOnly'_eq, List.mapM_toArray, map_eq_pure_bind]
      refine wpAny_bind (wpAny_bind (wpAny_bind (mapM_of vs (fun v hm Q' hq => by
        obtain ⟨xs, r⟩ := hv v hm
        exact ty_d r hq) (wpAny_pure ?_))))
      have em : vs.map (tyH s.heap) = vs.map fun _ => Value.type "tuple" := List.map_congr_left htup
      rw [em]
      obtain ⟨v0, vr, rfl⟩ : ∃ v0 vr, vs = v0 :: vr := by
        cases vs with
        | nil => exact absurd rfl ne
        | cons a b => exact ⟨a, b, rfl⟩
      have hq0 : ((List.map (fun _ => Value.type "tuple") (v0 :: vr)).toArray)[0]? = some (Value.type "tuple") := by simp
      have hqa : ((List.map (fun _ => Value.type "tuple") (v0 :: vr)).toArray.all fun x => x == Value.type "tuple") = true := by
        simp only [List.all_toArray, List.all_map, List.all_eq_true]
        intro _ _
        rfl
      rw [hq0]
      simp only [hqa, if_true]
      exact wpAny_pure (wpAny_pure h)
theorem keyLt_general (x y : Value) : keyLt' general' x y = oneLt' false x y := rfl
/-- any two of them compare -/
theorem cmp_d {vs : List Value} {k : Value → D} {κ : SortKind} (hκ : κ = general' ∨ κ = oneType' ∨ ∃ b, κ = tuples' b) (hv : ∀ v ∈ vs, DatIs s.heap (k v) v ∧ ∃ xs, k v = .tuple xs) (hc : ∀ u ∈ vs, ∀ v ∈ vs, cmpb (k u) (k v) = true) (hd : ∀ v ∈ vs, A.units + dpD (k v) + 8 < cLine) :
    SrtO.Cmp prog w A s κ (fun p => p.1 ∈ vs) (SrtO.lt2 (ltV k)) := fun p q hp hq => by
  obtain ⟨r1, xs, e1⟩ := hv _ hp
  obtain ⟨r2, ys, e2⟩ := hv _ hq
  have c := hc _ hp _ hq
  have hu := hd _ hp
  rcases hκ with rfl | rfl | ⟨b, rfl⟩
  · rw [keyLt_general]
    exact one_d c r1 r2 hu ⟨rfl, rfl⟩
  · rw [keyLt'_oneType]
    exact one_d c r1 r2 hu ⟨rfl, rfl⟩
  · have c' := c
    have r1' := r1
    have r2' := r2
    rw [e1] at r1 c hu
    rw [e2] at r2 c
    obtain ⟨a1, o1, us, n1, f1, g1, b1, d1, l1⟩ := r1.tup_of
    obtain ⟨a2, o2, ws, n2, f2, g2, b2, d2, l2⟩ := r2.tup_of
    have hdp : dpD (.tuple xs) = dpDs xs + 1 := rfl
    show wpAny (model prog w) A (keyLt' (tuples' b) p.1 q.1) (fun r s' => s' = s ∧ r = ltO (k p.1) (k q.1)) (fun _ _ => False) s
    rw [e1, e2, f1, f2, lt_tup_enc]
    refine PySem.W.kat_lt g1 d1 g2 d2 ?_
    have e3 : decide (us.size < ws.size) = decide (us.toList.length < ws.toList.length) := by simp
    rw [e3]
    exact kat_d xs ys us.toList ws.toList 0 l1 l2 (by simpa only [cmpb] using c) (by omega) ⟨rfl, rfl⟩
end
end Zl
end

-- ZSr4
section
/-! sorted(xs), sorted(d): of tuples -/
namespace Zl
open PySem PySem.Spec PyProof.Rows L2 PySem.SeqAt
def insD (x : D) : List D → List D
  | [] => [x]
  | y :: r => if ltO y x = true then y :: insD x r else x :: y :: r
def sortD : List D → List D
  | [] => []
  | x :: r => insD x (sortD r)
theorem insD_perm (x : D) : ∀ l, (insD x l).Perm (x :: l)
  | [] => .refl _
  | y :: r => by
    unfold insD
    split
    · exact ((insD_perm x r).cons y).trans (.swap x y r)
    · exact .refl _
theorem sortD_perm : ∀ l, (sortD l).Perm l
  | [] => .refl _
  | x :: r => (insD_perm x _).trans ((sortD_perm r).cons x)
def leO (x y : D) : Prop := plainD x = true ∧ plainD y = true ∧ ltO y x = false
theorem leO_anti {x y : D} (h : leO x y) (h' : leO y x) : x = y := by
  have a := of_decide_eq_false h.2.2
  have b := of_decide_eq_false h'.2.2
  exact enc_inj h.1 h.2.1 (List.le_antisymm (List.not_lt.mp a) (List.not_lt.mp b))
theorem insD_pw {x : D} (hx : plainD x = true) : ∀ {l : List D}, l.Pairwise leO → (∀ y ∈ l, plainD y = true) → (insD x l).Pairwise leO
  | [], _, _ => List.pairwise_singleton _ _
  | y :: r, h, hp => by
    obtain ⟨h1, h2⟩ := List.pairwise_cons.mp h
    have hy := hp y List.mem_cons_self
    have hr : ∀ z ∈ r, plainD z = true := fun z hz => hp z (List.mem_cons_of_mem _ hz)
    have O := swo_k (α := D) id
    unfold insD
    split
    · rename_i q
      refine List.pairwise_cons.mpr ⟨fun z hz => ?_, insD_pw hx h2 hr⟩
      rcases List.mem_cons.mp ((insD_perm x r).mem_iff.mp hz) with rfl | hz
      · exact ⟨hy, hx, O.asym y z q⟩
      · exact h1 z hz
    · rename_i q
      have q' : ltO y x = false := Bool.eq_false_iff.mpr q
      refine List.pairwise_cons.mpr ⟨fun z hz => ?_, h⟩
      rcases List.mem_cons.mp hz with rfl | hz
      · exact ⟨hx, hy, q'⟩
      · exact ⟨hx, hr z hz, O.tr x y z q' (h1 z hz).2.2⟩
theorem sortD_pw : ∀ {l : List D}, (∀ y ∈ l, plainD y = true) → (sortD l).Pairwise leO
  | [], _ => .nil
  | x :: r, h => insD_pw (h x List.mem_cons_self) (sortD_pw fun y hy => h y (List.mem_cons_of_mem _ hy)) fun y hy => h y (List.mem_cons_of_mem _ ((sortD_perm r).mem_iff.mp hy))
/-- what sorted is asked of: tuples that compare -/
def tupsOk (ds : List D) : Bool := ds.all (fun d => isTp d && plainD d && decide (dpD d ≤ 40)) && ds.all fun d => ds.all fun e => cmpb d e
section
variable {X : Cx} {pins : List (Addr × Obj)} {σ : St} {H : Hp} {Z : AS} {s : Shared}
mutual
theorem rd_dat (I : Inv X pins σ H s) : ∀ (d : D) (v : V) (u : Value), plainD d = true → RD X.KW Z H d v → RelV v u → DatIs s.heap d u
  | .int i, v, u, _, h, r => by simp only [RD] at h; subst h; obtain ⟨t, rfl⟩ := r; exact .int _ _
  | .str x, v, u, _, h, r => by simp only [RD] at h; subst h; obtain ⟨t, rfl⟩ := r; exact .str _ _
  | .tuple ds, v, u, hp, h, r => by
    simp only [RD] at h
    obtain ⟨a, vs, rfl, hq, h⟩ := h
    cases r
    obtain ⟨its, rv, ⟨o, ho, hc, n, hd⟩, _⟩ := I.tuple hq.sq
    exact .tup ho hc hd (rds_dat I ds vs its (by simpa only [plainD] using hp) h rv)
  | .none, _, _, h, _, _ | .bool _, _, _, h, _, _ | .list _, _, _, h, _, _ | .dict _, _, _, h, _, _ => by cases h
theorem rds_dat (I : Inv X pins σ H s) : ∀ (ds : List D) (vs : List V) (us : List Value), plainDs ds = true → RDs X.KW Z H ds vs → Vals vs us → DatsIs s.heap ds us
  | [], vs, us, _, h, r => by simp only [RDs] at h; subst h; cases r; exact .nil
  | d :: ds, vs, us, hp, h, r => by
    simp only [RDs] at h
    obtain ⟨v, vr, rfl, h1, h2⟩ := h
    simp only [plainDs, Bool.and_eq_true] at hp
    cases r with
    | cons r t => exact .cons (rd_dat I d v _ hp.1 h1 r) (rds_dat I ds vr _ hp.2 h2 t)
end
open Classical in
noncomputable def datOf (h : Heap) (v : Value) : D := if q : ∃ d, DatIs h d v then Classical.choose q else .none
theorem datOf_is {h : Heap} {d : D} {v : Value} (r : DatIs h d v) : datOf h v = d := by
  have q : ∃ d, DatIs h d v := ⟨d, r⟩
  unfold datOf
  rw [dif_pos q]
  exact (Classical.choose_spec q).inj r
/-- the items that are sorted: values, what they are, the readings -/
structure Its (X : Cx) (Z : AS) (H : Hp) (s : Shared) (ds : List D) (xs : List V) (us : List Value) : Prop where
  ok : tupsOk ds = true
  rd : RDs X.KW Z H ds xs
  rv : Vals xs us
theorem Its.at (I : Inv X pins σ H s) : ∀ {ds : List D} {xs : List V} {us : List Value} (_ : ∀ d ∈ ds, plainD d = true ∧ isTp d = true), RDs X.KW Z H ds xs → Vals xs us → us.map (datOf s.heap) = ds ∧ ∀ u ∈ us, ∃ d ∈ ds, DatIs s.heap d u ∧ ∃ a, u = .ref a ∧ RD X.KW Z H d (.ref a)
  | [], _, _, _, h, r => by simp only [RDs] at h; subst h; cases r; exact ⟨rfl, fun _ z => nomatch z⟩
  | d :: ds, _, _, hp, h, r => by
    simp only [RDs] at h
    obtain ⟨v, vr, rfl, h1, h2⟩ := h
    cases r with
    | @cons _ u _ us r t =>
      have hd := hp d List.mem_cons_self
      have r1 := rd_dat I d v u hd.1 h1 r
      obtain ⟨e, m⟩ := Its.at I (fun d h => hp d (List.mem_cons_of_mem _ h)) h2 t
      refine ⟨by rw [List.map_cons, e, datOf_is r1], fun w hw => ?_⟩
      rcases List.mem_cons.mp hw with rfl | hw
      · refine ⟨d, List.mem_cons_self, r1, ?_⟩
        cases d with
        | tuple ds0 =>
          have h1' := h1
          simp only [RD] at h1
          obtain ⟨a, vs, rfl, _⟩ := h1
          cases r
          exact ⟨a, rfl, h1'⟩
        | _ => cases hd.2
      · obtain ⟨d', hd', q⟩ := m w hw
        exact ⟨d', List.mem_cons_of_mem _ hd', q⟩
theorem tupsOk_all {ds : List D} (h : tupsOk ds = true) : (∀ d ∈ ds, plainD d = true ∧ isTp d = true ∧ dpD d ≤ 40) ∧ ∀ d ∈ ds, ∀ e ∈ ds, cmpb d e = true := by
  simp only [tupsOk, Bool.and_eq_true, List.all_eq_true, decide_eq_true_eq] at h
  exact ⟨fun d hd => ⟨(h.1 d hd).1.2, (h.1 d hd).1.1, (h.1 d hd).2⟩, h.2⟩
/-- what is asked of the items while they are sorted -/
theorem its_sortable {ds : List D} {us : List Value} {h0 : Heap} {A : Around} {a : Addr} (ok : tupsOk ds = true) (m : ∀ u ∈ us, ∃ d ∈ ds, DatIs h0 d u) (ne : us ≠ []) (hu : A.units + 100 < cLine) (keep : ∀ b o, h0.get? b = some o → s.heap.get? b = some o) (ha : ∀ o, s.heap.get? a = some o → o.cls ≠ .type "tuple") :
    SrtO.SortableO X.prog X.w A s a us (ltV (datOf h0)) := fun h' k => by
  have hk : ∀ b o vs n, h0.get? b = some o → o.data = .seq vs n → o.cls = .type "tuple" → h'.get? b = some o := fun b o vs n e _ c => k b o (fun z => by subst z; exact ha o (keep _ _ e) c) (keep _ _ e)
  obtain ⟨p1, p2⟩ := tupsOk_all ok
  have at' : ∀ u ∈ us, DatIs h' (datOf h0 u) u ∧ datOf h0 u ∈ ds := fun u hu => by
    obtain ⟨d, hd, r⟩ := m u hu
    rw [datOf_is r]
    exact ⟨r.at hk, hd⟩
  have tp : ∀ d ∈ ds, ∃ xs, d = .tuple xs := fun d hd => by
    have := (p1 d hd).2.1
    cases d with
    | tuple xs => exact ⟨xs, rfl⟩
    | _ => cases this
  obtain ⟨κ, hκ, hkind⟩ := kind_d (prog := X.prog) (w := X.w) (A := A) (s := { s with heap := h' }) (vs := us) (fun v hv => by
    obtain ⟨r, hd⟩ := at' v hv
    obtain ⟨xs, e⟩ := tp _ hd
    rw [e] at r
    exact ⟨xs, r⟩) ne
  refine ⟨κ, hkind, cmp_d hκ (fun v hv => ?_) (fun u hu v hv => p2 _ (at' u hu).2 _ (at' v hv).2) (fun v hv => ?_)⟩
  · obtain ⟨r, hd⟩ := at' v hv
    exact ⟨r, tp _ hd⟩
  · have := (p1 _ (at' v hv).2).2.2
    omega
/-- the sorted items, as the readings have them -/
theorem its_out (I : Inv X pins σ H s) {ds : List D} {xs : List V} {us out : List Value} (ok : tupsOk ds = true) (rd : RDs X.KW Z H ds xs) (rv : Vals xs us) (hs : SrtO.Srtd (ltV (datOf s.heap)) out) (hp : out.Perm us) :
    Vals (out.map backV) out ∧ RDs X.KW Z H (sortD ds) (out.map backV) := by
  obtain ⟨p1, p2⟩ := tupsOk_all ok
  obtain ⟨e, m⟩ := Its.at I (fun d h => ⟨(p1 d h).1, (p1 d h).2.1⟩) rd rv
  have mo : ∀ u ∈ out, ∃ d ∈ ds, DatIs s.heap d u ∧ ∃ a, u = .ref a ∧ RD X.KW Z H d (.ref a) := fun u hu => m u (hp.mem_iff.mp hu)
  refine ⟨vals_back fun u hu => let ⟨_, _, _, a, ea, _⟩ := mo u hu; ⟨a, ea⟩, ?_⟩
  have eo : out.map (datOf s.heap) = sortD ds := by
    refine pw_uniq (le := leO) leO_anti ?_ (sortD_pw fun d hd => (p1 d hd).1) (((hp.map (datOf s.heap)).trans (.of_eq e)).trans (sortD_perm ds).symm)
    refine List.pairwise_map.mpr (hs.imp_of_mem fun {u v} hu hv q => ?_)
    obtain ⟨d, hd, r, _⟩ := mo u hu
    obtain ⟨d', hd', r', _⟩ := mo v hv
    refine ⟨by rw [datOf_is r]; exact (p1 d hd).1, by rw [datOf_is r']; exact (p1 d' hd').1, q⟩
  rw [← eo]
  clear hs hp eo
  induction out with
  | nil => simp only [List.map_nil, RDs]
  | cons u out ih =>
    obtain ⟨d, _, r, a, rfl, rr⟩ := mo u List.mem_cons_self
    simp only [List.map_cons, RDs]
    refine ⟨_, _, rfl, ?_, ih fun v hv => mo v (List.mem_cons_of_mem _ hv)⟩
    rw [datOf_is r]
    exact rr
theorem sortD_len (l : List D) : (sortD l).length = l.length := (sortD_perm l).length_eq
def rSortD (K : KW) : List V → Hp → VK → Prop := fun vs H Q => ∃ (a : Addr) (xs : List V) (Z : AS) (ds : List D), vs = [.ref a] ∧ SqL K H a xs ∧ RDs K Z H ds xs ∧ tupsOk ds = true ∧ ∀ ys p, RDs K Z H (sortD ds) ys → H p = none → Q (.ref p) (upd H p (.lst ys))
theorem cr_sortD (hu : X.A.units + 150 < cLine) : CallR X (.builtin "sorted") (rSortD X.KW) := fun pins s σ H vs us Q I r h => by
  obtain ⟨a, xs, Z, ds, e, hq, rd, ok, q⟩ := h
  subst e
  obtain ⟨u, rfl, ru⟩ := vals1 r
  cases ru
  obtain ⟨its, rv, hl, hz⟩ := I.list hq
  have hle := rv.length
  obtain ⟨p1, p2⟩ := tupsOk_all ok
  obtain ⟨_, m⟩ := Its.at I (fun d h => ⟨(p1 d h).1, (p1 d h).2.1⟩) rd rv
  refine SrtO.sorted_ord (swo_k (datOf s.heap)) hl.isList (by rw [← hle]; exact hz) (fun h2 h₁ l hl1 kk => ?_) fun out hs hb => ?_
  · have hin := in1_units (A := X.A)
    have hin2 := in1_units (A := X.A.in1)
    refine its_sortable (X := X) (h0 := s.heap) ok (fun u hu => let ⟨d, hd, r, _⟩ := m u hu; ⟨d, hd, r⟩) (fun z => by rw [z] at h2; exact absurd h2 (by decide)) (by omega) (fun b o e => (kk b o e).2) fun o e c => ?_
    have e' : some o = some (seqObj "list" its.toArray 0) := e.symm.trans hl1
    cases e'
    exact absurd (Value.type.inj c) (by decide)
  · obtain ⟨v1, v2⟩ := its_out I ok rd rv hs hb.perm
    have hlen : (out.map backV).length = xs.length := by rw [List.length_map, hb.perm.length_eq, ← hle]
    refine ⟨.ref _, _, I.laid (t' := s.toks) (fun b o e => sortedAll_old e) (Nat.le_succ _) ?_, rfl, q _ _ v2 (I.hok.fresh (Nat.le_succ _))⟩
    obtain ⟨n, hn⟩ := sortedAll_at s.heap its out.toArray
    exact ⟨by rw [hlen]; exact hz, out, n, v1, hn⟩
theorem xsr_refs : ∀ {xs : Xs} {us : List (NestedKey × Addr × Value)}, XsR xs us → Vals (xs.map fun x => V.ref x.2.1) (us.map fun x => Value.ref x.2.1)
  | _, _, .nil => .nil
  | _, _, .cons r t => .cons (by show Value.ref _ = Value.ref _; rw [r.2.1]) (xsr_refs t)
/-- sorted(d) -/
def rSortT (K : KW) : List V → Hp → VK → Prop := fun vs H Q => ∃ (a : Addr) (Z : AS) (xs : Xs) (ds : List D), vs = [.ref a] ∧ DtAt K Z H a xs ∧ RDs K Z H ds (xs.map fun x => V.ref x.2.1) ∧ tupsOk ds = true ∧ ∀ ys p, RDs K Z H (sortD ds) ys → H p = none → Q (.ref p) (upd H p (.lst ys))
theorem cr_sortT (hc : X.calm = true) (hu : X.A.units + 150 < cLine) : CallR X (.builtin "sorted") (rSortT X.KW) := fun pins s σ H vs us Q I r h => by
  obtain ⟨a, Z, xs, ds, e, hq, rd, ok, q⟩ := h
  subst e
  obtain ⟨u, rfl, ru⟩ := vals1 r
  cases ru
  obtain ⟨c1, c2, _, us, rx, hm⟩ := hq.obj I
  obtain ⟨o, es, ep, ho, hx, hd, he, _, _⟩ := id hm
  have hes : es.size = xs.length := by
    have := congrArg List.length he
    rw [Array.length_toList, List.length_map] at this
    rw [this]; exact (XsR.len rx).symm
  refine Calls.call_function_entry kind_sorted plain_sorted entry_sorted (args_sorted1 _) ?_
  unfold Builtin.«sorted»
  refine wpAny_bind (m := checkCount "sorted" 1 1 _) (wpAny_pure ?_)
  refine wpAny_bind (PySem.W.kdu_collect (A := X.A.in1) (PySem.KdlSrc.rawDict (es := es) (ep := ep) c1) (I.ok.hd hc) ⟨o, ho, hx, hd⟩ (by rw [hes]; exact c2) fun h' tk acc hk hacc => ?_)
  have I1 : Inv X pins σ H { s with heap := h', toks := tk } := I.kept hk
  have eacc : acc.toList = us.map fun x => Value.ref x.2.1 := by
    refine List.ext_getElem? fun j => ?_
    rw [List.getElem?_map]
    have hsz : us.length = es.size := by rw [hes]; exact (XsR.len rx).symm
    cases q : acc.toList[j]? with
    | none =>
      have hj : us.length ≤ j := by
        have := List.getElem?_eq_none_iff.mp q
        rw [Array.length_toList, hacc.1] at this
        omega
      rw [List.getElem?_eq_none hj]; rfl
    | some v =>
      obtain ⟨hi, ev⟩ := hacc.2 j v (by rw [← Array.getElem?_toList]; exact q)
      have : es.toList[j]? = (us[j]?).map (entryOfKey (nestedKind X.prog X.w)) := by rw [he, List.getElem?_map]
      rw [Array.getElem?_toList, Array.getElem?_eq_getElem hi] at this
      cases z : us[j]? with
      | none => rw [z] at this; cases this
      | some x =>
        rw [z] at this
        simp only [Option.map_some, Option.some.injEq] at this
        rw [ev, this]; rfl
  have rv : Vals (xs.map fun x => V.ref x.2.1) acc.toList := by rw [eacc]; exact xsr_refs rx
  have hal : acc.toList.length = xs.length := by rw [eacc, List.length_map]; exact (XsR.len rx).symm
  obtain ⟨p1, p2⟩ := tupsOk_all ok
  obtain ⟨_, m⟩ := Its.at I1 (fun d h => ⟨(p1 d h).1, (p1 d h).2.1⟩) rd rv
  refine wpAny_bind (wpAny_newList ?_ (by rw [hal]; exact c2))
  have hoL : (h'.push (seqObj "list" acc.toList.toArray 0)).get? h'.objs.size = some (seqObj "list" acc.toList.toArray 0) := Heap.get?_push_size _ rfl
  show wpAny _ _ _ _ _ { s with heap := h'.push (seqObj "list" acc.toList.toArray 0), toks := tk }
  have hin := in1_units (A := X.A)
  have hin2 := in1_units (A := X.A.in1)
  refine wpAny_bind (wpAny_holding (wpAny_call_entry slot_list_sort ⟨_, hoL, rfl⟩ entry_list_sort
    (SrtO.list_sort_ord (s := { s with heap := h'.push (seqObj "list" acc.toList.toArray 0), toks := tk }) (swo_k (datOf h')) hoL (by rw [hal]; exact c2) (fun h2 => its_sortable (X := X) (h0 := h') ok (fun u hu => let ⟨d, hd, r, _⟩ := m u hu; ⟨d, hd, r⟩) (fun z => by rw [z] at h2; exact absurd h2 (by decide)) (by omega) (fun b o e => Heap.get?_push_of_some _ e) fun o e c => ?_) fun out hs hb => ⟨_, rfl, ?_⟩) (args_list_sort _)))
  · have e' : some o = some (seqObj "list" acc.toList.toArray 0) := e.symm.trans hoL
    cases e'
    exact absurd (Value.type.inj c) (by decide)
  · obtain ⟨v1, v2⟩ := its_out I1 ok rd rv hs hb.perm
    have hlen : (out.map backV).length = xs.length := by rw [List.length_map, hb.perm.length_eq, hal]
    obtain ⟨n, hn⟩ := sortedHeap_at (vs := acc.toList) (out := out.toArray) hoL
    refine wpAny_pure ⟨_, rfl, .ref h'.objs.size, upd H h'.objs.size (.lst (out.map backV)), I1.laid (t' := tk) (fun b u e => ?_) (Nat.le_refl _) ⟨by rw [hlen]; exact c2, out, n, v1, hn⟩, rfl, q _ _ v2 (I1.hok.fresh (Nat.le_refl _))⟩
    have hb : b < h'.objs.size := Heap.lt_size e
    show (sortedHeap (h'.push (seqObj "list" acc.toList.toArray 0)) h'.objs.size acc.toList out.toArray).get? b = some u
    rw [sortedHeap_old (Nat.ne_of_lt hb) (by rw [size_push']; exact Nat.lt_succ_of_lt hb)]
    exact Heap.get?_push_of_some _ e
theorem rdt_keysD {K : KW} {Z : AS} {H : Hp} : ∀ {ks : List (D × D)} {xs : Xs}, RDt K Z H ks xs → RDs K Z H (ks.map (·.1)) (xs.map fun x => V.ref x.2.1)
  | [], _, h => by simp only [RDt] at h; subst h; simp only [List.map_nil, RDs]
  | (k, d) :: ks, _, h => by
    simp only [RDt] at h
    obtain ⟨nk, b, v, r, rfl, _, _, r1, _, h⟩ := h
    simp only [List.map_cons, RDs]
    exact ⟨_, _, rfl, r1, rdt_keysD h⟩
/-- sorted(x): a list of texts, of ints, of tuples; a dict with tuple keys -/
def sortF2 : List D → Option R
  | [.list ds] => match sortedF [.list ds] with
    | some r => some r
    | none => if tupsOk ds = true then some (.own (.lst (sortD ds))) else none
  | [.dict ks] => if tupsOk (ks.map (·.1)) = true ∧ tpKeys ks = true then some (.own (.lst (sortD (ks.map (·.1))))) else none
  | _ => none
theorem o_sort2 {K : KW} : OpL K sortF2 (fun xs H Q => (rSortedS K xs H Q ∨ rSorted K xs H Q) ∨ (rSortD K xs H Q ∨ rSortT K xs H Q)) := fun Z H vs ds r Q zl hx er k => by
  unfold sortF2 at er
  split at er
  · split at er
    · rename_i r' e'
      cases er
      exact .inl (o_sorted Z H vs _ _ Q zl hx e' k)
    · obtain ⟨ok, er⟩ := ite_some er
      cases er
      obtain ⟨v, rfl, p, vs, rfl, hq, hd⟩ := rvs1 hx
      exact .inr (.inl ⟨p, vs, Z, _, rfl, hq, hd, ok, fun ys q r hn => q_lst zl r k q hn⟩)
  · obtain ⟨ok, er⟩ := ite_some er
    cases er
    obtain ⟨v, rfl, h⟩ := rvs1 hx
    rcases (show RDd K Z H _ v from h) with ⟨a, vs, rfl, ha, rr⟩ | ⟨a, xs, rfl, ha, rr, ne⟩
    · have e0 := no_both (rdk_no rr) ok.2
      subst e0
      exact .inr (.inr ⟨a, Z, [], [], rfl, ⟨.inr ⟨rfl, by simp only [RDk] at rr; subst rr; exact ha⟩, fun _ z => nomatch z⟩, by simp only [List.map_nil, RDs], rfl, fun ys q r hn => q_lst zl r k q hn⟩)
    · exact .inr (.inr ⟨a, Z, xs, _, rfl, rdt_at ha rr, rdt_keysD rr, ok.1, fun ys q r hn => q_lst zl r k q hn⟩)
  · cases er
theorem ce_sort2 {e : Expr} {ms : MA} {p pos : Pos} (hc : X.calm = true) (hu : X.A.units + 150 < cLine) (hg : Gl X "sorted") (hm : X.mg "sorted" = none) (ha : CA X [e] ms) (he : starEach [e] X.env = (false, eval e X.env) :: starEach [] X.env := by rfl) : CE X (.Call (.Name "sorted" p) [e] [] pos) (mCB sortF2 ms) :=
  ce_callB (CallR.or (CallR.or cr_sortedS cr_sorted) (CallR.or (cr_sortD hu) (cr_sortT hc hu))) o_sort2 PyProof.Rows.boot_sorted hg hm ha (he := he)
theorem ru {A : Around} {k : Nat} (hr : Room k A) : A.units + 150 < cLine := by have := hr.un; omega
theorem ru64 {A : Around} {k : Nat} (hr : Room k A) : A.units + 64 < cLine := by have := hr.un; omega
end
end Zl
end

-- ZAll
section
namespace Zl
open PySem PySem.Spec PyProof.Rows L2
theorem law_start {K : KW} {H : Hp} {a : Addr} {ns : List Int} {F : ME} (hO : Only H) (hS : SqL K H a (ns.map V.int)) (h : ∃ ρ', F [.scr ns] = some (.val (.bool true), ρ')) :
    spD K F 1 [.ref a] H (fun v _ => v = .bl true) fun _ _ _ => False := by
  obtain ⟨ρ', e⟩ := h
  have sc : Scr K H a ns := by
    rcases hS with (h | h) | h
    · rcases hO a with q | ⟨o, xs, q⟩ <;> (rw [q] at h; cases h)
    · exact .inl h
    · exact .inr h
  refine ⟨rfl, fun _ => False, [.scr ns], _, ρ', ⟨fun _ z => z.elim, rfl, fun i d q => ?_, fun i b o q => ?_, fun i ms q => ?_, fun i j b b' o o' a q => ?_⟩, e, fun Z' H' v _ r => ?_⟩
  · cases i <;> simp at q
  · cases i <;> simp at q
  · cases i with
    | zero => simp at q; subst q; exact ⟨a, rfl, sc⟩
    | succ i => simp at q
  · cases i <;> simp at q
  · have r : RD K Z' H' (.bool true) v := r
    simpa only [RD] using r
end Zl
end

-- ZRun
section
/-! to run mirrors: what is left of a mirror at a state -/
namespace Zr
open PySem Zl
/-- what is not looked into while it waits -/
structure Dep {α : Sort u} (a : α) : Type where
def Ok0 {α : Type} (x : Option α) (Q : α → Prop) : Prop := ∃ a, x = some a ∧ Q a
def Ok {α : Type} (x : Option α) (Q : α → Prop) : Prop := Ok0 x Q
theorem ok_def {α : Type} {x : Option α} {Q : α → Prop} : Ok x Q = Ok0 x Q := rfl
section
variable {α β : Type} {x y : Option α} {a : α} {Q P : α → Prop}
theorem o_some : Ok0 (some a) Q = Q a := propext ⟨fun ⟨_, e, q⟩ => by cases e; exact q, fun q => ⟨a, rfl, q⟩⟩
theorem o_none : Ok0 (none : Option α) Q = False := propext ⟨fun ⟨_, e, _⟩ => (nomatch e), False.elim⟩
theorem o_bind {f : α → Option β} {Q : β → Prop} : Ok0 (x.bind f) Q = Ok0 x fun a => Ok0 (f a) Q := propext
  ⟨fun ⟨b, e, q⟩ => by obtain ⟨a, e1, e2⟩ := Option.bind_eq_some_iff.mp e; exact ⟨a, e1, b, e2, q⟩, fun ⟨a, e1, b, e2, q⟩ => ⟨b, Option.bind_eq_some_iff.mpr ⟨a, e1, e2⟩, q⟩⟩
theorem o_map {f : α → β} {Q : β → Prop} : Ok0 (x.map f) Q = Ok0 x fun a => Q (f a) := propext
  ⟨fun ⟨b, e, q⟩ => by obtain ⟨a, e1, e2⟩ := Option.map_eq_some_iff.mp e; exact ⟨a, e1, by show Q (f a); rw [e2]; exact q⟩, fun ⟨a, e1, q⟩ => ⟨f a, Option.map_eq_some_iff.mpr ⟨a, e1, rfl⟩, q⟩⟩
theorem o_ite {c : Prop} [Decidable c] {y : Option α} : Ok0 (if c then x else y) Q = if c then Ok0 x Q else Ok0 y Q := by split <;> rfl
theorem o_guard {c : Prop} [Decidable c] : Ok0 (if c then x else none) Q = (c ∧ Ok0 x Q) := by
  split
  · rename_i h; simp [h]
  · rename_i h; simp [h, o_none]
theorem o_else {c : Prop} [Decidable c] {P : Prop} : (if c then P else Ok0 none Q) = (c ∧ P) := by
  split
  · rename_i h; simp [h]
  · rename_i h; simp [h, o_none]
theorem Ok.mono (h : Ok x P) (i : ∀ a, P a → Q a) : Ok x Q := let ⟨a, e, p⟩ := h; ⟨a, e, i a p⟩
theorem ok_some : Ok (some a) Q = Q a := o_some
theorem ok_none : Ok (none : Option α) Q = False := o_none
theorem ok_bind {f : α → Option β} {Q : β → Prop} : Ok (x.bind f) Q = Ok x fun a => Ok (f a) Q := o_bind
theorem ok_map {f : α → β} {Q : β → Prop} : Ok (x.map f) Q = Ok x fun a => Q (f a) := o_map
theorem ok_ite {c : Prop} [Decidable c] {y : Option α} : Ok (if c then x else y) Q = if c then Ok x Q else Ok y Q := o_ite
theorem ok_guard {c : Prop} [Decidable c] : Ok (if c then x else none) Q = (c ∧ Ok x Q) := o_guard
theorem Ok.eq {a : α} (h : Ok x (· = a)) : x = some a := by obtain ⟨b, e, rfl⟩ := h; exact e
theorem ok_eq (h : x = some a) (q : Q a) : Ok x Q := ⟨a, h, q⟩
end
section
variable {ρ : Rho} {QE : R × Rho → Prop} {QT : Bool × Rho → Prop} {QA : List R × Rho → Prop} {QD : List D × Rho → Prop} {QS : Fl × Rho → Prop} {QI : List D × Rho → Prop} {QO : Option Int × Rho → Prop} {QG : Rho → Prop}
theorem r_C {d : D} : Ok (mC d ρ) QE = QE (.val d, ρ) := ok_some
def getV (i : Nat) (QE : R × Rho → Prop) (ρ : Rho) (s0 : Option Sl) (dQE : Dep QE := ⟨⟩) : Prop := match s0 with
  | some (.val d) => QE (.val d, ρ)
  | some (.own _ _) => QE (.bor i, ρ)
  | some (.scr _) => QE (.bor i, ρ)
  | _ => False
theorem r_V {i : Nat} : Ok (mV i ρ) QE = getV i QE ρ ρ[i]? := by
  unfold mV getV; split <;> simp_all [ok_def, o_some, o_none]
theorem r_Op {f : D → D → Option R} {ma mb : ME} : Ok (mOp f ma mb ρ) QE = Ok (ma ρ) fun p => Ok (mb p.2) fun q => Ok (rsT q.2 p.1) fun x => Ok (rsT q.2 q.1) fun y => Ok (f x y) fun r => QE (r, q.2) := by
  simp only [ok_def, mOp, o_bind, o_map]
theorem r_OpV {f : D → D → Option R} {ma mb : ME} : Ok (mOpV f ma mb ρ) QE = Ok (ma ρ) fun p => Ok (mb p.2) fun q => Ok (rs q.2 p.1) fun x => Ok (rs q.2 q.1) fun y => Ok (f x y) fun r => QE (r, q.2) := by
  simp only [ok_def, mOpV, o_bind, o_map]
def isBool (QT : Bool → Prop) (s0 : R) (dQT : Dep QT := ⟨⟩) : Prop := match s0 with
  | .val (.bool b) => QT b
  | _ => False
theorem r_B {m : ME} : Ok (mB m ρ) QT = Ok (m ρ) fun p => isBool (fun b => QT (b, p.2)) p.1 := by
  simp only [ok_def, mB, o_bind]
  congr 1; funext p
  rcases p with ⟨r, ρ'⟩
  cases r with
  | val d => cases d <;> simp [ok_def, isBool, o_some, o_none]
  | own o => simp [ok_def, isBool, o_none]
  | bor i => simp [ok_def, isBool, o_none]
theorem r_And {ta tb : MT} : Ok (mAnd ta tb ρ) QT = Ok (ta ρ) fun p => if p.1 = true then Ok (tb p.2) QT else QT (false, p.2) := by
  simp only [ok_def, mAnd, o_bind, o_ite, o_some]
theorem r_Or {ta tb : MT} : Ok (mOr ta tb ρ) QT = Ok (ta ρ) fun p => if p.1 = true then QT (true, p.2) else Ok (tb p.2) QT := by
  simp only [ok_def, mOr, o_bind, o_ite, o_some]
theorem r_Not {ta : MT} : Ok (mNot ta ρ) QT = Ok (ta ρ) fun p => QT (!p.1, p.2) := by simp only [ok_def, mNot, o_bind, o_some]
theorem r_AndV {ma mb : ME} : Ok (mAndV ma mb ρ) QE = Ok (ma ρ) fun p => isBool (fun b => if b = true then Ok (mb p.2) QE else QE (.val (.bool false), p.2)) p.1 := by
  simp only [ok_def, mAndV, o_bind]
  congr 1; funext p
  rcases p with ⟨r, ρ'⟩
  cases r with
  | val d => cases d with
    | bool b => cases b <;> simp [ok_def, isBool, o_some]
    | _ => simp [ok_def, isBool, o_none]
  | own o => simp [ok_def, isBool, o_none]
  | bor i => simp [ok_def, isBool, o_none]
theorem r_OrV {ma mb : ME} : Ok (mOrV ma mb ρ) QE = Ok (ma ρ) fun p => isBool (fun b => if b = true then QE (.val (.bool true), p.2) else Ok (mb p.2) QE) p.1 := by
  simp only [ok_def, mOrV, o_bind]
  congr 1; funext p
  rcases p with ⟨r, ρ'⟩
  cases r with
  | val d => cases d with
    | bool b => cases b <;> simp [ok_def, isBool, o_some]
    | _ => simp [ok_def, isBool, o_none]
  | own o => simp [ok_def, isBool, o_none]
  | bor i => simp [ok_def, isBool, o_none]
theorem r_NotV {ma : ME} : Ok (mNotV ma ρ) QE = Ok (ma ρ) fun p => isBool (fun b => QE (.val (.bool !b), p.2)) p.1 := by
  simp only [ok_def, mNotV, o_bind]
  congr 1; funext p
  rcases p with ⟨r, ρ'⟩
  cases r with
  | val d => cases d with
    | bool b => cases b <;> simp [ok_def, isBool, o_some]
    | _ => simp [ok_def, isBool, o_none]
  | own o => simp [ok_def, isBool, o_none]
  | bor i => simp [ok_def, isBool, o_none]
theorem r_If {t : MT} {ma mb : ME} : Ok (mIf t ma mb ρ) QE = Ok (t ρ) fun p => if p.1 = true then Ok (ma p.2) QE else Ok (mb p.2) QE := by simp only [ok_def, mIf, o_bind, o_ite]
theorem r_A0 : Ok (mA0 ρ) QA = QA ([], ρ) := ok_some
theorem r_A1 {m : ME} {ms : MA} : Ok (mA1 m ms ρ) QA = Ok (m ρ) fun p => Ok (ms p.2) fun q => QA (p.1 :: q.1, q.2) := by simp only [ok_def, mA1, o_bind, o_some]
theorem r_D0 : Ok (mD0 ρ) QD = QD ([], ρ) := ok_some
theorem r_D1 {m : ME} {ms : MD} : Ok (mD1 m ms ρ) QD = Ok (m ρ) fun p => Ok (fz p.2 p.1) fun d => Ok (ms d.2) fun q => QD (d.1 :: q.1, q.2) := by simp only [ok_def, mD1, o_bind, o_some]
theorem r_Tup {ms : MD} : Ok (mTup ms ρ) QE = Ok (ms ρ) fun p => p.1.length ≤ sizeLine ∧ QE (.val (.tuple p.1), p.2) := by simp only [ok_def, mTup, o_bind, o_guard, o_some]
theorem r_Lst {ms : MD} : Ok (mLst ms ρ) QE = Ok (ms ρ) fun p => p.1.length ≤ sizeLine ∧ QE (.own (.lst p.1), p.2) := by simp only [ok_def, mLst, o_bind, o_guard, o_some]
theorem r_Un {f : D → Option R} {m : ME} : Ok (mUn f m ρ) QE = Ok (m ρ) fun p => Ok (rs p.2 p.1) fun x => Ok (f x) fun r => QE (r, p.2) := by simp only [ok_def, mUn, o_bind, o_map]
theorem r_IsN {neg : Bool} {m : ME} : Ok (mIsN neg m ρ) QE = Ok (m ρ) fun p => Ok (rs p.2 p.1) fun d => QE (.val (.bool (isND neg d)), p.2) := by simp only [ok_def, mIsN, o_bind, o_some]
theorem r_O0 : Ok (mO0 ρ) QO = QO (none, ρ) := ok_some
def isInt (Q : Int → Prop) (s0 : R) (dQ : Dep Q := ⟨⟩) : Prop := match s0 with
  | .val (.int b) => Q b
  | _ => False
theorem r_O1 {m : ME} : Ok (mO1 m ρ) QO = Ok (m ρ) fun p => isInt (fun i => QO (some i, p.2)) p.1 := by
  simp only [ok_def, mO1, o_bind]
  congr 1; funext p
  rcases p with ⟨r, ρ'⟩
  cases r with
  | val d => cases d <;> simp [ok_def, isInt, o_some, o_none]
  | own o => simp [ok_def, isInt, o_none]
  | bor i => simp [ok_def, isInt, o_none]
theorem r_Sl {m : ME} {ml mh : MO} : Ok (mSl m ml mh ρ) QE = Ok (m ρ) fun p => Ok (ml p.2) fun q => Ok (mh q.2) fun s => Ok (rs s.2 p.1) fun d => Ok (slD d q.1 s.1) fun r => QE (r, s.2) := by simp only [ok_def, mSl, o_bind, o_map]
theorem r_CB {f : List D → Option R} {ms : MA} : Ok (mCB f ms ρ) QE = Ok (ms ρ) fun p => Ok (rsL p.2 p.1) fun ds => Ok (f ds) fun r => QE (r, p.2) := by simp only [ok_def, mCB, o_bind, o_map]
theorem r_Is {ts : List String} {m : ME} : Ok (mIs ts m ρ) QE = Ok (m ρ) fun p => Ok (rs p.2 p.1) fun d => isDct d = false ∧ QE (.val (.bool (ts.any fun T => isB T d)), p.2) := by simp only [ok_def, mIs, o_bind, o_guard, o_some]
theorem q_isDs {x : Str} : (isDct (.str x) = false) = True := by simp [isDct]
theorem q_isDi {x : Int} : (isDct (.int x) = false) = True := by simp [isDct]
theorem q_isDb {x : Bool} : (isDct (.bool x) = false) = True := by simp [isDct]
theorem q_isDn : (isDct .none = false) = True := by simp [isDct]
theorem q_isDl {x : List D} : (isDct (.list x) = false) = True := by simp [isDct]
theorem q_isDt {x : List D} : (isDct (.tuple x) = false) = True := by simp [isDct]
theorem r_T {m : ME} : Ok (mT m ρ) QT = Ok (m ρ) fun p => Ok (rs p.2 p.1) fun d => Ok (truD d) fun b => QT (b, p.2) := by simp only [ok_def, mT, o_bind, o_map]
theorem r_Perm {is : List Nat} {ms : MA} : Ok (mPerm is ms ρ) QA = Ok (ms ρ) fun p => QA (perm is p.1, p.2) := by simp only [ok_def, mPerm, o_map]
-- statements
theorem r_Nil : Ok (mNil ρ) QS = QS (.nx, ρ) := ok_some
def onFl (n : Rho → Prop) (QS : Fl × Rho → Prop) (ρ : Rho) (s0 : Fl) (dn : Dep n := ⟨⟩) (dQS : Dep QS := ⟨⟩) : Prop := match s0 with
  | .nx => n ρ
  | f => QS (f, ρ)
theorem r_Seq {m1 m2 : MS} : Ok (mSeq m1 m2 ρ) QS = Ok (m1 ρ) fun p => onFl (fun ρ' => Ok (m2 ρ') QS) QS p.2 p.1 := by
  simp only [ok_def, mSeq, o_bind]
  congr 1; funext p
  rcases p with ⟨r, ρ'⟩
  cases r <;> simp [ok_def, onFl, o_some]
theorem r_Bk : Ok (mBk ρ) QS = QS (.bk, ρ) := ok_some
theorem r_Ct : Ok (mCt ρ) QS = QS (.ct, ρ) := ok_some
theorem r_Drop {me : ME} : Ok (mDrop me ρ) QS = Ok (me ρ) fun p => QS (.nx, p.2) := by simp only [ok_def, mDrop, o_bind, o_some]
def retS (QS : Fl × Rho → Prop) (ρ : Rho) (s0 : R) (s1 : Option Sl) (dQS : Dep QS := ⟨⟩) : Prop := match s0, s1 with
  | .val d, _ => QS (.rt (.val d), ρ)
  | .own o, _ => QS (.rt (.own o), ρ)
  | .bor i, some (.own false o) => QS (.rt (.own o), ρ.set i .no)
  | .bor _, some (.val d) => QS (.rt (.val d), ρ)
  | _, _ => False
def ixR (ρ : Rho) : R → Option Sl
  | .bor i => ρ[i]?
  | _ => none
theorem r_Ret {me : ME} : Ok (mRet me ρ) QS = Ok (me ρ) fun p => retS QS p.2 p.1 (ixR p.2 p.1) := by
  simp only [ok_def, mRet, o_bind]
  congr 1; funext p
  rcases p with ⟨r, ρ'⟩
  cases r with
  | val d => simp [ok_def, retS, o_some]
  | own o => simp [ok_def, retS, o_some]
  | bor i =>
    simp only [ixR]
    cases ρ'[i]? with
    | none => simp [ok_def, retS, o_none]
    | some s => cases s with
      | own b o => cases b <;> simp [ok_def, retS, o_some, o_none]
      | _ => simp [ok_def, retS, o_some, o_none]
theorem r_RetN : Ok (mRetN ρ) QS = QS (.rt (.val .none), ρ) := ok_some
theorem r_IfS {t : MT} {ma mb : MS} : Ok (mIfS t ma mb ρ) QS = Ok (t ρ) fun p => if p.1 = true then Ok (ma p.2) QS else Ok (mb p.2) QS := by simp only [ok_def, mIfS, o_bind, o_ite]
theorem r_Set {i : Nat} {me : ME} : Ok (mSet i me ρ) QS = Ok (me ρ) fun p => Ok (stR i p.1 p.2) fun q => QS (.nx, q) := by simp only [ok_def, mSet, o_bind, o_some]
theorem r_Asg {g : MG} {me : ME} : Ok (mAsg g me ρ) QS = Ok (me ρ) fun p => Ok (fz p.2 p.1) fun q => Ok (g q.1 q.2) fun ρ' => QS (.nx, ρ') := by simp only [ok_def, mAsg, o_bind, o_some]
theorem r_P1 {m : ME} {ms : MA} : Ok (mP1 m ms ρ) QA = Ok (m ρ) fun p => Ok (unb p.2 p.1) fun w => Ok (ms w.2) fun q => QA (w.1 :: q.1, q.2) := by simp only [ok_def, mP1, o_bind, o_some]
theorem r_Par {is : List Nat} {ms : MA} : Ok (mPar is ms ρ) QS = Ok (ms ρ) fun p => Ok (stAll is p.1 p.2) fun ρ' => QS (.nx, ρ') := by simp only [ok_def, mPar, o_bind, o_some]
theorem r_gN {i : Nat} {d : D} : Ok (gN i d ρ) QG = Ok (stS i (.val d) ρ) QG := rfl
theorem r_gs0 : Ok (gs0 [] ρ) QG = QG ρ := ok_some
theorem r_gs1 {g : MG} {gs : MGs} {d : D} {ds : List D} : Ok (gs1 g gs (d :: ds) ρ) QG = Ok (g d ρ) fun ρ1 => Ok (gs ds ρ1) QG := by simp only [ok_def, gs1, o_bind]
theorem r_gTL {n : Nat} {gs : MGs} {ds : List D} : Ok (gT n gs (.list ds) ρ) QG = (ds.length = n ∧ Ok (gs ds ρ) QG) := by simp only [ok_def, gT, o_guard]
theorem r_gT {n : Nat} {gs : MGs} {ds : List D} : Ok (gT n gs (.tuple ds) ρ) QG = (ds.length = n ∧ Ok (gs ds ρ) QG) := by simp only [ok_def, gT, o_guard]
theorem r_stS {i : Nat} {s : Sl} : Ok (stS i s ρ) QG = (parAt ρ i = false ∧ i < ρ.length ∧ QG (ρ.set i s)) := by
  unfold stS
  cases parAt ρ i <;> simp [ok_def, o_guard, o_some, o_none]
theorem r_stRv {i : Nat} {d : D} : Ok (stR i (.val d) ρ) QG = Ok (stS i (.val d) ρ) QG := rfl
theorem r_stRo {i : Nat} {o : O} : Ok (stR i (.own o) ρ) QG = Ok (stS i (.own false o) ρ) QG := rfl
theorem r_stRb {i j : Nat} : Ok (stR i (.bor j) ρ) QG = Ok (fz ρ (.bor j)) fun q => Ok (stS i (.val q.1) q.2) QG := by simp only [ok_def, stR, o_bind]
theorem r_fzv {d : D} {Q : D × Rho → Prop} : Ok (fz ρ (.val d)) Q = Q (d, ρ) := ok_some
theorem r_fzo {o : O} {Q : D × Rho → Prop} : Ok (fz ρ (.own o)) Q = Q (o.toD, ρ) := ok_some
theorem r_rsv {d : D} {Q : D → Prop} : Ok (rs ρ (.val d)) Q = Q d := ok_some
theorem r_rso {o : O} {Q : D → Prop} : Ok (rs ρ (.own o)) Q = Q o.toD := ok_some
theorem r_rsTv {d : D} {Q : D → Prop} : Ok (rsT ρ (.val d)) Q = Q d := ok_some
theorem r_rsTo {o : O} {Q : D → Prop} : Ok (rsT ρ (.own o)) Q = Q o.toD := ok_some
def slV (Q : D → Prop) (s0 : Option Sl) (dQ : Dep Q := ⟨⟩) : Prop := match s0 with
  | some (.val d) => Q d
  | some (.own _ o) => Q o.toD
  | some (.scr ns) => Q (.list (ns.map PyData.int))
  | _ => False
def slT (Q : D → Prop) (s0 : Option Sl) (dQ : Dep Q := ⟨⟩) : Prop := match s0 with
  | some (.val d) => Q d
  | some (.own _ o) => Q o.toD
  | _ => False
theorem r_rsb {i : Nat} {Q : D → Prop} : Ok (rs ρ (.bor i)) Q = slV Q ρ[i]? := by
  simp only [rs]
  rcases ρ[i]? with _ | s
  · simp [ok_def, slV, o_none]
  · cases s <;> simp [ok_def, slV, o_none, o_some]
theorem r_rsTb {i : Nat} {Q : D → Prop} : Ok (rsT ρ (.bor i)) Q = slT Q ρ[i]? := by
  simp only [rsT]
  rcases ρ[i]? with _ | s
  · simp [ok_def, slT, o_none]
  · cases s <;> simp [ok_def, slT, o_none, o_some]
theorem r_rsL0 {Q : List D → Prop} : Ok (rsL ρ []) Q = Q [] := ok_some
theorem r_rsL1 {r : R} {rr : List R} {Q : List D → Prop} : Ok (rsL ρ (r :: rr)) Q = Ok (rs ρ r) fun d => Ok (rsL ρ rr) fun ds => Q (d :: ds) := by simp only [ok_def, rsL, o_bind, o_map]
theorem r_unbv {d : D} {Q : R × Rho → Prop} : Ok (unb ρ (.val d)) Q = Q (.val d, ρ) := ok_some
theorem r_unbo {d : O} {Q : R × Rho → Prop} : Ok (unb ρ (.own d)) Q = Q (.own d, ρ) := ok_some
theorem r_unbb {i : Nat} {Q : R × Rho → Prop} : Ok (unb ρ (.bor i)) Q = Ok (fz ρ (.bor i)) fun q => Q (.val q.1, q.2) := by simp only [ok_def, unb, o_map]
theorem r_st0 : Ok (stAll [] [] ρ) QG = QG ρ := ok_some
theorem r_stv {i : Nat} {is : List Nat} {d : D} {rr : List R} : Ok (stAll (i :: is) (.val d :: rr) ρ) QG = Ok (stS i (.val d) ρ) fun ρ1 => Ok (stAll is rr ρ1) QG := by simp only [ok_def, stAll, o_bind]
theorem r_sto {i : Nat} {is : List Nat} {d : O} {rr : List R} : Ok (stAll (i :: is) (.own d :: rr) ρ) QG = Ok (stS i (.own false d) ρ) fun ρ1 => Ok (stAll is rr ρ1) QG := by simp only [ok_def, stAll, o_bind]
-- loops
theorem r_For {mi : MI} {g : MG} {b : MS} : Ok (mFor mi g b ρ) QS = Ok (mi ρ) fun p => Ok (forL g b p.1 p.2) QS := by simp only [ok_def, mFor, o_bind]
theorem r_Items {m : ME} {Q : List D × Rho → Prop} : Ok (mItems m ρ) Q = Ok (m ρ) fun p => Ok (fz p.2 p.1) fun q => match q.1 with
  | .list ds => Q (ds, q.2)
  | .tuple ds => Q (ds, q.2)
  | .str z => Q (signs z, q.2)
  | _ => False := by
  simp only [ok_def, mItems, o_bind]
  congr 1; funext p; congr 1; funext q
  rcases q with ⟨d, ρ'⟩
  cases d <;> simp [ok_def, o_some, o_none]
theorem r_Lc {vs : List Nat} {mi : MI} {g : MG} {mt : MT} {me : ME} : Ok (mLc vs mi g mt me ρ) QE = Ok (mi ρ) fun p => okW p.2 vs = true ∧ Ok (lcL vs g mt me p.1 (wipeR p.2 vs) []) fun q => QE (.own (.lst q.1), resto p.2 q.2 vs) := by
  simp only [ok_def, mLc, o_bind, o_guard, o_some]
theorem r_Yes : Ok (mYes ρ) QT = QT (true, ρ) := ok_some
/-- a loop, with an invariant of what is left -/
theorem ok_forL {g : MG} {b : MS} (I : List D → Rho → Prop) {ds : List D} (h0 : I ds ρ) (hs : ∀ d ds ρ, I (d :: ds) ρ → Ok (g d ρ) fun ρ1 => Ok (b ρ1) fun q => match q.1 with
    | .nx => I ds q.2
    | .ct => I ds q.2
    | .bk => QS (.nx, q.2)
    | .rt r => QS (.rt r, q.2)) (hd : ∀ ρ, I [] ρ → QS (.nx, ρ)) : Ok (forL g b ds ρ) QS := by
  induction ds generalizing ρ with
  | nil => exact ⟨_, rfl, hd ρ h0⟩
  | cons d ds ih =>
    rw [forL, ok_bind]
    refine (hs d ds ρ h0).mono fun ρ1 h1 => ?_
    rw [ok_bind]
    refine h1.mono fun q h2 => ?_
    rcases q with ⟨f, ρ2⟩
    cases f with
    | nx => exact ih h2
    | ct => exact ih h2
    | bk => exact ⟨_, rfl, h2⟩
    | rt r => exact ⟨_, rfl, h2⟩
theorem ok_lcL {vs : List Nat} {g : MG} {mt : MT} {me : ME} {QL : List D × Rho → Prop} (I : List D → Rho → List D → Prop) {ds acc : List D} (h0 : I ds ρ acc) (hs : ∀ d ds ρ acc, I (d :: ds) ρ acc → Ok (g d ρ) fun ρ1 => Ok (mt ρ1) fun p => if p.1 = true then Ok (me p.2) fun q => Ok (fz q.2 q.1) fun w => acc.length < sizeLine ∧ I ds (wipeR w.2 vs) (acc ++ [w.1]) else I ds (wipeR p.2 vs) acc)
    (hd : ∀ ρ acc, I [] ρ acc → QL (acc, ρ)) : Ok (lcL vs g mt me ds ρ acc) QL := by
  induction ds generalizing ρ acc with
  | nil => exact ⟨_, rfl, hd ρ acc h0⟩
  | cons d ds ih =>
    rw [lcL, ok_bind]
    refine (hs d ds ρ acc h0).mono fun ρ1 h1 => ?_
    rw [ok_bind]
    refine h1.mono fun p h2 => ?_
    rw [ok_ite]
    split
    · rename_i hp
      rw [if_pos hp] at h2
      rw [ok_bind]
      refine h2.mono fun q h3 => ?_
      rw [ok_bind]
      refine h3.mono fun w h4 => ?_
      rw [if_pos h4.1]
      exact ih h4.2
    · rename_i hp
      rw [if_neg hp] at h2
      exact ih h2
/-- a comprehension that changes nothing -/
theorem ok_lcP {vs : List Nat} {g : MG} {mt : MT} {me : ME} {QL : List D × Rho → Prop} (F : D → Option D) {ds acc : List D} (hs : ∀ d ∈ ds, Ok (g d ρ) fun ρ1 => Ok (mt ρ1) fun p => if p.1 = true then Ok (me p.2) fun q => Ok (fz q.2 q.1) fun w => F d = some w.1 ∧ wipeR w.2 vs = ρ else F d = none ∧ wipeR p.2 vs = ρ)
    (hl : acc.length + ds.length ≤ sizeLine) (hd : QL (acc ++ ds.filterMap F, ρ)) : Ok (lcL vs g mt me ds ρ acc) QL := by
  refine ok_lcL (fun r ρ' a => ρ' = ρ ∧ (∀ d ∈ r, d ∈ ds) ∧ a.length + r.length ≤ sizeLine ∧ a ++ r.filterMap F = acc ++ ds.filterMap F) ⟨rfl, fun _ h => h, hl, rfl⟩ (fun d r ρ' a h => ?_) fun ρ' a h => ?_
  · obtain ⟨rfl, hm, hl, he⟩ := h
    refine (hs d (hm d List.mem_cons_self)).mono fun ρ1 h1 => h1.mono fun p h2 => ?_
    split
    · rename_i hp
      rw [if_pos hp] at h2
      refine h2.mono fun q h3 => h3.mono fun w h4 => ⟨by simp at hl; omega, h4.2, fun x hx => hm x (List.mem_cons_of_mem _ hx), by simp at hl ⊢; omega, ?_⟩
      rw [← he, List.filterMap_cons_some h4.1, List.append_assoc]; rfl
    · rename_i hp
      rw [if_neg hp] at h2
      refine ⟨h2.2, fun x hx => hm x (List.mem_cons_of_mem _ hx), by simp at hl ⊢; omega, ?_⟩
      rw [← he, List.filterMap_cons_none h2.1]
  · obtain ⟨rfl, _, _, he⟩ := h
    rw [List.filterMap_nil, List.append_nil] at he
    rw [he]; exact hd

-- calls
def vaS (Q : Sl → Prop) (s0 : Option Sl) (dQ : Dep Q := ⟨⟩) : Prop := match s0 with
  | some (.own _ o) => Q (.val o.toD)
  | some (.val d) => Q (.val d)
  | some (.scr ns) => Q (.scr ns)
  | _ => False
theorem r_va0 : Ok (vArgs ρ []) QG = QG [] := ok_some
theorem r_va1 {r : R} {rr : List R} : Ok (vArgs ρ (r :: rr)) QG = Ok (vArg ρ r) fun s => Ok (vArgs ρ rr) fun q => QG (s :: q) := by simp only [ok_def, vArgs, o_bind, o_map]
theorem r_vav {d : D} {Q : Sl → Prop} : Ok (vArg ρ (.val d)) Q = Q (.val d) := ok_some
theorem r_vao {o : O} {Q : Sl → Prop} : Ok (vArg ρ (.own o)) Q = Q (.val o.toD) := ok_some
theorem r_vab {j : Nat} {Q : Sl → Prop} : Ok (vArg ρ (.bor j)) Q = vaS Q ρ[j]? := by
  simp only [vArg]
  rcases ρ[j]? with _ | s
  · simp [ok_def, vaS, o_none]
  · cases s <;> simp [ok_def, vaS, o_none, o_some]
def ixS (j : Nat) (r : List Nat) : Option Sl → List Nat
  | some (.own _ _) => j :: r
  | _ => r
theorem vIx_v {d : D} {rr : List R} : vIx ρ (.val d :: rr) = vIx ρ rr := rfl
theorem vIx_o {d : O} {rr : List R} : vIx ρ (.own d :: rr) = vIx ρ rr := rfl
theorem vIx_b {j : Nat} {rr : List R} : vIx ρ (.bor j :: rr) = ixS j (vIx ρ rr) ρ[j]? := by
  rw [vIx]
  rcases ρ[j]? with _ | s
  · rfl
  · cases s <;> rfl
def fzS (ρ : Rho) (j : Nat) : Option Sl → Rho
  | some (.own _ o) => ρ.set j (.val o.toD)
  | _ => ρ
theorem frz_0 : frz [] ρ = ρ := rfl
theorem frz_1 {j : Nat} {js : List Nat} : frz (j :: js) ρ = fzS (frz js ρ) j (frz js ρ)[j]? := by
  rw [frz]
  rcases (frz js ρ)[j]? with _ | s
  · rfl
  · cases s <;> rfl
theorem r_Call {F : ME} {ms : MA} : Ok (mCall F ms ρ) QE = Ok (ms ρ) fun p => Ok (vArgs p.2 p.1) fun ρa => Ok (F ρa) fun q => noBor q.1 = true ∧ if cleanR q.1 = true then QE (q.1, p.2) else QE (q.1, frz (vIx p.2 p.1) p.2) := by
  simp only [ok_def, mCall, o_bind, o_ite, o_some, o_else]
def ownS (Q : Bool → O → Prop) (s0 : Option Sl) (dQ : Dep Q := ⟨⟩) : Prop := match s0 with
  | some (.own b o) => Q b o
  | _ => False
def hdO (Q : O → Prop) (s0 : Rho) (dQ : Dep Q := ⟨⟩) : Prop := match s0 with
  | .own _ o :: _ => Q o
  | _ => False
theorem r_CallIo {F : ME} {i : Nat} {ms : MA} : Ok (mCallIo F i ms ρ) QE = ownS (fun _ _ => Ok (ms ρ) fun p => ownS (fun b o => i ∉ vIx p.2 p.1 ∧ Ok (vArgs p.2 p.1) fun ρa => Ok (F (.own true o :: ρa)) fun q => hdO (fun o' => noBor q.1 = true ∧ if cleanR q.1 = true ∧ cleanO o' = true then QE (q.1, p.2.set i (.own b o')) else QE (q.1, frz (vIx p.2 p.1) (p.2.set i (.own b o')))) q.2) p.2[i]?) ρ[i]? := by
  simp only [mCallIo]
  rcases ρ[i]? with _ | s
  · simp [ok_def, ownS, o_none]
  · cases s with
    | own b0 o0 =>
      simp only [ok_def, ownS, o_bind]
      congr 1; funext p
      rcases p.2[i]? with _ | s
      · simp [ok_def, ownS, o_none]
      · cases s with
        | own b o =>
          simp only [ownS]
          by_cases h : i ∈ vIx p.2 p.1
          · simp [ok_def, h, o_none]
          · simp only [ok_def, h, if_false, o_bind, not_false_eq_true, true_and]
            congr 1; funext ρa; congr 1; funext q
            rcases q with ⟨r, q⟩
            cases q with
            | nil => simp [ok_def, hdO, o_none]
            | cons s q =>
              cases s with
              | own b' o' => simp only [ok_def, hdO, o_ite, o_some, o_else]
              | _ => simp [ok_def, hdO, o_none]
        | _ => simp [ok_def, ownS, o_none]
    | _ => simp [ok_def, ownS, o_none]
def isOwn (Q : O → Prop) (s0 : R) (dQ : Dep Q := ⟨⟩) : Prop := match s0 with
  | .own o => Q o
  | _ => False
theorem r_CallTmp {F m : ME} {ms : MA} : Ok (mCallTmp F m ms ρ) QE = Ok (m ρ) fun p => isOwn (fun o => Ok (ms p.2) fun p => Ok (vArgs p.2 p.1) fun ρa => Ok (F (.own true o :: ρa)) fun q => noBor q.1 = true ∧ if cleanR q.1 = true then QE (q.1, p.2) else QE (q.1, frz (vIx p.2 p.1) p.2)) p.1 := by
  simp only [ok_def, mCallTmp, o_bind]
  congr 1; funext p
  rcases p with ⟨r, ρ'⟩
  cases r with
  | own o => simp only [ok_def, isOwn, o_bind, o_ite, o_some, o_else]
  | _ => simp [ok_def, isOwn, o_none]
def finS (QE : R × Rho → Prop) (ρo : Rho) (s0 : Fl) (dQE : Dep QE := ⟨⟩) : Prop := match s0 with
  | .nx => QE (.val .none, ρo)
  | .rt (.val d) => QE (.val d, ρo)
  | .rt (.own o) => QE (.own o, ρo)
  | _ => False
theorem r_runF {np N : Nat} {m : MS} : Ok (runF np N m ρ) QE = (ρ.length = np ∧ Ok (m (ρ.map inS ++ List.replicate (N - np) .no)) fun p => Ok (outs ρ p.2) fun ρo => finS QE ρo p.1) := by
  simp only [ok_def, runF, o_guard, o_bind]
  congr 2; funext p; congr 1; funext ρo
  rcases p with ⟨f, ρ'⟩
  cases f with
  | nx => simp [ok_def, finS, o_some]
  | rt r => cases r <;> simp [ok_def, finS, o_some, o_none]
  | _ => simp [ok_def, finS, o_none]
theorem r_outs0 {ρ' : Rho} : Ok (outs [] ρ') QG = QG [] := ok_some
theorem r_outsO {r' : Rho} {b : Bool} {o o' : O} : Ok (outs (.own b o :: ρ) (.own true o' :: r')) QG = Ok (outs ρ r') fun q => QG (.own b o' :: q) := by simp only [ok_def, outs, o_map]
theorem r_outsV {r' : Rho} {d : D} {s : Sl} : Ok (outs (.val d :: ρ) (s :: r')) QG = Ok (outs ρ r') fun q => QG (.val d :: q) := by simp only [ok_def, outs, o_map]
theorem r_outsS {r' : Rho} {d : List Int} {s : Sl} : Ok (outs (.scr d :: ρ) (s :: r')) QG = Ok (outs ρ r') fun q => QG (.scr d :: q) := by simp only [ok_def, outs, o_map]
-- methods, places
theorem r_Meth {T : String} {f : O → List D → Option (D × O)} {i : Nat} {md : MD} : Ok (mMeth T f i md ρ) QE = ownS (fun _ o0 => tyO o0 = T ∧ Ok (md ρ) fun p => ownS (fun b o => Ok (f o p.1) fun q => QE (.val q.1, p.2.set i (.own b q.2))) p.2[i]?) ρ[i]? := by
  simp only [mMeth]
  rcases ρ[i]? with _ | s
  · simp [ok_def, ownS, o_none]
  · cases s with
    | own b0 o0 =>
      simp only [ok_def, ownS, o_guard, o_bind]
      congr 2; funext p
      rcases p.2[i]? with _ | s
      · simp [ok_def, ownS, o_none]
      · cases s with
        | own b o => simp only [ok_def, ownS, o_bind, o_some]
        | _ => simp [ok_def, ownS, o_none]
    | _ => simp [ok_def, ownS, o_none]
theorem r_SetIx {i : Nat} {me mi : ME} : Ok (mSetIx i me mi ρ) QS = Ok (me ρ) fun p => Ok (fz p.2 p.1) fun w => ownS (fun _ _ => Ok (mi w.2) fun q => isInt (fun k => ownS (fun b o => Ok (setF o (.int k) w.1) fun o' => QS (.nx, q.2.set i (.own b o'))) q.2[i]?) q.1) w.2[i]? := by
  simp only [ok_def, mSetIx, o_bind]
  congr 1; funext p; congr 1; funext w
  rcases w.2[i]? with _ | s
  · simp [ok_def, ownS, o_none]
  · cases s with
    | own b0 o0 =>
      simp only [ok_def, ownS, o_bind]
      congr 1; funext q
      rcases q with ⟨r, ρ'⟩
      cases r with
      | val d =>
        cases d with
        | int k =>
          simp only [isInt]
          rcases ρ'[i]? with _ | s
          · simp [ok_def, ownS, o_none]
          · cases s with
            | own b o => simp only [ok_def, ownS, o_bind, o_some]
            | _ => simp [ok_def, ownS, o_none]
        | _ => simp [ok_def, isInt, o_none]
      | _ => simp [ok_def, isInt, o_none]
    | _ => simp [ok_def, ownS, o_none]
def valS (Q : D → Prop) (s0 : Option Sl) (dQ : Dep Q := ⟨⟩) : Prop := match s0 with
  | some (.val d) => Q d
  | _ => False
def isVal (Q : D → Prop) (s0 : R) (dQ : Dep Q := ⟨⟩) : Prop := match s0 with
  | .val d => Q d
  | _ => False
theorem r_Aug {i : Nat} {f : D → D → Option R} {me : ME} : Ok (mAug i f me ρ) QS = valS (fun x => Ok (me ρ) fun p => Ok (rsT p.2 p.1) fun y => Ok (f x y) fun r => isVal (fun d => Ok (stS i (.val d) p.2) fun ρ' => QS (.nx, ρ')) r) ρ[i]? := by
  simp only [mAug]
  rcases ρ[i]? with _ | s
  · simp [ok_def, valS, o_none]
  · cases s with
    | val x =>
      simp only [ok_def, valS, o_bind]
      congr 1; funext p; congr 1; funext y; congr 1; funext r
      cases r with
      | val d => simp only [ok_def, isVal, o_bind, o_some]
      | _ => simp [ok_def, isVal, o_none]
    | _ => simp [ok_def, valS, o_none]
theorem r_Lc2 {vs vs1 : List Nat} {mi : MI} {g : MG} {mt : MT} {mi1 : MI} {g1 : MG} {mt1 : MT} {me : ME} : Ok (mLc2 vs vs1 mi g mt mi1 g1 mt1 me ρ) QE = Ok (mi ρ) fun p => okW p.2 vs = true ∧ Ok (lcL2 vs vs1 g mt mi1 g1 mt1 me p.1 (wipeR p.2 vs) []) fun q => QE (.own (.lst q.1), resto p.2 q.2 vs) := by
  simp only [ok_def, mLc2, o_bind, o_guard, o_some]
def isStr (Q : Str → Prop) (s0 : R) (dQ : Dep Q := ⟨⟩) : Prop := match s0 with
  | .val (.str b) => Q b
  | _ => False
theorem r_SM {f : Str → List D → Option R} {me : ME} {ms : MA} : Ok (mSM f me ms ρ) QE = Ok (me ρ) fun p => isStr (fun z => Ok (ms p.2) fun q => Ok (rsL q.2 q.1) fun ds => Ok (f z ds) fun r => QE (r, q.2)) p.1 := by
  simp only [ok_def, mSM, o_bind]
  congr 1; funext p
  rcases p with ⟨r, ρ'⟩
  cases r with
  | val d =>
    cases d with
    | str z => simp only [ok_def, isStr, o_bind, o_map]
    | _ => simp [ok_def, isStr, o_none]
  | _ => simp [ok_def, isStr, o_none]
-- what is walked
theorem r_Rg1 {md : MD} : Ok (mRange1 md ρ) QI = Ok (md ρ) fun p => match p.1 with
  | [.int j] => (-(2 ^ 62) ≤ j ∧ j < 2 ^ 62) ∧ QI (rng 0 j.toNat, p.2)
  | _ => False := by
  simp only [ok_def, mRange1, o_bind]
  congr 1; funext p
  rcases p with ⟨l, ρ'⟩
  simp only
  split <;> simp_all [ok_def, o_guard, o_some, o_none]
theorem r_Rg2 {md : MD} : Ok (mRange2 md ρ) QI = Ok (md ρ) fun p => match p.1 with
  | [.int i, .int j] => (-(2 ^ 62) ≤ i ∧ i < 2 ^ 62 ∧ -(2 ^ 62) ≤ j ∧ j < 2 ^ 62) ∧ QI (rng i (j - i).toNat, p.2)
  | _ => False := by
  simp only [ok_def, mRange2, o_bind]
  congr 1; funext p
  rcases p with ⟨l, ρ'⟩
  simp only
  split <;> simp_all [ok_def, o_guard, o_some, o_none]
theorem r_Enum {md : MD} : Ok (mEnumA md ρ) QI = Ok (md ρ) fun p => match p.1 with
  | [.list ds] => QI (enumL ds, p.2)
  | [.tuple ds] => QI (enumL ds, p.2)
  | _ => False := by
  simp only [ok_def, mEnumA, o_bind]
  congr 1; funext p
  rcases p with ⟨l, ρ'⟩
  simp only
  split <;> simp_all [ok_def, o_some, o_none]
theorem r_Zip {md : MD} : Ok (mZip md ρ) QI = Ok (md ρ) fun p => match p.1 with
  | [.list ds, .list es] => QI (zipL ds es, p.2)
  | [.tuple ds, .tuple es] => QI (zipL ds es, p.2)
  | _ => False := by
  simp only [ok_def, mZip, o_bind]
  congr 1; funext p
  rcases p with ⟨l, ρ'⟩
  simp only
  split <;> simp_all [ok_def, o_some, o_none]
theorem r_ZipS {md : MD} {mk : MA} : Ok (mZipS md mk ρ) QI = Ok (md ρ) fun p => Ok (mk p.2) fun q => match p.1, q.1 with
  | [.tuple ds, .tuple es], [.val (.bool true)] => ds.length = es.length ∧ QI (zipL ds es, q.2)
  | _, _ => False := by
  simp only [ok_def, mZipS, o_bind]
  congr 1; funext p; congr 1; funext q
  rcases p with ⟨l, ρ'⟩
  rcases q with ⟨l', ρ''⟩
  simp only
  split <;> simp_all [ok_def, o_guard, o_some, o_none]
-- operations
variable {QR : R → Prop} {i j : Int} {x y : Str} {ds es : List D}
theorem l_addI : Ok (addD (.int i) (.int j)) QR = QR (.val (.int (i + j))) := ok_some
theorem l_addS : Ok (addD (.str x) (.str y)) QR = (x.length + y.length ≤ sizeLine ∧ QR (.val (.str (x ++ y)))) := by simp only [ok_def, addD, o_guard, o_some]
theorem l_addT : Ok (addD (.tuple ds) (.tuple es)) QR = (ds.length + es.length ≤ sizeLine ∧ QR (.val (.tuple (ds ++ es)))) := by simp only [ok_def, addD, o_guard, o_some]
theorem l_addL : Ok (addD (.list ds) (.list es)) QR = (ds.length + es.length ≤ sizeLine ∧ QR (.own (.lst (ds ++ es)))) := by simp only [ok_def, addD, o_guard, o_some]
theorem l_sub : Ok (subD (.int i) (.int j)) QR = QR (.val (.int (i - j))) := ok_some
theorem l_mulI : Ok (mulD (.int i) (.int j)) QR = (mulOk i j = true ∧ QR (.val (.int (i * j)))) := by simp only [ok_def, mulD, o_guard, o_some]
theorem l_mulS : Ok (mulD (.str x) (.int j)) QR = ((0 ≤ j ∧ j ≤ 1000 ∧ x.length ≤ 10000) ∧ QR (.val (.str (repS x j.toNat)))) := by simp only [ok_def, mulD, o_guard, o_some]
theorem l_mulL : Ok (mulD (.list ds) (.int j)) QR = ((0 ≤ j ∧ j ≤ 1000 ∧ ds.length ≤ 10000) ∧ QR (.own (.lst (List.replicate j.toNat ds).flatten))) := by simp only [ok_def, mulD, o_guard, o_some]
theorem l_fdiv : Ok (fdivD (.int i) (.int j)) QR = ((0 < j ∧ j.natAbs.log2 < 9000) ∧ QR (.val (.int (i / j)))) := by simp only [ok_def, fdivD, o_guard, o_some]
theorem l_mod : Ok (modD (.int i) (.int j)) QR = (0 < j ∧ QR (.val (.int (i % j)))) := by simp only [ok_def, modD, o_guard, o_some]
theorem l_pow : Ok (powD (.int i) (.int j)) QR = ((0 ≤ j ∧ j ≤ 1000000 ∧ i.natAbs < 2 ^ 64) ∧ QR (.val (.int (i ^ j.toNat)))) := by simp only [ok_def, powD, o_guard, o_some]
theorem l_neg : Ok (negD (.int i)) QR = QR (.val (.int (-i))) := ok_some
theorem l_lt : Ok (ltD (.int i) (.int j)) QR = QR (.val (.bool (decide (i < j)))) := ok_some
theorem l_le : Ok (leD (.int i) (.int j)) QR = QR (.val (.bool (decide (i ≤ j)))) := ok_some
theorem l_gt : Ok (gtD (.int i) (.int j)) QR = QR (.val (.bool (decide (i > j)))) := ok_some
theorem l_ge : Ok (geD (.int i) (.int j)) QR = QR (.val (.bool (decide (i ≥ j)))) := ok_some
theorem l_eqI : Ok (eqD (.int i) (.int j)) QR = QR (.val (.bool (decide (i = j)))) := ok_some
theorem l_eqS : Ok (eqD (.str x) (.str y)) QR = QR (.val (.bool (decide (x = y)))) := ok_some
theorem l_neI : Ok (neD (.int i) (.int j)) QR = QR (.val (.bool !(decide (i = j)))) := ok_some
theorem l_neS : Ok (neD (.str x) (.str y)) QR = QR (.val (.bool !(decide (x = y)))) := ok_some
theorem l_eqB {a b : Bool} : Ok (eqD (.bool a) (.bool b)) QR = QR (.val (.bool (a == b))) := ok_some
theorem l_neB {a b : Bool} : Ok (neD (.bool a) (.bool b)) QR = QR (.val (.bool !(a == b))) := ok_some
theorem l_ixL : Ok (ixD (.list ds) (.int i)) QR = Ok (L2.atI ds i) fun d => QR (.val d) := by simp only [ok_def, ixD, o_map]
theorem l_ixT : Ok (ixD (.tuple ds) (.int i)) QR = Ok (L2.atI ds i) fun d => QR (.val d) := by simp only [ok_def, ixD, o_map]
theorem l_ixS : Ok (ixD (.str x) (.int i)) QR = (x.length ≤ sizeLine ∧ Ok (L2.atI x.cps.toList i) fun c => QR (.val (.str ⟨#[c]⟩))) := by simp only [ok_def, ixD, o_guard, o_map]
theorem l_slL {a b : Option Int} : Ok (slD (.list ds) a b) QR = QR (.own (.lst (cutL ds a b))) := ok_some
theorem l_slT {a b : Option Int} : Ok (slD (.tuple ds) a b) QR = QR (.val (.tuple (cutL ds a b))) := ok_some
theorem l_slS {a b : Option Int} : Ok (slD (.str x) a b) QR = (x.length ≤ sizeLine ∧ QR (.val (.str (L2.cutS x a b)))) := by simp only [ok_def, slD, o_guard, o_some]
theorem l_lenL : Ok (lenF [.list ds]) QR = QR (.val (.int ds.length)) := ok_some
theorem l_lenT : Ok (lenF [.tuple ds]) QR = QR (.val (.int ds.length)) := ok_some
theorem l_lenS : Ok (lenF [.str x]) QR = (x.length ≤ sizeLine ∧ QR (.val (.int x.length))) := by simp only [ok_def, lenF, o_guard, o_some]
theorem l_listL : Ok (listF [.list ds]) QR = QR (.own (.lst ds)) := ok_some
theorem l_listT : Ok (listF [.tuple ds]) QR = QR (.own (.lst ds)) := ok_some
theorem l_tupL : Ok (tupF [.list ds]) QR = QR (.val (.tuple ds)) := ok_some
theorem l_tupT : Ok (tupF [.tuple ds]) QR = QR (.val (.tuple ds)) := ok_some
theorem l_all : Ok (allF [.list ds]) QR = Ok (boolsOf ds) fun bs => QR (.val (.bool (bs.all id))) := by simp only [ok_def, allF, o_map]
theorem l_any : Ok (anyF [.list ds]) QR = Ok (boolsOf ds) fun bs => QR (.val (.bool (bs.any id))) := by simp only [ok_def, anyF, o_map]
theorem l_sum : Ok (sumF [.list ds]) QR = Ok (intsOf ds) fun bs => QR (.val (.int bs.sum)) := by simp only [ok_def, sumF, o_map]
theorem l_abs : Ok (absF [.int i]) QR = QR (.val (.int (if i < 0 then -i else i))) := ok_some
theorem l_intI : Ok (intF [.int i]) QR = QR (.val (.int i)) := ok_some
theorem l_intB {b : Bool} : Ok (intF [.bool b]) QR = QR (.val (.int (if b then 1 else 0))) := ok_some
theorem l_max : Ok (maxF [.int i, .int j]) QR = QR (.val (.int (if j > i then j else i))) := ok_some
theorem l_min : Ok (minF [.int i, .int j]) QR = QR (.val (.int (if j < i then j else i))) := ok_some
variable {QM : D × O → Prop} {d : D}
theorem l_app : Ok (appF (.lst ds) [d]) QM = (ds.length < sizeLine ∧ QM (.none, .lst (ds ++ [d]))) := by simp only [ok_def, appF, o_guard, o_some]
theorem l_ext : Ok (extF (.lst ds) [.list es]) QM = (ds.length + es.length ≤ sizeLine ∧ QM (.none, .lst (ds ++ es))) := by simp only [ok_def, extF, o_guard, o_some]
theorem l_pop1 : Ok (pop1F (.lst ds) [.int i]) QM = ((-(2 ^ 63) ≤ i ∧ i < 2 ^ 63) ∧ Ok (seqIndex? i ds.length) fun k => Ok ds[k]? fun d => QM (d, .lst (ds.eraseIdx k))) := by simp only [ok_def, pop1F, o_guard, o_bind, o_map]
theorem l_clear : Ok (clearF (.lst ds) []) QM = QM (.none, .lst []) := ok_some
theorem l_setF {QO : O → Prop} {k : Int} : Ok (setF (.lst ds) (.int k) d) QO = Ok (L2.ixN ds.length k) fun j => QO (.lst (ds.set j d)) := by simp only [ok_def, setF, o_map]
theorem l_tru_i {QB : Bool → Prop} : Ok (truD (.int i)) QB = QB (i != 0) := ok_some
theorem l_tru_b {QB : Bool → Prop} {b : Bool} : Ok (truD (.bool b)) QB = QB b := ok_some
theorem l_tru_l {QB : Bool → Prop} : Ok (truD (.list ds)) QB = QB (!ds.isEmpty) := ok_some
theorem l_tru_t {QB : Bool → Prop} : Ok (truD (.tuple ds)) QB = QB (!ds.isEmpty) := ok_some
theorem l_tru_n {QB : Bool → Prop} : Ok (truD .none) QB = QB false := ok_some
theorem l_tru_s {QB : Bool → Prop} : Ok (truD (.str x)) QB = (x.length ≤ sizeLine ∧ QB ((x.length : Int) != 0)) := by simp only [ok_def, truD, o_guard, o_some]
end

section
theorem q_getV_v {i : Nat} {QE : R × Rho → Prop} {ρ : Rho} {d : D} : getV i QE ρ (some (.val d)) = (QE (.val d, ρ)) := rfl
theorem q_getV_o {i : Nat} {QE : R × Rho → Prop} {ρ : Rho} {b : Bool} {o : O} : getV i QE ρ (some (.own b o)) = (QE (.bor i, ρ)) := rfl
theorem q_getV_s {i : Nat} {QE : R × Rho → Prop} {ρ : Rho} {ns : List Int} : getV i QE ρ (some (.scr ns)) = (QE (.bor i, ρ)) := rfl
theorem q_isBool_v {Q : Bool → Prop} {b : Bool} : isBool Q (.val (.bool b)) = (Q b) := rfl
theorem q_isInt_v {Q : Int → Prop} {b : Int} : isInt Q (.val (.int b)) = (Q b) := rfl
theorem q_isStr_v {Q : Str → Prop} {b : Str} : isStr Q (.val (.str b)) = (Q b) := rfl
theorem q_isVal_v {Q : D → Prop} {b : D} : isVal Q (.val b) = (Q b) := rfl
theorem q_isOwn_v {Q : O → Prop} {b : O} : isOwn Q (.own b) = (Q b) := rfl
theorem q_slV_v {Q : D → Prop} {d : D} : slV Q (some (.val d)) = (Q d) := rfl
theorem q_slV_o {Q : D → Prop} {b : Bool} {o : O} : slV Q (some (.own b o)) = (Q o.toD) := rfl
theorem q_slV_s {Q : D → Prop} {ns : List Int} : slV Q (some (.scr ns)) = (Q (.list (ns.map PyData.int))) := rfl
theorem q_slT_v {Q : D → Prop} {d : D} : slT Q (some (.val d)) = (Q d) := rfl
theorem q_slT_o {Q : D → Prop} {b : Bool} {o : O} : slT Q (some (.own b o)) = (Q o.toD) := rfl
theorem q_vaS_v {Q : Sl → Prop} {d : D} : vaS Q (some (.val d)) = (Q (.val d)) := rfl
theorem q_vaS_o {Q : Sl → Prop} {b : Bool} {o : O} : vaS Q (some (.own b o)) = (Q (.val o.toD)) := rfl
theorem q_vaS_s {Q : Sl → Prop} {ns : List Int} : vaS Q (some (.scr ns)) = (Q (.scr ns)) := rfl
theorem q_valS_v {Q : D → Prop} {d : D} : valS Q (some (.val d)) = (Q d) := rfl
theorem q_ownS_o {Q : Bool → O → Prop} {b : Bool} {o : O} : ownS Q (some (.own b o)) = (Q b o) := rfl
theorem q_hdO_o {Q : O → Prop} {b : Bool} {o : O} {r : Rho} : hdO Q (.own b o :: r) = (Q o) := rfl
theorem q_onFl_n {n : Rho → Prop} {QS : Fl × Rho → Prop} {ρ : Rho}  : onFl n QS ρ .nx = (n ρ) := rfl
theorem q_onFl_b {n : Rho → Prop} {QS : Fl × Rho → Prop} {ρ : Rho}  : onFl n QS ρ .bk = (QS (.bk, ρ)) := rfl
theorem q_onFl_c {n : Rho → Prop} {QS : Fl × Rho → Prop} {ρ : Rho}  : onFl n QS ρ .ct = (QS (.ct, ρ)) := rfl
theorem q_onFl_r {n : Rho → Prop} {QS : Fl × Rho → Prop} {ρ : Rho} {r : R} : onFl n QS ρ (.rt r) = (QS (.rt r, ρ)) := rfl
theorem q_finS_n {QE : R × Rho → Prop} {ρ : Rho}  : finS QE ρ .nx = (QE (.val .none, ρ)) := rfl
theorem q_finS_v {QE : R × Rho → Prop} {ρ : Rho} {d : D} : finS QE ρ (.rt (.val d)) = (QE (.val d, ρ)) := rfl
theorem q_finS_o {QE : R × Rho → Prop} {ρ : Rho} {o : O} : finS QE ρ (.rt (.own o)) = (QE (.own o, ρ)) := rfl
theorem q_ixS_o {j : Nat} {r : List Nat} {b : Bool} {o : O} : ixS j r (some (.own b o)) = j :: r := rfl
theorem q_ixS_v {j : Nat} {r : List Nat} {d : D} : ixS j r (some (.val d)) = r := rfl
theorem q_ixS_s {j : Nat} {r : List Nat} {d : List Int} : ixS j r (some (.scr d)) = r := rfl
theorem q_fzS_o {ρ : Rho} {j : Nat} {b : Bool} {o : O} : fzS ρ j (some (.own b o)) = ρ.set j (.val o.toD) := rfl
theorem q_fzS_v {ρ : Rho} {j : Nat} {d : D} : fzS ρ j (some (.val d)) = ρ := rfl
theorem q_fzS_s {ρ : Rho} {j : Nat} {d : List Int} : fzS ρ j (some (.scr d)) = ρ := rfl
theorem q_retS_v {QS : Fl × Rho → Prop} {ρ : Rho} {d : D} {s : Option Sl} : retS QS ρ (.val d) s = QS (.rt (.val d), ρ) := rfl
theorem q_retS_o {QS : Fl × Rho → Prop} {ρ : Rho} {d : O} {s : Option Sl} : retS QS ρ (.own d) s = QS (.rt (.own d), ρ) := rfl
theorem q_retS_bo {QS : Fl × Rho → Prop} {ρ : Rho} {o : O} {i : Nat} : retS QS ρ (.bor i) (some (.own false o)) = QS (.rt (.own o), ρ.set i .no) := rfl
theorem q_retS_bv {QS : Fl × Rho → Prop} {ρ : Rho} {d : D} {i : Nat} : retS QS ρ (.bor i) (some (.val d)) = QS (.rt (.val d), ρ) := rfl
theorem q_ixR_b {ρ : Rho} {i : Nat} : ixR ρ (.bor i) = ρ[i]? := rfl
theorem q_wipe0 {ρ : Rho} : wipeR ρ [] = ρ := rfl
theorem q_wipe1 {ρ : Rho} {i : Nat} {r : List Nat} : wipeR ρ (i :: r) = (wipeR ρ r).set i .no := rfl
theorem q_resto0 {ρ ρ' : Rho} : resto ρ' ρ [] = ρ := rfl
theorem q_resto1 {ρ ρ' : Rho} {i : Nat} {r : List Nat} : resto ρ' ρ (i :: r) = (resto ρ' ρ r).set i ((ρ'[i]?).getD .no) := rfl
theorem q_inS_o {b : Bool} {o : O} : inS (.own b o) = .own true o := rfl
theorem q_inS_v {d : D} : inS (.val d) = .val d := rfl
theorem q_inS_s {d : List Int} : inS (.scr d) = .scr d := rfl
theorem qq_par_o {ρ : Rho} {i : Nat} {b : Bool} {o : O} (h : ρ[i]? = some (.own b o)) : parAt ρ i = b := by simp only [parAt, h]; cases b <;> rfl
def pS : Option Sl → Bool
  | some (.own true _) => true
  | _ => false
theorem q_par {ρ : Rho} {i : Nat} : parAt ρ i = pS ρ[i]? := by
  unfold parAt pS; rfl
theorem q_pS_t {o : O} : pS (some (.own true o)) = true := rfl
theorem q_pS_f {o : O} : pS (some (.own false o)) = false := rfl
theorem q_pS_v {d : D} : pS (some (.val d)) = false := rfl
theorem q_pS_n : pS (some .no) = false := rfl
theorem q_pS_s {d : List Int} : pS (some (.scr d)) = false := rfl
def kS : Option Sl → Bool
  | some (.own _ _) => false
  | _ => true
theorem q_okW0 {ρ : Rho} : okW ρ [] = true := rfl
theorem q_okW1 {ρ : Rho} {i : Nat} {r : List Nat} : okW ρ (i :: r) = (kS ρ[i]? && okW ρ r) := by
  unfold okW kS; rw [List.all_cons]; try congr 1
theorem q_kS_v {d : D} : kS (some (.val d)) = true := rfl
theorem q_kS_n : kS (some .no) = true := rfl
theorem q_kS_s {d : List Int} : kS (some (.scr d)) = true := rfl
theorem q_toD_l {ds : List D} : (O.lst ds).toD = .list ds := rfl
theorem q_nb_v {d : D} : noBor (.val d) = true := rfl
theorem q_nb_o {d : O} : noBor (.own d) = true := rfl
theorem q_ty_l {ds : List D} : tyO (.lst ds) = "list" := rfl
def fzQ (Q : D × Rho → Prop) (ρ : Rho) (i : Nat) (s0 : Option Sl) (dQ : Dep Q := ⟨⟩) : Prop := match s0 with
  | some (.val d) => Q (d, ρ)
  | some (.own _ o) => Q (o.toD, ρ.set i (.val o.toD))
  | _ => False
theorem r_fzb {ρ : Rho} {i : Nat} {Q : D × Rho → Prop} : Ok (fz ρ (.bor i)) Q = fzQ Q ρ i ρ[i]? := by
  simp only [fz]
  rcases ρ[i]? with _ | s
  · simp [ok_def, fzQ, o_none]
  · cases s <;> simp [ok_def, fzQ, o_none, o_some]
theorem q_fzQ_v {ρ : Rho} {i : Nat} {Q : D × Rho → Prop} {d : D} : fzQ Q ρ i (some (.val d)) = Q (d, ρ) := rfl
theorem q_fzQ_o {ρ : Rho} {i : Nat} {Q : D × Rho → Prop} {b : Bool} {o : O} : fzQ Q ρ i (some (.own b o)) = Q (o.toD, ρ.set i (.val o.toD)) := rfl
end

section
variable {Q : D → Prop} {QN : Nat → Prop} {d d1 d2 : D} {ds : List D}
theorem l_at0 : Ok (L2.atI (d :: ds) 0) Q = Q d := by
  have : L2.atI (d :: ds) 0 = some d := by simp [L2.atI, L2.ixN]
  rw [this, ok_some]
theorem l_at1 : Ok (L2.atI (d1 :: d :: ds) 1) Q = Q d := by
  have : L2.atI (d1 :: d :: ds) 1 = some d := by
    have h : (1 : Int) < (d1 :: d :: ds).length := by simp; omega
    simp only [L2.atI, L2.ixN, h, if_true]; rfl
  rw [this, ok_some]
theorem l_at2 : Ok (L2.atI (d1 :: d2 :: d :: ds) 2) Q = Q d := by
  have : L2.atI (d1 :: d2 :: d :: ds) 2 = some d := by
    have h : (2 : Int) < (d1 :: d2 :: d :: ds).length := by simp; omega
    simp only [L2.atI, L2.ixN, h, if_true]; rfl
  rw [this, ok_some]
theorem l_ix30 : Ok (L2.ixN 3 0) QN = QN 0 := ok_some
theorem l_ix31 : Ok (L2.ixN 3 1) QN = QN 1 := ok_some
theorem l_ix32 : Ok (L2.ixN 3 2) QN = QN 2 := ok_some
theorem at_nat {α : Type} {xs : List α} {k : Nat} (h : k < xs.length) : L2.atI xs (k : Int) = some xs[k] := by
  have h' : (k : Int) < (xs.length : Nat) := by omega
  simp only [L2.atI, L2.ixN, h', Int.natCast_nonneg, if_true, Option.bind_some, Int.toNat_natCast, List.getElem?_eq_getElem h]
theorem at_int {α : Type} {xs : List α} {i : Int} (h0 : 0 ≤ i) (h : i < xs.length) : ∃ h' : i.toNat < xs.length, L2.atI xs i = some xs[i.toNat] := by
  have h' : i.toNat < xs.length := by omega
  refine ⟨h', ?_⟩
  have := at_nat h'
  rwa [Int.toNat_of_nonneg h0] at this
theorem mulOk_r {i j : Int} (h : j.natAbs < 2 ^ 64) : mulOk i j = true := by simp [mulOk, h]
theorem mulOk_l {i j : Int} (h : i.natAbs < 2 ^ 64) : mulOk i j = true := by simp [mulOk, h]
theorem log_lt {n : Nat} (h : n < 2 ^ 64) : n.log2 < 9000 := by
  by_cases h0 : n = 0
  · subst h0; decide
  · exact Nat.lt_trans ((Nat.log2_lt h0).mpr h) (by decide)
end

section
def Wd (k : Nat) (x : Str) : Prop := x.length ≤ k ∧ ∀ c ∈ x.cps.toList, c < 1114112
theorem Wd.mono {a b : Nat} {x : Str} (h : Wd a x) (l : a ≤ b) : Wd b x := ⟨Nat.le_trans h.1 l, h.2⟩
theorem str_len_app {x y : Str} : (x ++ y).length = x.length + y.length := Array.size_append
theorem Wd.app {a b : Nat} {x y : Str} (h : Wd a x) (k : Wd b y) : Wd (a + b) (x ++ y) := by
  refine ⟨by rw [str_len_app]; exact Nat.add_le_add h.1 k.1, fun c hc => ?_⟩
  have : c ∈ (x.cps ++ y.cps).toList := hc
  rw [Array.toList_append, List.mem_append] at this
  exact this.elim (h.2 c) (k.2 c)
theorem Wd.cut {a : Nat} {x : Str} (h : Wd a x) (lo hi : Option Int) : Wd a (L2.cutS x lo hi) := by
  refine ⟨Nat.le_trans (L2.cutS_length x lo hi) h.1, fun c hc => h.2 c ?_⟩
  simp only [L2.cutS] at hc
  exact List.mem_of_mem_drop (List.mem_of_mem_take hc)
theorem wd_one {c : Nat} (h : c < 1114112) : Wd 1 ⟨#[c]⟩ := ⟨Nat.le_refl 1, fun d hd => by simp at hd; omega⟩
theorem Wd.rep {a : Nat} {x : Str} (h : Wd a x) {n : Nat} (hn : n ≤ 1) : Wd a (repS x n) := by
  match n, hn with
  | 0, _ => exact ⟨by simp [repS, Str.length], fun c hc => by simp [repS] at hc⟩
  | 1, _ => 
    have e : repS x 1 = x := by simp [repS, List.replicate]
    rw [e]; exact h
theorem wd_e : Wd 0 (Str.ofString "") := by
  have e : Str.ofString "" = ⟨#[]⟩ := rfl
  rw [e]; exact ⟨Nat.le_refl 0, fun c hc => by simp at hc⟩
theorem wd_join : ∀ xs : List Str, (∀ x ∈ xs, Wd 1 x) → Wd xs.length (Str.join (Str.ofString "") xs)
  | [], _ => ⟨Nat.le_refl 0, fun c hc => by simp [Str.join, Str.empty] at hc⟩
  | [x], h => h x List.mem_cons_self
  | x :: y :: r, h => by
    have ih := wd_join (y :: r) fun z hz => h z (List.mem_cons_of_mem _ hz)
    have e : (x :: y :: r).length = 1 + 0 + (y :: r).length := by simp; omega
    rw [e]
    exact ((h x List.mem_cons_self).app wd_e).app ih
theorem Wd.len {a : Nat} {x : Str} (h : Wd a x) : x.length ≤ a := h.1
theorem strs_of : ∀ xs : List Str, strsOf (xs.map PyData.str) = some xs
  | [] => rfl
  | x :: xs => by simp [strsOf, strs_of xs]
theorem strs_nil : strsOf [] = some [] := rfl
theorem l_join {z : Str} {xs : List Str} {QR : R → Prop} : Ok (joinF z [.list (xs.map PyData.str)]) QR = ((xs.map (·.length)).sum + xs.length * z.length ≤ 16777216 ∧ QR (.val (.str (Str.join z xs)))) := by
  simp only [ok_def, joinF, strs_of, Option.bind_some, o_guard, o_some, TL.join_eq]
theorem sum_le {xs : List Str} {k : Nat} (h : ∀ x ∈ xs, Wd k x) : (xs.map (·.length)).sum ≤ xs.length * k := by
  induction xs with
  | nil => simp
  | cons x xs ih =>
    have h1 := (h x List.mem_cons_self).1
    have h2 := ih fun y hy => h y (List.mem_cons_of_mem _ hy)
    simp only [List.map_cons, List.sum_cons, List.length_cons, Nat.succ_mul]; omega
theorem q_sz : sizeLine = 16777216 := rfl
theorem rng_len {lo : Int} {n : Nat} : (rng lo n).length = n := by simp [rng]
theorem rng_mem {lo : Int} {n : Nat} {d : D} (h : d ∈ rng lo n) : ∃ i : Nat, i < n ∧ d = .int (lo + i) := by
  simp only [rng, List.mem_map, List.mem_range] at h
  obtain ⟨i, hi, e⟩ := h
  exact ⟨i, hi, e.symm⟩
end

section
theorem at_mem {α : Type} {xs : List α} {i : Int} (h0 : 0 ≤ i) (h : i < xs.length) : ∃ d, L2.atI xs i = some d ∧ d ∈ xs := by
  obtain ⟨h', e⟩ := at_int h0 h
  exact ⟨_, e, List.getElem_mem h'⟩
theorem pS_ix {ρ : Rho} {i : Nat} : pS ρ[i]? = parAt ρ i := by unfold parAt pS; rfl
end

section
variable {ρ : Rho} {QE : R × Rho → Prop}
theorem r_Thaw {m : ME} : Ok (mThaw m ρ) QE = Ok (m ρ) fun p => if cleanR p.1 = true then Ok (match thw ρ p.2 with
    | some ρ2 => some (p.1, ρ2)
    | none => some p) QE else QE p := by
  simp only [ok_def, mThaw, o_bind, o_ite, o_some]
  try rfl
theorem q_thw0 : thw [] [] = some [] := rfl
theorem q_thw_v {d : D} {s' : Sl} {r r' : Rho} : thw (.val d :: r) (s' :: r') = (thw r r').map fun q => .val d :: q := rfl
theorem q_thw_n {s' : Sl} {r r' : Rho} : thw (.no :: r) (s' :: r') = (thw r r').map fun q => .no :: q := rfl
theorem q_thw_s {d : List Int} {s' : Sl} {r r' : Rho} : thw (.scr d :: r) (s' :: r') = (thw r r').map fun q => .scr d :: q := rfl
theorem q_thw_o {b b' : Bool} {o o' : O} {r r' : Rho} (h : cleanO o' = true) : thw (.own b o :: r) (.own b' o' :: r') = (thw r r').map fun q => .own b o' :: q := by simp only [thw, thS, h, if_true, Option.bind_some]
theorem q_thw_f {b : Bool} {es ds : List D} {r r' : Rho} (h : cleans ds = true) : thw (.own b (.lst es) :: r) (.val (.list ds) :: r') = (thw r r').map fun q => .own b (.lst ds) :: q := by simp only [thw, thS, h, if_true, Option.bind_some]
end
section
theorem q_is_list_NoneType  : isB "list" .none = false := rfl
theorem q_is_list_bool {v : Bool} : isB "list" (.bool v) = false := rfl
theorem q_is_list_int {v : Int} : isB "list" (.int v) = false := rfl
theorem q_is_list_str {v : Str} : isB "list" (.str v) = false := rfl
theorem q_is_list_list {v : List D} : isB "list" (.list v) = true := rfl
theorem q_is_list_tuple {v : List D} : isB "list" (.tuple v) = false := rfl
theorem q_is_list_dict {v : List (D × D)} : isB "list" (.dict v) = false := rfl
theorem q_is_tuple_NoneType  : isB "tuple" .none = false := rfl
theorem q_is_tuple_bool {v : Bool} : isB "tuple" (.bool v) = false := rfl
theorem q_is_tuple_int {v : Int} : isB "tuple" (.int v) = false := rfl
theorem q_is_tuple_str {v : Str} : isB "tuple" (.str v) = false := rfl
theorem q_is_tuple_list {v : List D} : isB "tuple" (.list v) = false := rfl
theorem q_is_tuple_tuple {v : List D} : isB "tuple" (.tuple v) = true := rfl
theorem q_is_tuple_dict {v : List (D × D)} : isB "tuple" (.dict v) = false := rfl
theorem q_is_str_NoneType  : isB "str" .none = false := rfl
theorem q_is_str_bool {v : Bool} : isB "str" (.bool v) = false := rfl
theorem q_is_str_int {v : Int} : isB "str" (.int v) = false := rfl
theorem q_is_str_str {v : Str} : isB "str" (.str v) = true := rfl
theorem q_is_str_list {v : List D} : isB "str" (.list v) = false := rfl
theorem q_is_str_tuple {v : List D} : isB "str" (.tuple v) = false := rfl
theorem q_is_str_dict {v : List (D × D)} : isB "str" (.dict v) = false := rfl
theorem q_is_bool_NoneType  : isB "bool" .none = false := rfl
theorem q_is_bool_bool {v : Bool} : isB "bool" (.bool v) = true := rfl
theorem q_is_bool_int {v : Int} : isB "bool" (.int v) = false := rfl
theorem q_is_bool_str {v : Str} : isB "bool" (.str v) = false := rfl
theorem q_is_bool_list {v : List D} : isB "bool" (.list v) = false := rfl
theorem q_is_bool_tuple {v : List D} : isB "bool" (.tuple v) = false := rfl
theorem q_is_bool_dict {v : List (D × D)} : isB "bool" (.dict v) = false := rfl
theorem q_is_int_NoneType  : isB "int" .none = false := rfl
theorem q_is_int_bool {v : Bool} : isB "int" (.bool v) = true := rfl
theorem q_is_int_int {v : Int} : isB "int" (.int v) = true := rfl
theorem q_is_int_str {v : Str} : isB "int" (.str v) = false := rfl
theorem q_is_int_list {v : List D} : isB "int" (.list v) = false := rfl
theorem q_is_int_tuple {v : List D} : isB "int" (.tuple v) = false := rfl
theorem q_is_int_dict {v : List (D × D)} : isB "int" (.dict v) = false := rfl
theorem q_is_dict_NoneType  : isB "dict" .none = false := rfl
theorem q_is_dict_bool {v : Bool} : isB "dict" (.bool v) = false := rfl
theorem q_is_dict_int {v : Int} : isB "dict" (.int v) = false := rfl
theorem q_is_dict_str {v : Str} : isB "dict" (.str v) = false := rfl
theorem q_is_dict_list {v : List D} : isB "dict" (.list v) = false := rfl
theorem q_is_dict_tuple {v : List D} : isB "dict" (.tuple v) = false := rfl
theorem q_is_dict_dict {v : List (D × D)} : isB "dict" (.dict v) = true := rfl
theorem q_nd_NoneType  : isND false .none = true := rfl
theorem q_ndn_NoneType  : isND true .none = false := rfl
theorem q_nd_bool {v : Bool} : isND false (.bool v) = false := rfl
theorem q_ndn_bool {v : Bool} : isND true (.bool v) = true := rfl
theorem q_nd_int {v : Int} : isND false (.int v) = false := rfl
theorem q_ndn_int {v : Int} : isND true (.int v) = true := rfl
theorem q_nd_str {v : Str} : isND false (.str v) = false := rfl
theorem q_ndn_str {v : Str} : isND true (.str v) = true := rfl
theorem q_nd_list {v : List D} : isND false (.list v) = false := rfl
theorem q_ndn_list {v : List D} : isND true (.list v) = true := rfl
theorem q_nd_tuple {v : List D} : isND false (.tuple v) = false := rfl
theorem q_ndn_tuple {v : List D} : isND true (.tuple v) = true := rfl
theorem q_nd_dict {v : List (D × D)} : isND false (.dict v) = false := rfl
theorem q_ndn_dict {v : List (D × D)} : isND true (.dict v) = true := rfl
end
section
theorem l_eqN {QR : R → Prop} : Ok (eqD .none .none) QR = QR (.val (.bool true)) := ok_some
theorem l_eqL {ds es : List D} {QR : R → Prop} (h1 : SeqAt.shaped (.list ds) = true) (h2 : SeqAt.shaped (.list es) = true) : Ok (eqD (.list ds) (.list es)) QR = QR (.val (.bool (PyData.eqv (.list ds) (.list es)))) := by
  have e : eqB (.list ds) (.list es) = some (PyData.eqv (.list ds) (.list es)) := by simp only [eqB, h1, h2]; rfl
  simp only [ok_def, eqD, e, Option.map_some, o_some]
theorem l_neL {ds es : List D} {QR : R → Prop} (h1 : SeqAt.shaped (.list ds) = true) (h2 : SeqAt.shaped (.list es) = true) : Ok (neD (.list ds) (.list es)) QR = QR (.val (.bool !(PyData.eqv (.list ds) (.list es)))) := by
  have e : eqB (.list ds) (.list es) = some (PyData.eqv (.list ds) (.list es)) := by simp only [eqB, h1, h2]; rfl
  simp only [ok_def, neD, e, Option.map_some, o_some]
theorem l_neT {ds es : List D} {QR : R → Prop} (h1 : SeqAt.shaped (.tuple ds) = true) (h2 : SeqAt.shaped (.tuple es) = true) : Ok (neD (.tuple ds) (.tuple es)) QR = QR (.val (.bool !(PyData.eqv (.tuple ds) (.tuple es)))) := by
  have e : eqB (.tuple ds) (.tuple es) = some (PyData.eqv (.tuple ds) (.tuple es)) := by simp only [eqB, h1, h2]; rfl
  simp only [ok_def, neD, e, Option.map_some, o_some]
theorem bools_const : ∀ ds : List D, boolsOf (ds.filterMap fun _ => some (PyData.bool true)) = some (ds.map fun _ => true)
  | [] => rfl
  | d :: ds => by
    have e : (d :: ds).filterMap (fun _ => some (PyData.bool true)) = .bool true :: ds.filterMap fun _ => some (PyData.bool true) := rfl
    rw [e, boolsOf, bools_const ds]
    rfl
theorem zipL_self {ds : List D} : zipL ds ds = ds.map fun d => .tuple [d, d] := by
  unfold zipL
  induction ds with
  | nil => rfl
  | cons d ds ih => simp only [List.zip_cons_cons, List.map_cons, ih]
end
section
variable {ρ : Rho}
/-- two clauses that change nothing -/
theorem ok_lcP2 {vs vs1 : List Nat} {g g1 : MG} {mt mt1 : MT} {mi1 : MI} {me : ME} {QL : List D × Rho → Prop} (G : D → List D) {ds acc : List D}
    (hs : ∀ d ∈ ds, ∀ acc : List D, acc.length + (G d).length ≤ sizeLine → Ok (g d ρ) fun ρ1 => Ok (mt ρ1) fun p => p.1 = true ∧ Ok (mi1 p.2) fun q => okW q.2 vs1 = true ∧ Ok (lcL vs1 g1 mt1 me q.1 (wipeR q.2 vs1) acc) fun w => w.1 = acc ++ G d ∧ wipeR w.2 vs = ρ)
    (hl : acc.length + (ds.flatMap G).length ≤ sizeLine) (hd : QL (acc ++ ds.flatMap G, ρ)) : Ok (lcL2 vs vs1 g mt mi1 g1 mt1 me ds ρ acc) QL := by
  induction ds generalizing acc with
  | nil => exact ⟨_, rfl, by simpa using hd⟩
  | cons d ds ih =>
    rw [List.flatMap_cons, List.length_append] at hl
    rw [lcL2, ok_bind]
    refine (hs d List.mem_cons_self acc (by omega)).mono fun ρ1 h1 => ?_
    rw [ok_bind]
    refine h1.mono fun p h2 => ?_
    rw [if_pos h2.1, ok_bind]
    refine h2.2.mono fun q h3 => ?_
    rw [if_pos h3.1, ok_bind]
    refine h3.2.mono fun w h4 => ?_
    rw [h4.2, h4.1]
    refine ih (fun d hd => hs d (List.mem_cons_of_mem _ hd)) (by rw [List.length_append]; omega) ?_
    rw [List.flatMap_cons, ← List.append_assoc] at hd
    exact hd
theorem filterMap_some {α β : Type} (f : α → β) : ∀ l : List α, l.filterMap (fun a => some (f a)) = l.map f := fun l => by
  induction l with
  | nil => rfl
  | cons a l ih =>
    have e : (a :: l).filterMap (fun a => some (f a)) = f a :: l.filterMap (fun a => some (f a)) := rfl
    rw [e, ih, List.map_cons]
end
section
variable {ρ : Rho} {QS : Fl × Rho → Prop}
/-- a while, with an invariant of how far it still can go -/
theorem ok_while {c : MT} {b : MS} (I : Nat → Rho → Prop) {N n : Nat} (hn : n < N) (h0 : I n ρ) (hs : ∀ (n : Nat) (ρ : Rho), I n ρ → Ok (c ρ) fun p => if p.1 = true then Ok (b p.2) fun q => match q.1 with
    | .nx => ∃ m, m < n ∧ I m q.2
    | .ct => ∃ m, m < n ∧ I m q.2
    | .bk => QS (.nx, q.2)
    | .rt r => QS (.rt r, q.2) else QS (.nx, p.2)) : Ok (whileN c b N ρ) QS := by
  induction N generalizing n ρ with
  | zero => omega
  | succ N ih =>
    rw [whileN, ok_bind]
    refine (hs n ρ h0).mono fun p h1 => ?_
    rw [ok_ite]
    split
    · rename_i hp
      rw [if_pos hp] at h1
      rw [ok_bind]
      refine h1.mono fun q h2 => ?_
      rcases q with ⟨f, ρ2⟩
      cases f with
      | nx => obtain ⟨m, hm, h2⟩ := h2; exact ih (by omega) h2
      | ct => obtain ⟨m, hm, h2⟩ := h2; exact ih (by omega) h2
      | bk => exact ⟨_, rfl, h2⟩
      | rt r => exact ⟨_, rfl, h2⟩
    · rename_i hp
      rw [if_neg hp] at h1
      exact ⟨_, rfl, h1⟩
/-- a loop, with an invariant of the place -/
theorem ok_forI {g : MG} {b : MS} (I : Nat → Rho → Prop) {ds : List D} (h0 : I 0 ρ) (hs : ∀ (i : Nat) (h : i < ds.length) (ρ : Rho), I i ρ → Ok (g ds[i] ρ) fun ρ1 => Ok (b ρ1) fun q => match q.1 with
    | .nx => I (i + 1) q.2
    | .ct => I (i + 1) q.2
    | .bk => QS (.nx, q.2)
    | .rt r => QS (.rt r, q.2)) (hd : ∀ ρ, I ds.length ρ → QS (.nx, ρ)) : Ok (forL g b ds ρ) QS := by
  refine ok_forL (fun r ρ => ∃ i, r = ds.drop i ∧ i ≤ ds.length ∧ I i ρ) ⟨0, rfl, Nat.zero_le _, h0⟩ (fun d r ρ h => ?_) fun ρ h => ?_
  · obtain ⟨i, e, hi, h⟩ := h
    have hlt : i < ds.length := by
      rcases Nat.lt_or_ge i ds.length with h | h
      · exact h
      · rw [List.drop_eq_nil_of_le h] at e; cases e
    rw [List.drop_eq_getElem_cons hlt] at e
    cases e
    refine (hs i hlt ρ h).mono fun ρ1 h1 => h1.mono fun q h2 => ?_
    rcases q with ⟨f, ρ2⟩
    cases f with
    | nx => exact ⟨i + 1, rfl, hlt, h2⟩
    | ct => exact ⟨i + 1, rfl, hlt, h2⟩
    | bk => exact h2
    | rt r => exact h2
  · obtain ⟨i, e, hi, h⟩ := h
    have : ds.length ≤ i := by
      rcases Nat.lt_or_ge i ds.length with h | h
      · rw [List.drop_eq_getElem_cons h] at e; cases e
      · exact h
    have : i = ds.length := by omega
    subst this
    exact hd ρ h
theorem cut_to {α : Type} {xs : List α} {k : Nat} (h : k ≤ xs.length) : cutL xs none (some (k : Int)) = xs.take k := by
  simp [cutL, HT.sIx_none, HT.sIx_nat, Nat.min_eq_left h]
theorem cut_from {α : Type} {xs : List α} {k : Nat} (h : k ≤ xs.length) : cutL xs (some (k : Int)) none = xs.drop k := by
  simp only [cutL, HT.sIx_none, HT.sIx_nat, Nat.min_eq_left h]
  rw [List.take_of_length_le]
  simp
end
section
theorem ixN_int {n : Nat} {i : Int} (h0 : 0 ≤ i) (h : i < n) : L2.ixN n i = some i.toNat := by simp only [L2.ixN, h0, h, if_true]
theorem cut_mem {α : Type} {xs : List α} {lo hi : Option Int} {a : α} (h : a ∈ cutL xs lo hi) : a ∈ xs := List.mem_of_mem_drop (List.mem_of_mem_take h)
theorem cut_to' {α : Type} {xs : List α} {k : Nat} : cutL xs none (some (k : Int)) = xs.take k := by
  simp only [cutL, HT.sIx_none, HT.sIx_nat, List.drop_zero, Nat.sub_zero]
  rcases Nat.le_total k xs.length with h | h
  · rw [Nat.min_eq_left h]
  · rw [Nat.min_eq_right h, List.take_of_length_le h, List.take_length]
theorem cut_len {α : Type} {xs : List α} {a b : Nat} : (cutL xs (some (a : Int)) (some (b : Int))).length = min b xs.length - min a xs.length := by
  simp only [cutL, HT.sIx_nat, List.length_take, List.length_drop]; omega
end
section
theorem q_cl_v {d : D} : cleanR (.val d) = clean d := rfl
theorem q_cl_o {o : O} : cleanR (.own o) = cleanO o := rfl
theorem q_cl_l {ds : List D} : cleanO (.lst ds) = cleans ds := rfl
theorem q_cl_n : clean .none = true := rfl
theorem q_cl_bo {b : Bool} : clean (.bool b) = true := rfl
theorem q_cl_i {b : Int} : clean (.int b) = true := rfl
theorem q_cl_s {b : Str} : clean (.str b) = true := rfl
theorem q_cl_t {ds : List D} : clean (.tuple ds) = cleans ds := rfl
theorem q_cl_0 : cleans [] = true := rfl
theorem q_cl_1 {d : D} {ds : List D} : cleans (d :: ds) = (clean d && cleans ds) := rfl
end
section
variable {QR : R → Prop} {QM : D × O → Prop} {i j : Int} {x y : Str} {ds : List D} {d : D} {a b : Bool}
theorem l_ltSI : Ok (ltSD (.int i) (.int j)) QR = QR (.val (.bool (decide (i < j)))) := ok_some
theorem l_ltSS : Ok (ltSD (.str x) (.str y)) QR = QR (.val (.bool (decide (x.cps.toList < y.cps.toList)))) := ok_some
theorem l_isB : Ok (isBD false (.bool a) (.bool b)) QR = QR (.val (.bool (decide (a = b)))) := ok_some
theorem l_notB : Ok (isBD true (.bool a) (.bool b)) QR = QR (.val (.bool (!decide (a = b)))) := ok_some
theorem l_revL : Ok (revD (.list ds)) QR = QR (.own (.lst ds.reverse)) := ok_some
theorem l_revT : Ok (revD (.tuple ds)) QR = QR (.val (.tuple ds.reverse)) := ok_some
theorem l_revS : Ok (revD (.str x)) QR = (x.length ≤ sizeLine ∧ QR (.val (.str (Zi.revS x)))) := by simp only [ok_def, revD, o_guard, o_some]
theorem l_ins : Ok (insF (.lst ds) [.int i, d]) QM = ((ds.length < sizeLine ∧ 0 ≤ i ∧ i < 2 ^ 63) ∧ QM (.none, .lst (ds.take i.toNat ++ [d] ++ ds.drop i.toNat))) := by simp only [ok_def, insF, o_guard, o_some]
theorem l_upper : Ok (upperF x []) QR = (x.length ≤ 5592405 ∧ QR (.val (.str (Txt.upper x)))) := by simp only [ok_def, upperF, o_guard, o_some]
theorem l_repr : Ok (reprF [d]) QR = (shownOk d = true ∧ QR (.val (.str d.shown))) := by simp only [ok_def, reprF, o_guard, o_some]
theorem l_mulT : Ok (mulD (.tuple ds) (.int j)) QR = ((2 ≤ j ∧ j ≤ 1000 ∧ ds.length ≤ 1000) ∧ QR (.val (.tuple (List.replicate j.toNat ds).flatten))) := by simp only [ok_def, mulD, o_guard, o_some]
theorem l_rev0 : Ok (revF (.lst ds) []) QM = QM (.none, .lst ds.reverse) := ok_some
theorem l_inS : Ok (inD (.str x) (.str y)) QR = QR (.val (.bool (!(Builtin.Str.occurrences y x 0 y.length 1).isEmpty))) := ok_some
theorem r_Chain {f g : D → D → Option R} {ma mb mc : ME} {ρ : Rho} {QE : R × Rho → Prop} : Ok (mChain f g ma mb mc ρ) QE = Ok (ma ρ) fun p => Ok (mb p.2) fun q => Ok (rs q.2 p.1) fun x => Ok (rs q.2 q.1) fun y => Ok (f x y) fun r => isBool (fun b => if b = true then Ok (mc q.2) fun s => Ok (rs s.2 q.1) fun y' => Ok (rs s.2 s.1) fun z => Ok (g y' z) fun r' => QE (r', s.2) else QE (.val (.bool false), q.2)) r := by
  simp only [ok_def, mChain, o_bind]
  congr 1; funext p; congr 1; funext q; congr 1; funext x; congr 1; funext y; congr 1; funext r
  cases r with
  | val d => cases d with
    | bool b => cases b <;> simp [ok_def, isBool, o_some, o_bind, o_map]
    | _ => simp [ok_def, isBool, o_none]
  | own o => simp [ok_def, isBool, o_none]
  | bor i => simp [ok_def, isBool, o_none]
end
section
theorem rng_get {n : Nat} {i : Nat} (h : i < (rng 0 n).length) : ∃ h' : i < n, (rng 0 n)[i] = .int (i : Nat) := by
  have h' : i < n := by simpa [rng] using h
  exact ⟨h', by simp [rng]⟩
theorem enumL_get {ds : List D} {i : Nat} (h : i < (enumL ds).length) : ∃ h' : i < ds.length, (enumL ds)[i] = .tuple [.int (i : Nat), ds[i]] := by
  have h' : i < ds.length := by simpa [enumL] using h
  exact ⟨h', by simp [enumL]⟩
theorem enumL_len {ds : List D} : (enumL ds).length = ds.length := by simp [enumL]
end
section
variable {ρ : Rho} {QE : R × Rho → Prop} {QS : Fl × Rho → Prop}
def frQ (Q : Rho → Prop) (ρ : Rho) (i : Nat) (s0 : Option Sl) (dQ : Dep Q := ⟨⟩) : Prop := match s0 with
  | some (.own _ o) => Q (ρ.set i (.val o.toD))
  | _ => Q ρ
theorem frQ_is {Q : Rho → Prop} {i : Nat} : Q (frzO ρ i) = frQ Q ρ i ρ[i]? := by
  unfold frzO frQ
  rcases ρ[i]? with _ | s
  · rfl
  · cases s <;> rfl
theorem r_Frz {i : Nat} {m : ME} : Ok (mFrz i m ρ) QE = frQ (fun ρ' => Ok (m ρ') QE) ρ i ρ[i]? := by
  rw [← frQ_is (Q := fun ρ' => Ok (m ρ') QE)]; rfl
theorem r_FrzS {i : Nat} {m : MS} : Ok (mFrzS i m ρ) QS = frQ (fun ρ' => Ok (m ρ') QS) ρ i ρ[i]? := by
  rw [← frQ_is (Q := fun ρ' => Ok (m ρ') QS)]; rfl
theorem q_frQ_v {Q : Rho → Prop} {i : Nat} {d : D} : frQ Q ρ i (some (.val d)) = Q ρ := rfl
theorem q_frQ_o {Q : Rho → Prop} {i : Nat} {b : Bool} {o : O} : frQ Q ρ i (some (.own b o)) = Q (ρ.set i (.val o.toD)) := rfl
theorem q_frQ_n {Q : Rho → Prop} {i : Nat} : frQ Q ρ i (some .no) = Q ρ := rfl
theorem q_frQ_s {Q : Rho → Prop} {i : Nat} {ns : List Int} : frQ Q ρ i (some (.scr ns)) = Q ρ := rfl
theorem frQ_k {Q : Rho → Prop} {i : Nat} {s : Sl} (h : kS (some s) = true) : frQ Q ρ i (some s) = Q ρ := by cases s <;> first | rfl | cases h
end
section
variable {ρ : Rho} {QE : R × Rho → Prop} {QS : Fl × Rho → Prop} {QK : List (L2.Key × D) × Rho → Prop}
def starQ (Q : D → List D → Prop) (s0 : D) (dQ : Dep Q := ⟨⟩) : Prop := match s0 with
  | .tuple (d :: ds) => Q d ds
  | _ => False
theorem r_Star {i j : Nat} {me : ME} : Ok (mStar i j me ρ) QS = Ok (me ρ) fun p => Ok (fz p.2 p.1) fun q => starQ (fun d ds => Ok (stS i (.val d) q.2) fun ρ1 => Ok (stS j (.own false (.lst ds)) ρ1) fun ρ2 => QS (.nx, ρ2)) q.1 := by
  simp only [ok_def, mStar, o_bind]
  congr 1; funext p; congr 1; funext q
  rcases q with ⟨d, ρ'⟩
  cases d with
  | tuple ds => cases ds <;> simp [ok_def, starQ, o_none, o_bind, o_some]
  | _ => simp [ok_def, starQ, o_none]
theorem q_starQ {Q : D → List D → Prop} {d : D} {ds : List D} : starQ Q (.tuple (d :: ds)) = Q d ds := rfl
theorem r_DD0 : Ok (mDD0 ρ) QK = QK ([], ρ) := ok_some
def optQ {α : Type} (Q : α → Prop) : Option α → Prop
  | some a => Q a
  | none => False
theorem o_opt {α : Type} {x : Option α} {Q : α → Prop} : Ok0 x Q = optQ Q x := by
  cases x <;> simp [o_some, o_none, optQ]
theorem r_DD1 {mk mv : ME} {mr : MDD} : Ok (mDD1 mk mv mr ρ) QK = Ok (mk ρ) fun p => Ok (fz p.2 p.1) fun w => optQ (fun key => Ok (mv w.2) fun q => Ok (fz q.2 q.1) fun u => Ok (mr u.2) fun r => QK ((key, u.1) :: r.1, r.2)) (keyOf w.1) := by
  simp only [ok_def, mDD1, o_bind, o_some]
  congr 1; funext p; congr 1; funext q
  exact o_opt
theorem q_key_i {i : Int} : keyOf (.int i) = some (.inl i) := rfl
theorem q_key_s {x : Str} : keyOf (.str x) = some (.inr x) := rfl
theorem q_optQ {α : Type} {a : α} {Q : α → Prop} : optQ Q (some a) = Q a := rfl
theorem r_Dict {m : MDD} : Ok (mDict m ρ) QE = Ok (m ρ) fun p => (nodK p.1 = true ∧ p.1.length ≤ 15) ∧ QE (.own (.dct p.1), p.2) := by simp only [ok_def, mDict, o_bind, o_guard, o_some]
theorem r_Get2 {md mk mx : ME} : Ok (mGet2 md mk mx ρ) QE = Ok (md ρ) fun p => Ok (rs p.2 p.1) fun d0 => isDct d0 = true ∧ Ok (mk p.2) fun q => Ok (mx q.2) fun s => Ok (fz s.2 s.1) fun u => Ok (rs u.2 q.1) fun kd => Ok (rs u.2 p.1) fun d1 => optQ (fun z => QE (.val z, u.2)) (getKD kd u.1 d1) := by
  simp only [ok_def, mGet2, o_bind, o_guard]
  congr 1; funext p; congr 1; funext d0; congr 1; congr 1; funext q; congr 1; funext s; congr 1; funext u; congr 1; funext kd; congr 1; funext d1
  rw [o_opt]
  congr 1; funext z
  exact o_some
theorem q_isDct {ks : List (D × D)} : isDct (.dict ks) = true := rfl
theorem q_optM {α β : Type} {o : Option α} {f : α → β} {Q : β → Prop} : optQ Q (o.map f) = optQ (fun a => Q (f a)) o := by cases o <;> rfl
theorem q_getKD {ks : List (D × D)} {k x : D} : getKD k x (.dict ks) = (lkA ks k).map fun o => o.getD x := rfl
theorem q_lkS {ks : List (D × D)} {x : Str} {Q : Option D → Prop} : optQ Q (lkA ks (.str x)) = (noTp ks = true ∧ Q (lkD ks (.inr x))) := by
  simp only [lkA]; split
  · rename_i h; simp [h, optQ]
  · rename_i h; simp [h, optQ]
theorem q_lkI {ks : List (D × D)} {x : Int} {Q : Option D → Prop} : optQ Q (lkA ks (.int x)) = (noTp ks = true ∧ Q (lkD ks (.inl x))) := by
  simp only [lkA]; split
  · rename_i h; simp [h, optQ]
  · rename_i h; simp [h, optQ]
theorem q_lkT {ks : List (D × D)} {ds : List D} {Q : Option D → Prop} : optQ Q (lkA ks (.tuple ds)) = optQ (fun k => tpKeys ks = true ∧ Q (lkT ks k)) (nkey (.tuple ds)) := by
  simp only [lkA]
  cases nkey (.tuple ds) with
  | none => rfl
  | some k =>
    by_cases h : tpKeys ks = true
    · simp [h, optQ]
    · simp [h, optQ]
theorem q_noTp {ks : List (L2.Key × D)} : (noTp (dkv ks) = true) = True := by rw [noTp_dkv]; simp
theorem q_toDd {ks : List (L2.Key × D)} : (O.dct ks).toD = .dict (dkv ks) := rfl
theorem q_toDt {ks : List (D × D)} : (O.dtp ks).toD = .dict ks := rfl
theorem r_Dict0 : Ok (mDict0 ρ) QE = QE (.own (.dct []), ρ) := ok_some
theorem l_din {QR : R → Prop} {ks : List (D × D)} {k : D} {neg : Bool} : Ok (dinF neg k (.dict ks)) QR = optQ (fun o => QR (.val (.bool (if neg then !o.isSome else o.isSome)))) (lkA ks k) := by
  simp only [ok_def, dinF, o_map]
  exact o_opt
theorem l_dix {QR : R → Prop} {ks : List (D × D)} {k : D} : Ok (dixF (.dict ks) k) QR = optQ (fun o => optQ (fun d => QR (.val d)) o) (lkA ks k) := by
  simp only [ok_def, dixF, o_bind, o_map]
  rw [o_opt]
  congr 1; funext o
  exact o_opt
theorem r_Kin {neg : Bool} {tb : List (Str × D)} {m : ME} : Ok (mKin neg tb m ρ) QE = Ok (m ρ) fun p => optQ (fun z => QE (.val (.bool (if neg then !(lkS tb z).isSome else (lkS tb z).isSome)), p.2)) (strR p.1) := by
  simp only [ok_def, mKin, o_bind, o_map]
  congr 1; funext p
  exact o_opt
theorem r_Kix {tb : List (Str × D)} {m : ME} : Ok (mKix tb m ρ) QE = Ok (m ρ) fun p => optQ (fun z => optQ (fun x => QE (.val x, p.2)) (lkS tb z)) (strR p.1) := by
  simp only [ok_def, mKix, o_bind, o_map]
  congr 1; funext p
  rw [o_opt]
  congr 1; funext z
  exact o_opt
theorem r_Kget {tb : List (Str × D)} {mk mx : ME} : Ok (mKget tb mk mx ρ) QE = Ok (mk ρ) fun p => optQ (fun z => Ok (mx p.2) fun q => Ok (fz q.2 q.1) fun u => QE (.val ((lkS tb z).getD u.1), u.2)) (strR p.1) := by
  simp only [ok_def, mKget, o_bind, o_map]
  congr 1; funext p
  exact o_opt
theorem q_strR {z : Str} : strR (.val (.str z)) = some z := rfl
variable {QR : R → Prop} {x y : Str} {ds : List D}
theorem l_strip : Ok (stripF x [.str y]) QR = (x.length ≤ sizeLine ∧ QR (.val (.str (Txt.stripChars x y)))) := by simp only [ok_def, stripF, o_guard, o_some]
theorem l_maxL {ns : List Int} (h : intsOf ds = some ns) (h0 : ns ≠ []) : Ok (maxLF [.list ds]) QR = QR (.val (.int (mxI ns))) := by
  simp only [ok_def, maxLF, h, Option.bind_some, h0, if_false, o_some]
theorem r_Ss {m : ME} : Ok (mSs m ρ) QE = Ok (m ρ) fun p => Ok (rs p.2 p.1) fun x => Ok (sdF x) fun r => QE (r, p.2) := by unfold mSs; exact r_Un
theorem r_SsA {m : ME} : Ok (mSsA m ρ) QE = Ok (m ρ) fun p => Ok (rs p.2 p.1) fun x => Ok (sdA x) fun r => QE (r, p.2) := by unfold mSsA; exact r_Un
theorem r_SsC {vs vs1 : List Nat} {mi : MI} {g : MG} {mt : MT} {mi1 : MI} {g1 : MG} {mt1 : MT} {me : ME} : Ok (mSsC vs vs1 mi g mt mi1 g1 mt1 me ρ) QE = Ok (mi ρ) fun p => okW p.2 vs = true ∧ Ok (lcL2 vs vs1 g mt mi1 g1 mt1 me p.1 (wipeR p.2 vs) []) fun q => Ok (sdF (.list q.1)) fun r => QE (r, resto p.2 q.2 vs) := by
  simp only [ok_def, mSsC, o_bind, o_guard, o_map]
theorem r_CallM {F : ME} {bs : List Bool} {ms : MA} : Ok (mCallM F bs ms ρ) QE = Ok (ms ρ) fun p => (vIx p.2 (shR bs p.1) = [] ∧ (ioJs bs p.1).Nodup) ∧ Ok (ioArgs p.2 bs p.1) fun ρa => Ok (F ρa) fun q => noBor q.1 = true ∧ Ok (ioOut bs p.1 q.2) fun l => QE (q.1, setOs l p.2) := by
  simp only [ok_def, mCallM, o_bind, o_guard, o_map]
theorem q_shR0 : shR [] [] = [] := rfl
theorem q_shRt {b : List Bool} {r : R} {rs : List R} : shR (true :: b) (r :: rs) = .val .none :: shR b rs := rfl
theorem q_shRf {b : List Bool} {r : R} {rs : List R} : shR (false :: b) (r :: rs) = r :: shR b rs := rfl
theorem q_ioJ0 : ioJs [] [] = [] := rfl
theorem q_ioJt {b : List Bool} {j : Nat} {rs : List R} : ioJs (true :: b) (.bor j :: rs) = j :: ioJs b rs := rfl
theorem q_ioJf {b : List Bool} {r : R} {rs : List R} : ioJs (false :: b) (r :: rs) = ioJs b rs := rfl
variable {QR1 : Rho → Prop} {QR2 : List (Nat × O) → Prop}
theorem r_ioA0 : Ok (ioArgs ρ [] []) QR1 = QR1 [] := ok_some
theorem r_ioAt {b : List Bool} {j : Nat} {rs : List R} : Ok (ioArgs ρ (true :: b) (.bor j :: rs)) QR1 = ownS (fun _ o => Ok (ioArgs ρ b rs) fun q => QR1 (Sl.own true o :: q)) ρ[j]? := by
  rw [ioArgs]
  rcases ρ[j]? with _ | s
  · simp [ok_def, ownS, o_none]
  · cases s <;> simp [ok_def, ownS, o_none, o_map]
theorem r_ioAf {b : List Bool} {r : R} {rs : List R} : Ok (ioArgs ρ (false :: b) (r :: rs)) QR1 = Ok (vArg ρ r) fun s => Ok (ioArgs ρ b rs) fun q => QR1 (s :: q) := by
  simp only [ok_def, ioArgs, o_bind, o_map]
theorem r_ioO0 : Ok (ioOut [] [] []) QR2 = QR2 [] := ok_some
theorem r_ioOt {bs : List Bool} {j : Nat} {rs : List R} {b : Bool} {o : O} : Ok (ioOut (true :: bs) (.bor j :: rs) (.own b o :: ρ)) QR2 = Ok (ioOut bs rs ρ) fun l => QR2 ((j, o) :: l) := by
  simp only [ok_def, ioOut, o_map]
theorem r_ioOf {bs : List Bool} {r : R} {rs : List R} {s : Sl} : Ok (ioOut (false :: bs) (r :: rs) (s :: ρ)) QR2 = Ok (ioOut bs rs ρ) QR2 := by
  simp only [ioOut]
theorem r_CallN {F : ME} {bs : List Bool} {ms : MA} : Ok (mCallN F bs ms ρ) QE = Ok (ms ρ) fun p => (vIx p.2 (shR bs p.1) = [] ∧ (ioJs bs p.1).Nodup ∧ (p.1.filter isO).length ≤ 1) ∧ Ok (ioArgsN p.2 bs p.1) fun ρa => Ok (F ρa) fun q => noBor q.1 = true ∧ Ok (ioOutN bs p.1 q.2) fun l => QE (q.1, setOs l p.2) := by
  simp only [ok_def, mCallN, o_bind, o_guard, o_map]
theorem q_ioJo {b : List Bool} {o : O} {rs : List R} : ioJs (true :: b) (.own o :: rs) = ioJs b rs := rfl
theorem q_fO0 : ([] : List R).filter isO = [] := rfl
theorem q_fOv {d : D} {rs : List R} : (R.val d :: rs).filter isO = rs.filter isO := rfl
theorem q_fOb {j : Nat} {rs : List R} : (R.bor j :: rs).filter isO = rs.filter isO := rfl
theorem q_fOo {o : O} {rs : List R} : (R.own o :: rs).filter isO = R.own o :: rs.filter isO := rfl
theorem r_ioN0 : Ok (ioArgsN ρ [] []) QR1 = QR1 [] := ok_some
theorem r_ioNt {b : List Bool} {j : Nat} {rs : List R} : Ok (ioArgsN ρ (true :: b) (.bor j :: rs)) QR1 = ownS (fun _ o => Ok (ioArgsN ρ b rs) fun q => QR1 (Sl.own true o :: q)) ρ[j]? := by
  rw [ioArgsN]
  rcases ρ[j]? with _ | s
  · simp [ok_def, ownS, o_none]
  · cases s <;> simp [ok_def, ownS, o_none, o_map]
theorem r_ioNo {b : List Bool} {o : O} {rs : List R} : Ok (ioArgsN ρ (true :: b) (.own o :: rs)) QR1 = Ok (ioArgsN ρ b rs) fun q => QR1 (Sl.own true o :: q) := by
  simp only [ok_def, ioArgsN, o_map]
theorem r_ioNf {b : List Bool} {r : R} {rs : List R} : Ok (ioArgsN ρ (false :: b) (r :: rs)) QR1 = Ok (vArg ρ r) fun s => Ok (ioArgsN ρ b rs) fun q => QR1 (s :: q) := by
  simp only [ok_def, ioArgsN, o_bind, o_map]
theorem r_ioM0 : Ok (ioOutN [] [] []) QR2 = QR2 [] := ok_some
theorem r_ioMt {bs : List Bool} {j : Nat} {rs : List R} {b : Bool} {o : O} : Ok (ioOutN (true :: bs) (.bor j :: rs) (.own b o :: ρ)) QR2 = Ok (ioOutN bs rs ρ) fun l => QR2 ((j, o) :: l) := by
  simp only [ok_def, ioOutN, o_map]
theorem r_ioMo {bs : List Bool} {o1 : O} {rs : List R} {b : Bool} {o : O} : Ok (ioOutN (true :: bs) (.own o1 :: rs) (.own b o :: ρ)) QR2 = Ok (ioOutN bs rs ρ) QR2 := by
  simp only [ioOutN]
theorem r_ioMf {bs : List Bool} {r : R} {rs : List R} {s : Sl} : Ok (ioOutN (false :: bs) (r :: rs) (s :: ρ)) QR2 = Ok (ioOutN bs rs ρ) QR2 := by
  simp only [ioOutN]
theorem q_setOs0 : setOs [] ρ = ρ := rfl
theorem q_setOs1 {p : Nat × O} {l : List (Nat × O)} : setOs (p :: l) ρ = setO (setOs l ρ) p := rfl
theorem q_setO0 {b : Bool} {o o1 : O} : setO (Sl.own b o1 :: ρ) (0, o) = Sl.own b o :: ρ := rfl
theorem q_setOn {s : Sl} {j : Nat} {o : O} : setO (s :: ρ) (j + 1, o) = s :: setO ρ (j, o) := by
  simp only [setO, List.getElem?_cons_succ, List.set_cons_succ]
  rcases ρ[j]? with _ | t
  · rfl
  · cases t <;> rfl
theorem r_SetK {i : Nat} {me mi : ME} : Ok (mSetK i me mi ρ) QS = Ok (me ρ) fun p => Ok (fz p.2 p.1) fun w => ownS (fun _ _ => Ok (mi w.2) fun q => isVal (fun kd => ownS (fun b o => Ok (putF o kd w.1) fun o' => QS (.nx, q.2.set i (.own b o'))) q.2[i]?) q.1) w.2[i]? := by
  simp only [ok_def, mSetK, o_bind]
  congr 1; funext p; congr 1; funext w
  rcases w.2[i]? with _ | s
  · simp [ok_def, ownS, o_none]
  · cases s with
    | own b0 o0 =>
      simp only [ok_def, ownS, o_bind]
      congr 1; funext q
      rcases q with ⟨r, ρ'⟩
      cases r with
      | val d =>
        simp only [isVal]
        rcases ρ'[i]? with _ | t
        · simp [ok_def, ownS, o_none]
        · cases t <;> simp [ok_def, ownS, o_none, o_bind, o_some]
      | _ => simp [ok_def, isVal, o_none]
    | _ => simp [ok_def, ownS, o_none]
theorem r_Nest {i : Nat} {js : List Nat} {okm : Nat → Bool} {ms : MA} {mt : MT} {rv : Bool} : Ok (mNest i js okm ms mt rv ρ) QS = Ok (ms ρ) fun p => Ok (nOwn p.1) fun ds => ds.length < 65536 ∧ Ok (stS i (.val (.list ds)) p.2) fun ρ1 => Ok (mt ρ1) fun q => if q.1 = true then QS (.rt (.val (.bool rv)), q.2) else (okm ds.length = true ∧ Ok (thw (ρ1.set i .no) (q.2.set i .no)) fun ρ3 => nPar js ρ3 = true ∧ QS (.nx, nClr js ρ3)) := by
  simp only [ok_def, mNest, o_bind, o_ite, o_some, o_else]
theorem r_nOw0 {Q : List D → Prop} : Ok (nOwn []) Q = Q [] := ok_some
theorem r_nOw1 {ds : List D} {rs : List R} {Q : List D → Prop} : Ok (nOwn (.own (.lst ds) :: rs)) Q = (ds.length < 65536 ∧ Ok (nOwn rs) fun q => Q (.list ds :: q)) := by
  simp only [ok_def, nOwn, o_guard, o_map]
theorem q_nPar0 : nPar [] ρ = true := rfl
theorem q_nPar1 {j : Nat} {js : List Nat} : nPar (j :: js) ρ = ((!parAt ρ j && decide (j < ρ.length)) && nPar js ρ) := rfl
theorem q_nClr0 : nClr [] ρ = ρ := rfl
theorem q_nClr1 {j : Nat} {js : List Nat} : nClr (j :: js) ρ = nClr js (ρ.set j .no) := rfl
theorem l_find {x y : Str} {i : Int} {QR : R → Prop} : Ok (findF x [.str y, .int i]) QR = QR (.val (.int (Txt.find3 x y i))) := by simp only [ok_def, findF, o_some]
theorem r_SetP {i : Nat} {me mi : ME} : Ok (mSetP i me mi ρ) QS = Ok (me ρ) fun p => Ok (fz p.2 p.1) fun w => ownS (fun _ _ => Ok (mi w.2) fun q => isVal (fun kd => ownS (fun b o => Ok (putG o kd w.1) fun o' => QS (.nx, q.2.set i (.own b o'))) q.2[i]?) q.1) w.2[i]? := by
  simp only [ok_def, mSetP, o_bind]
  congr 1; funext p; congr 1; funext w
  rcases w.2[i]? with _ | s
  · simp [ok_def, ownS, o_none]
  · cases s with
    | own b0 o0 =>
      simp only [ok_def, ownS, o_bind]
      congr 1; funext q
      rcases q with ⟨r, ρ'⟩
      cases r with
      | val d =>
        simp only [isVal]
        rcases ρ'[i]? with _ | t
        · simp [ok_def, ownS, o_none]
        · cases t <;> simp [ok_def, ownS, o_none, o_bind, o_some]
      | _ => simp [ok_def, isVal, o_none]
    | _ => simp [ok_def, ownS, o_none]
theorem l_putGs {ks : List (L2.Key × D)} {x : Str} {d : D} {Q : O → Prop} : Ok (putG (.dct ks) (.str x) d) Q = (ks.length ≤ 1000 ∧ Q (.dct (pK ks (.inr x) d))) := by
  simp only [ok_def, putG, keyOf, o_guard, o_some]
theorem l_putGi {ks : List (L2.Key × D)} {x : Int} {d : D} {Q : O → Prop} : Ok (putG (.dct ks) (.int x) d) Q = (ks.length ≤ 1000 ∧ Q (.dct (pK ks (.inl x) d))) := by
  simp only [ok_def, putG, keyOf, o_guard, o_some]
theorem l_putG0 {t : List D} {d : D} {Q : O → Prop} : Ok (putG (.dct []) (.tuple t) d) Q = optQ (fun _ => Q (.dtp [(.tuple t, d)])) (nkey (.tuple t)) := by
  simp only [ok_def, putG, keyOf, List.isEmpty_nil, if_true, o_bind, o_some]
  exact o_opt
theorem l_putGt {ks : List (D × D)} {t : List D} {d : D} {Q : O → Prop} : Ok (putG (.dtp ks) (.tuple t) d) Q = optQ (fun nk => ks.length ≤ 1000000 ∧ Q (.dtp (pT ks nk (.tuple t) d))) (nkey (.tuple t)) := by
  simp only [ok_def, putG, o_bind, o_guard, o_some]
  exact o_opt
theorem l_put {ks : List (L2.Key × D)} {k d : D} {Q : O → Prop} : Ok (putF (.dct ks) k d) Q = Ok (keyOf k) fun key => (nodK (ks ++ [(key, d)]) = true ∧ ks.length ≤ 1000) ∧ Q (.dct (ks ++ [(key, d)])) := by
  simp only [ok_def, putF, o_bind, o_guard, o_some]
theorem keys_dkv : ∀ ks : List (L2.Key × D), keysOf (dkv ks) = some ks
  | [] => rfl
  | (k, d) :: ks => by
    have e : keyOf (keyD k) = some k := by cases k <;> rfl
    have ih := keys_dkv ks
    unfold dkv at ih ⊢
    rw [List.map_cons, keysOf, e, Option.bind_some, ih]
    rfl
theorem l_upd {ks ks2 : List (L2.Key × D)} {Q : D × O → Prop} : Ok (updF (.dct ks) [.dict (dkv ks2)]) Q = ((nodK (ks ++ ks2) = true ∧ (ks ++ ks2).length ≤ 1000) ∧ Q (.none, .dct (ks ++ ks2))) := by
  simp only [ok_def, updF, keys_dkv, Option.bind_some, o_guard, o_some]
theorem l_idx {ds : List D} {d : D} {Q : D × O → Prop} : Ok (idxF (.lst ds) [d]) Q = ((flatD d && ds.all flatD) = true ∧ Ok (ds.findIdx? fun z => PyData.eqv z d) fun j => Q (.int (j : Nat), .lst ds)) := by
  simp only [ok_def, idxF, o_guard, o_map]
theorem l_sdL {ds : List D} {ys : List Str} (h : strsOf ds = some ys) (hl : ys.length ≤ 1000) : Ok (sdF (.list ds)) QR = QR (.own (.lst ((sortS (dedS ys)).map PyData.str))) := by
  simp only [ok_def, sdF, h, hl, Option.bind_some, if_true, o_some]
end
section
variable {ρ : Rho}
/-- a comprehension over what is made of a list, that changes nothing -/
theorem ok_lcM {α : Type} {vs : List Nat} {g : MG} {mt : MT} {me : ME} {QL : List D × Rho → Prop} (G F : α → D) {as : List α} {acc : List D} (hs : ∀ a ∈ as, Ok (g (G a) ρ) fun ρ1 => Ok (mt ρ1) fun p => p.1 = true ∧ Ok (me p.2) fun q => Ok (fz q.2 q.1) fun w => w.1 = F a ∧ wipeR w.2 vs = ρ)
    (hl : acc.length + as.length ≤ sizeLine) (hd : QL (acc ++ as.map F, ρ)) : Ok (lcL vs g mt me (as.map G) ρ acc) QL := by
  refine ok_lcL (fun r ρ' a => ρ' = ρ ∧ ∃ r', r = r'.map G ∧ (∀ x ∈ r', x ∈ as) ∧ a.length + r'.length ≤ sizeLine ∧ a ++ r'.map F = acc ++ as.map F) ⟨rfl, as, rfl, fun _ h => h, hl, rfl⟩ (fun d r ρ' a h => ?_) fun ρ' a h => ?_
  · obtain ⟨rfl, r', hr, hm, hl, he⟩ := h
    cases r' with
    | nil => cases hr
    | cons x r' =>
      cases hr
      refine (hs x (hm x List.mem_cons_self)).mono fun ρ1 h1 => h1.mono fun p h2 => ?_
      rw [if_pos h2.1]
      refine h2.2.mono fun q h3 => h3.mono fun w h4 => ⟨by simp at hl; omega, h4.2, r', rfl, fun y hy => hm y (List.mem_cons_of_mem _ hy), by simp at hl ⊢; omega, ?_⟩
      rw [← he, h4.1, List.map_cons, List.append_assoc]; rfl
  · obtain ⟨rfl, r', hr, hm, hl, he⟩ := h
    cases r' with
    | nil =>
      rw [List.map_nil, List.append_nil] at he
      rw [he]; exact hd
    | cons x r' => cases hr
end
section
/-- a dict of tuples, or none yet -/
def dT : List (D × D) → O
  | [] => .dct []
  | p :: r => .dtp (p :: r)
theorem q_dT {ks : List (D × D)} : (dT ks).toD = .dict ks := by cases ks <;> rfl
theorem l_putT {ks : List (D × D)} {t : List D} {d : D} {Q : O → Prop} : Ok (putG (dT ks) (.tuple t) d) Q = optQ (fun nk => ks.length ≤ 1000000 ∧ Q (dT (pT ks nk (.tuple t) d))) (nkey (.tuple t)) := by
  cases ks with
  | nil =>
    rw [show dT [] = .dct [] from rfl, l_putG0]
    cases nkey (.tuple t) with
    | none => rfl
    | some nk => simp [optQ, pT, lkT, dT]
  | cons p r =>
    rw [show dT (p :: r) = .dtp (p :: r) from rfl, l_putGt]
    cases nkey (.tuple t) with
    | none => rfl
    | some nk =>
      simp only [optQ]
      have h : ∃ q s, pT (p :: r) nk (.tuple t) d = q :: s := by
        unfold pT
        split <;> exact ⟨_, _, rfl⟩
      obtain ⟨q, s, h⟩ := h
      rw [h]; rfl
theorem l_pop0 {xs : List D} {x : D} {QM : D × O → Prop} : Ok (pop0F (.lst (xs ++ [x])) []) QM = QM (x, .lst xs) := by
  have e : pop0F (.lst (xs ++ [x])) [] = some (x, .lst xs) := by
    simp [pop0F]
  rw [e]; exact ok_some
theorem l_sortT {ks : List (D × D)} {QR : R → Prop} : Ok (sortF2 [.dict ks]) QR = ((tupsOk (ks.map (·.1)) = true ∧ tpKeys ks = true) ∧ QR (.own (.lst (sortD (ks.map (·.1)))))) := by
  simp only [ok_def, ok_def, sortF2, o_guard, o_guard, o_some]
end
section
theorem l_dictT {ds : List D} {QR : R → Prop} : Ok (dictF [.tuple ds]) QR = Ok (pairsF ds) fun ks => nodK ks = true ∧ QR (.own (.dct ks)) := by
  simp only [ok_def, dictF, o_bind, o_guard, o_some]
theorem l_dictL {ds : List D} {QR : R → Prop} : Ok (dictF [.list ds]) QR = Ok (pairsF ds) fun ks => nodK ks = true ∧ QR (.own (.dct ks)) := by
  simp only [ok_def, dictF, o_bind, o_guard, o_some]
end
end Zr
end

-- K_k04
section
namespace Lw
open PySem PySem.Spec PyProof.Rows L2 Zl
def tb_LONG_BY : List (Str × D) := [("always", (.int 1)), ("is", (.int 3)), ("not", (.int 2)), ("both", (.int 3)), ("either", (.int 3))]
def topS (i : Nat) : Stmt := PySem.Challenge.pw_sheafbooks_k04_whens_or_not.main.body.getD i (.Pass ⟨0, 0, 0, 0⟩)
section
variable {P : Program} {w : World} {K : PySem.W.Frag} {mg : Str → Option Value} {base : Heap}
/-! is_tuple: 0 thing, 1 least, 2 most -/
abbrev s_P_is_tuple : Stmt := topS 1
theorem sc_P_is_tuple : FnScope ["thing", "least", "most"] ["thing", "least", "most"] (defScope s_P_is_tuple) := ⟨rfl, rfl, rfl, by decide +kernel, rfl, by decide +kernel, by decide +kernel⟩
def b_P_is_tuple : MS := (mRet (mAndV (mIs ["tuple"] (mV 0)) (mChain leD leD (mV 1) (mCB lenF (mA1 (mV 0) mA0)) (mV 2))))
def d_P_is_tuple : ME := runF 3 3 b_P_is_tuple
set_option maxRecDepth 100000 in
theorem ok_P_is_tuple {f : Addr} {fd : FuncData} (F : Fun K "is_tuple" "is_tuple" s_P_is_tuple f fd) (g : mg "is_tuple" = some (.ref f)) (b : Binds K fd ["thing", "least", "most"] []) (m_isinstance : mg "isinstance" = none) (m_len : mg "len" = none) (m_tuple : mg "tuple" = none) : Cal P w K mg base "is_tuple" s_P_is_tuple 1 ["thing", "least", "most"] d_P_is_tuple := by
  have sc := sc_P_is_tuple
  exact cal_mk F sc g b rfl rfl fun cdv A outer s H E hr =>
    (show CSs _ (defBody s_P_is_tuple) b_P_is_tuple from
      (css_one (cs_ret (ce_and (ce_is1 (by rfl) m_isinstance (cv 0) (by rfl) m_tuple PyProof.Rows.boot_tuple (by decide +kernel)) (ce_one (ce_chn op_le op_le o_cmp o_cmp (cv 1) (ce_len (by rfl) m_len (ca_cons (cv 0) ca_nil)) (cv 2)))))))
/-! rises: 0 some, 1 one, 2 other -/
abbrev s_P_rises : Stmt := topS 2
theorem sc_P_rises : FnScope ["some", "one", "other"] ["some"] (defScope s_P_rises) := ⟨rfl, rfl, rfl, by decide +kernel, rfl, by decide +kernel, by decide +kernel⟩
def b_P_rises : MS := (mRet (mCB allF (mA1 (mLc [1, 2] (mZip (mD1 (mV 0) (mD1 (mSl (mV 0) (mO1 (mC (.int 1))) mO0) mD0))) (gT 2 (gs1 (gN 1) (gs1 (gN 2) gs0))) mYes (mOpV ltSD (mV 1) (mV 2))) mA0)))
def d_P_rises : ME := runF 1 3 b_P_rises
set_option maxRecDepth 100000 in
theorem ok_P_rises {f : Addr} {fd : FuncData} (F : Fun K "rises" "rises" s_P_rises f fd) (g : mg "rises" = some (.ref f)) (b : Binds K fd ["some"] []) (m_all : mg "all" = none) (m_zip : mg "zip" = none) : Cal P w K mg base "rises" s_P_rises 1 ["some"] d_P_rises := by
  have sc := sc_P_rises
  exact cal_mk F sc g b rfl rfl fun cdv A outer s H E hr =>
    (show CSs _ (defBody s_P_rises) b_P_rises from
      (css_one (cs_ret (ce_all rfl (by rfl) m_all (ca_cons (ce_lc (own := [("one", 1), ("other", 2)]) (js := [1, 2]) rfl sc.nd (ci_zip (by rfl) m_zip (cd_cons (cv 0) (cd_cons (ce_sl (cv 0) (co_some ce_int) co_none) cd_nil))) (blkOk_by (by rfl)) (by decide) (fun _ _ _ _ _ => (cg_tup rfl (cgs_cons (cg_name sc.nd rfl (.inl rfl)) (cgs_cons (cg_name sc.nd rfl (.inl rfl)) cgs_nil)))) (fun _ _ _ _ _ => cts_nil) (fun _ _ _ _ _ => (ce_ltS (cv 1) (cv 2)))) ca_nil)))))
/-! is_word_of: 0 words, 1 thing -/
abbrev s_P_is_word_of : Stmt := topS 4
theorem sc_P_is_word_of : FnScope ["words", "thing"] ["words", "thing"] (defScope s_P_is_word_of) := ⟨rfl, rfl, rfl, by decide +kernel, rfl, by decide +kernel, by decide +kernel⟩
def b_P_is_word_of : MS := (mRet (mAndV (mIs ["str"] (mV 1)) (mOpV inD (mV 1) (mV 0))))
def d_P_is_word_of : ME := runF 2 2 b_P_is_word_of
set_option maxRecDepth 100000 in
theorem ok_P_is_word_of {f : Addr} {fd : FuncData} (F : Fun K "is_word_of" "is_word_of" s_P_is_word_of f fd) (g : mg "is_word_of" = some (.ref f)) (b : Binds K fd ["words", "thing"] []) (m_isinstance : mg "isinstance" = none) (m_str : mg "str" = none) : Cal P w K mg base "is_word_of" s_P_is_word_of 1 ["words", "thing"] d_P_is_word_of := by
  have sc := sc_P_is_word_of
  exact cal_mk F sc g b rfl rfl fun cdv A outer s H E hr =>
    (show CSs _ (defBody s_P_is_word_of) b_P_is_word_of from
      (css_one (cs_ret (ce_and (ce_is1 (by rfl) m_isinstance (cv 1) (by rfl) m_str PyProof.Rows.boot_str (by decide +kernel)) (ce_one (ce_in hr.r (cv 1) (cv 0)))))))
/-! are_words_of: 0 words, 1 thing, 2 one -/
abbrev s_P_are_words_of : Stmt := topS 5
theorem sc_P_are_words_of : FnScope ["words", "thing", "one"] ["words", "thing"] (defScope s_P_are_words_of) := ⟨rfl, rfl, rfl, by decide +kernel, rfl, by decide +kernel, by decide +kernel⟩
def b_P_are_words_of : MS := (mRet (mAndV (mCall d_P_is_tuple (mA1 (mV 1) (mA1 (mC (.int 1)) (mA1 (mCB lenF (mA1 (mV 0) mA0)) mA0)))) (mAndV (mCB allF (mA1 (mLc [2] (mItems (mV 1)) (gN 2) mYes (mCall d_P_is_word_of (mA1 (mV 0) (mA1 (mV 2) mA0)))) mA0)) (mCall d_P_rises (mA1 (mV 1) mA0)))))
def d_P_are_words_of : ME := runF 2 3 b_P_are_words_of
set_option maxRecDepth 100000 in
theorem ok_P_are_words_of {f : Addr} {fd : FuncData} (F : Fun K "are_words_of" "are_words_of" s_P_are_words_of f fd) (g : mg "are_words_of" = some (.ref f)) (b : Binds K fd ["words", "thing"] []) (C_P_is_tuple : Cal P w K mg base "is_tuple" s_P_is_tuple 1 ["thing", "least", "most"] d_P_is_tuple) (C_P_is_word_of : Cal P w K mg base "is_word_of" s_P_is_word_of 1 ["words", "thing"] d_P_is_word_of) (C_P_rises : Cal P w K mg base "rises" s_P_rises 1 ["some"] d_P_rises) (m_all : mg "all" = none) (m_len : mg "len" = none) : Cal P w K mg base "are_words_of" s_P_are_words_of 2 ["words", "thing"] d_P_are_words_of := by
  have sc := sc_P_are_words_of
  exact cal_mk F sc g b rfl rfl fun cdv A outer s H E hr =>
    (show CSs _ (defBody s_P_are_words_of) b_P_are_words_of from
      (css_one (cs_ret (ce_and (cc_call C_P_is_tuple hr (by first | decide | omega) (by rfl) (ca_cons (cv 1) (ca_cons ce_int (ca_cons (ce_len (by rfl) m_len (ca_cons (cv 0) ca_nil)) ca_nil)))) (ce_and (ce_all rfl (by rfl) m_all (ca_cons (ce_lc (own := [("one", 2)]) (js := [2]) rfl sc.nd (ci_items (cv 1)) (blkOk_by (by rfl)) (by decide) (fun _ _ _ _ _ => (cg_name sc.nd rfl (.inl rfl))) (fun _ _ _ _ _ => cts_nil) (fun _ _ _ _ _ => (cc_call C_P_is_word_of hr (by first | decide | omega) (by rfl) (ca_cons (cv 0) (ca_cons (cv 2) ca_nil))))) ca_nil)) (ce_one (cc_call C_P_rises hr (by first | decide | omega) (by rfl) (ca_cons (cv 1) ca_nil))))))))
/-! is_told: 0 facets, 1 facet, 2 words, 3 words_by -/
abbrev s_P_is_told : Stmt := topS 15
theorem sc_P_is_told : FnScope ["facets", "facet", "words", "words_by"] ["facets", "facet", "words"] (defScope s_P_is_told) := ⟨rfl, rfl, rfl, by decide +kernel, rfl, by decide +kernel, by decide +kernel⟩
def b_P_is_told : MS := (mSeq (mSet 3 (mCB dictF (mA1 (mV 0) mA0)))
      (mRet (mAndV (mIs ["str"] (mV 1)) (mAndV (mOpV (dinF false) (mV 1) (mV 3)) (mCall d_P_are_words_of (mA1 (mOpV dixF (mV 3) (mV 1)) (mA1 (mV 2) mA0)))))))
def d_P_is_told : ME := runF 3 4 b_P_is_told
set_option maxRecDepth 100000 in
theorem ok_P_is_told {f : Addr} {fd : FuncData} (F : Fun K "is_told" "is_told" s_P_is_told f fd) (g : mg "is_told" = some (.ref f)) (b : Binds K fd ["facets", "facet", "words"] []) (C_P_are_words_of : Cal P w K mg base "are_words_of" s_P_are_words_of 2 ["words", "thing"] d_P_are_words_of) (m_dict : mg "dict" = none) (m_isinstance : mg "isinstance" = none) (m_str : mg "str" = none) : Cal P w K mg base "is_told" s_P_is_told 3 ["facets", "facet", "words"] d_P_is_told := by
  have sc := sc_P_is_told
  exact cal_mk F sc g b rfl rfl fun cdv A outer s H E hr =>
    (show CSs _ (defBody s_P_is_told) b_P_is_told from
      (css_cons (cs_set sc.nd rfl (.inl rfl) (ce_dict rfl (by rfl) m_dict (ca_cons (cv 0) ca_nil)))
      (css_one (cs_ret (ce_and (ce_is1 (by rfl) m_isinstance (cv 1) (by rfl) m_str PyProof.Rows.boot_str (by decide +kernel)) (ce_and (ce_din (Zl.ru64 hr.r) (cv 1) (cv 3)) (ce_one (cc_call C_P_are_words_of hr (by first | decide | omega) (by rfl) (ca_cons (ce_dix (Zl.ru64 hr.r) (cv 3) (cv 1)) (ca_cons (cv 2) ca_nil))))))))))
/-! parts_of_when: 0 facets, 1 thing, 2 deep, 3 word, 4 inner, 5 counts, 6 one -/
abbrev s_P_parts_of_when : Stmt := topS 16
theorem sc_P_parts_of_when : FnScope ["facets", "thing", "deep", "word", "inner", "counts", "one"] ["facets", "thing", "deep"] (defScope s_P_parts_of_when) := ⟨rfl, rfl, rfl, by decide +kernel, rfl, by decide +kernel, by decide +kernel⟩
def b_P_parts_of_when (rec : ME) : MS := (mSeq (mIfS (mOr (mB (mOpV eqD (mV 2) (mC (.int 0)))) (mOr (mNot (mT (mCall d_P_is_tuple (mA1 (mV 1) (mA1 (mC (.int 1)) (mA1 (mC (.int 3)) mA0)))))) (mNot (mT (mIs ["str"] (mOpV ixD (mV 1) (mC (.int 0)))))))) (mRet (mC (.int 0))) mNil)
      (mSeq (mStar 3 4 (mV 1))
      (mSeq (mIfS (mB (mOpV neD (mKget tb_LONG_BY (mV 3) (mC (.int 0))) (mCB lenF (mA1 (mV 1) mA0)))) (mRet (mC (.int 0))) mNil)
      (mSeq (mIfS (mB (mOpV eqD (mV 3) (mC (.str "is")))) (mRet (mCB intF (mA1 (mCall d_P_is_told (mA1 (mV 0) (mA1 (mOpV ixD (mV 4) (mC (.int 0))) (mA1 (mOpV ixD (mV 4) (mC (.int 1))) mA0)))) mA0))) mNil)
      (mSeq (mSet 5 (mLc [6] (mItems (mV 4)) (gN 6) mYes (mCall rec (mA1 (mV 0) (mA1 (mV 6) (mA1 (mOp subD (mV 2) (mC (.int 1))) mA0))))))
      (mRet (mIf (mB (mOpV inD (mC (.int 0)) (mV 5))) (mC (.int 0)) (mOp addD (mC (.int 1)) (mCB sumF (mA1 (mV 5) mA0))))))))))
def d_P_parts_of_when : Nat → ME
  | 0 => runF 3 7 mNever
  | k + 1 => runF 3 7 (b_P_parts_of_when (d_P_parts_of_when k))
set_option maxRecDepth 100000 in
theorem ok_P_parts_of_when {f : Addr} {fd : FuncData} (F : Fun K "parts_of_when" "parts_of_when" s_P_parts_of_when f fd) (g : mg "parts_of_when" = some (.ref f)) (b : Binds K fd ["facets", "thing", "deep"] []) (C_P_is_tuple : Cal P w K mg base "is_tuple" s_P_is_tuple 1 ["thing", "least", "most"] d_P_is_tuple) (C_P_is_told : Cal P w K mg base "is_told" s_P_is_told 3 ["facets", "facet", "words"] d_P_is_told) (m_int : mg "int" = none) (m_isinstance : mg "isinstance" = none) (m_len : mg "len" = none) (m_str : mg "str" = none) (m_sum : mg "sum" = none) (c_LONG_BY : ∃ d, mg "LONG_BY" = some (.ref d) ∧ KTab K w d tb_LONG_BY) (c_IS : ∃ t, mg "IS" = some (.str "is" t)) : ∀ n, Cal P w K mg base "parts_of_when" s_P_parts_of_when (n + 4) ["facets", "thing", "deep"] (d_P_parts_of_when n)
  | 0 => by
    have sc := sc_P_parts_of_when
    have h : Cal P w K mg base "parts_of_when" s_P_parts_of_when (3 + 1) ["facets", "thing", "deep"] (d_P_parts_of_when 0) := cal_mk F sc g b rfl rfl fun cdv A outer s H E hr => css_never
    simpa using h
  | n + 1 => by
    have sc := sc_P_parts_of_when
    have C_P_parts_of_when := ok_P_parts_of_when F g b C_P_is_tuple C_P_is_told m_int m_isinstance m_len m_str m_sum c_LONG_BY c_IS n
    have h : Cal P w K mg base "parts_of_when" s_P_parts_of_when ((n + 4) + 1) ["facets", "thing", "deep"] (d_P_parts_of_when (n + 1)) := cal_mk F sc g b rfl rfl fun cdv A outer s H E hr =>
      (show CSs _ (defBody s_P_parts_of_when) (b_P_parts_of_when (d_P_parts_of_when n)) from
      (css_cons (cs_if (ct_w (cw_or (ct_eq hr.r (cv 2) ce_int) (cw_or (ct_not (ct_tru (cc_call C_P_is_tuple hr (by first | decide | omega) (by rfl) (ca_cons (cv 1) (ca_cons ce_int (ca_cons ce_int ca_nil)))))) (cw_or1 (ct_not (ct_tru (ce_is1 (by rfl) m_isinstance (ce_ix (cv 1) ce_int) (by rfl) m_str PyProof.Rows.boot_str (by decide +kernel)))))))) (css_one (cs_ret ce_int)) css_nil)
      (css_cons (cs_star rfl sc.nd rfl (.inl rfl) rfl (.inl rfl) (cv 1))
      (css_cons (cs_if (ct_ne hr.r (ce_kget (by rfl) c_LONG_BY (cv 3) ce_int ⟨by rfl, by rfl, by rfl, by rfl⟩) (ce_len (by rfl) m_len (ca_cons (cv 1) ca_nil))) (css_one (cs_ret ce_int)) css_nil)
      (css_cons (cs_if (ct_eq hr.r (cv 3) (ce_gstr (by rfl) c_IS)) (css_one (cs_ret (ce_intc (by rfl) m_int (ca_cons (cc_call C_P_is_told hr (by first | decide | omega) (by rfl) (ca_cons (cv 0) (ca_cons (ce_ix (cv 4) ce_int) (ca_cons (ce_ix (cv 4) ce_int) ca_nil)))) ca_nil)))) css_nil)
      (css_cons (cs_setLc (own := [("one", 6)]) (js := [6]) rfl sc.nd rfl rfl (sw_true rfl rfl rfl (by decide +kernel)) (ci_items (cv 4)) (blkOk_by (by rfl)) (by decide) (fun _ _ _ _ _ => (cg_name sc.nd rfl (.inl rfl))) (fun _ _ _ _ _ => cts_nil) (fun _ _ _ _ _ => (cc_call C_P_parts_of_when hr (by first | decide | omega) (by rfl) (ca_cons (cv 0) (ca_cons (cv 6) (ca_cons (ce_sub (cv 2) ce_int) ca_nil))))))
      (css_one (cs_ret (ce_if (ct_in hr.r ce_int (cv 5)) ce_int (ce_add ce_int (ce_sum rfl (by rfl) m_sum (ca_cons (cv 5) ca_nil))))))))))))
    have e : n + 4 + 1 = n + 1 + 4 := by omega
    rw [e] at h; exact h
/-! is_when: 0 facets, 1 thing -/
abbrev s_P_is_when : Stmt := topS 17
theorem sc_P_is_when : FnScope ["facets", "thing"] ["facets", "thing"] (defScope s_P_is_when) := ⟨rfl, rfl, rfl, by decide +kernel, rfl, by decide +kernel, by decide +kernel⟩
def b_P_is_when : MS := (mRet (mChain leD leD (mC (.int 1)) (mCall (d_P_parts_of_when 40) (mA1 (mV 0) (mA1 (mV 1) (mA1 (mC (.int 4)) mA0)))) (mC (.int 8))))
def d_P_is_when : ME := runF 2 2 b_P_is_when
set_option maxRecDepth 100000 in
theorem ok_P_is_when {f : Addr} {fd : FuncData} (F : Fun K "is_when" "is_when" s_P_is_when f fd) (g : mg "is_when" = some (.ref f)) (b : Binds K fd ["facets", "thing"] []) (C_P_parts_of_when : Cal P w K mg base "parts_of_when" s_P_parts_of_when 44 ["facets", "thing", "deep"] (d_P_parts_of_when 40)) (c_MOST_DEEP : ∃ t, mg "MOST_DEEP" = some (.int (4) t)) (c_MOST_PARTS : ∃ t, mg "MOST_PARTS" = some (.int (8) t)) : Cal P w K mg base "is_when" s_P_is_when 45 ["facets", "thing"] d_P_is_when := by
  have sc := sc_P_is_when
  exact cal_mk F sc g b rfl rfl fun cdv A outer s H E hr =>
    (show CSs _ (defBody s_P_is_when) b_P_is_when from
      (css_one (cs_ret (ce_chn op_le op_le o_cmp o_cmp ce_int (cc_call C_P_parts_of_when hr (by first | decide | omega) (by rfl) (ca_cons (cv 0) (ca_cons (cv 1) (ca_cons (ce_gint (by rfl) c_MOST_DEEP) ca_nil)))) (ce_gint (by rfl) c_MOST_PARTS)))))
/-! tape: 0 script, 1 k, 2 cell -/
abbrev s_L_tape : Stmt := topS 19
theorem sc_L_tape : FnScope ["_law_script", "_law_k", "_law_cell"] ["_law_script", "_law_k"] (defScope s_L_tape) := ⟨rfl, rfl, rfl, by decide +kernel, rfl, by decide +kernel, by decide +kernel⟩
def b_L_tape : MS := (mSeq (mSet 2 (mIf (mB (mOpV ltSD (mV 1) (mCB lenF (mA1 (mV 0) mA0)))) (mOpV ixD (mV 0) (mV 1)) (mC (.int 0))))
      (mRet (mLst (mD1 (mOp mulD (mCB absF (mA1 (mV 2) mA0)) (mCB intF (mA1 (mOpV geD (mCB absF (mA1 (mV 2) mA0)) (mOp powD (mC (.int 10)) (mC (.int 18)))) mA0))) (mD1 (mOp addD (mOp addD (mOp modD (mV 2) (mC (.int 2305843009213693951))) (mOp mulD (mC (.int 39373)) (mV 1))) (mC (.int 17))) (mD1 (mC (.int 0)) mD0))))))
def d_L_tape : ME := runF 2 3 b_L_tape
set_option maxRecDepth 100000 in
theorem ok_L_tape {f : Addr} {fd : FuncData} (F : Fun K "_law_tape" "_law_tape" s_L_tape f fd) (g : mg "_law_tape" = some (.ref f)) (b : Binds K fd ["_law_script", "_law_k"] []) (m_abs : mg "abs" = none) (m_int : mg "int" = none) (m_len : mg "len" = none) : Cal P w K mg base "_law_tape" s_L_tape 1 ["_law_script", "_law_k"] d_L_tape := by
  have sc := sc_L_tape
  exact cal_mk F sc g b rfl rfl fun cdv A outer s H E hr =>
    (show CSs _ (defBody s_L_tape) b_L_tape from
      (css_cons (cs_set sc.nd rfl (.inl rfl) (ce_if (ct_ltS (cv 1) (ce_len (by rfl) m_len (ca_cons (cv 0) ca_nil))) (ce_ix (cv 0) (cv 1)) ce_int))
      (css_one (cs_ret (ce_lst (cd_cons (ce_mul (ce_abs (by rfl) m_abs (ca_cons (cv 2) ca_nil)) (ce_intc (by rfl) m_int (ca_cons (ce_ge (ce_abs (by rfl) m_abs (ca_cons (cv 2) ca_nil)) (ce_pow ce_int ce_int)) ca_nil))) (cd_cons (ce_add (ce_add (ce_mod (cv 2) ce_int) (ce_mul ce_int (cv 1))) ce_int) (cd_cons ce_int cd_nil))))))))
/-! draw: 0 tape_here, 1 many, 2 found, 3 once, 4 twice, 5 wide -/
abbrev s_L_draw : Stmt := topS 20
theorem sc_L_draw : FnScope ["_law_tape_here", "_law_many", "_law_found", "_law_once", "_law_twice", "_law_wide"] ["_law_tape_here", "_law_many"] (defScope s_L_draw) := ⟨rfl, rfl, rfl, by decide +kernel, rfl, by decide +kernel, by decide +kernel⟩
def b_L_draw : MS := (mSeq (mIfS (mB (mOpV gtD (mOpV ixD (mV 0) (mC (.int 0))) (mC (.int 0)))) (mSeq (mSet 2 (mOp modD (mOpV ixD (mV 0) (mC (.int 0))) (mV 1)))
      (mSeq (mSetIx 0 (mOp fdivD (mOpV ixD (mV 0) (mC (.int 0))) (mV 1)) (mC (.int 0)))
      (mRet (mV 2)))) mNil)
      (mSeq (mSetIx 0 (mOp addD (mOpV ixD (mV 0) (mC (.int 2))) (mC (.int 1))) (mC (.int 2)))
      (mSeq (mSet 3 (mOp modD (mOp powD (mOp addD (mOpV ixD (mV 0) (mC (.int 1))) (mOp mulD (mC (.int 39373)) (mOpV ixD (mV 0) (mC (.int 2))))) (mC (.int 5))) (mC (.int 2147483647))))
      (mSeq (mSet 4 (mOp modD (mOp mulD (mOp addD (mV 3) (mOpV ixD (mV 0) (mC (.int 2)))) (mOp addD (mOp addD (mOp modD (mV 3) (mC (.int 40009))) (mC (.int 7))) (mOpV ixD (mV 0) (mC (.int 2))))) (mC (.int 2147483629))))
      (mSeq (mSet 5 (mOp modD (mOp addD (mOp addD (mOp fdivD (mOpV ixD (mV 0) (mC (.int 1))) (mC (.int 2147483647))) (mOp mulD (mV 4) (mC (.int 40009)))) (mOpV ixD (mV 0) (mC (.int 2)))) (mC (.int 2305843009213693951))))
      (mRet (mOp modD (mOp fdivD (mOp modD (mOp addD (mOp addD (mOp mulD (mV 4) (mC (.int 48271))) (mOp mulD (mV 5) (mC (.int 39373)))) (mV 3)) (mC (.int 2305843009213693921))) (mC (.int 64))) (mV 1))))))))
def d_L_draw : ME := runF 2 6 b_L_draw
set_option maxRecDepth 100000 in
theorem ok_L_draw {f : Addr} {fd : FuncData} (F : Fun K "_law_draw" "_law_draw" s_L_draw f fd) (g : mg "_law_draw" = some (.ref f)) (b : Binds K fd ["_law_tape_here", "_law_many"] []) : Cal P w K mg base "_law_draw" s_L_draw 1 ["_law_tape_here", "_law_many"] d_L_draw := by
  have sc := sc_L_draw
  exact cal_mk F sc g b rfl rfl fun cdv A outer s H E hr =>
    (show CSs _ (defBody s_L_draw) b_L_draw from
      (css_cons (cs_if (ct_gt (ce_ix (cv 0) ce_int) ce_int) (css_cons (cs_set sc.nd rfl (.inl rfl) (ce_mod (ce_ix (cv 0) ce_int) (cv 1)))
      (css_cons (cs_setIx (pv 0) ce_int (ce_fdiv (ce_ix (cv 0) ce_int) (cv 1)))
      (css_one (cs_ret (cv 2))))) css_nil)
      (css_cons (cs_setIx (pv 0) ce_int (ce_add (ce_ix (cv 0) ce_int) ce_int))
      (css_cons (cs_set sc.nd rfl (.inl rfl) (ce_mod (ce_pow (ce_add (ce_ix (cv 0) ce_int) (ce_mul ce_int (ce_ix (cv 0) ce_int))) ce_int) ce_int))
      (css_cons (cs_set sc.nd rfl (.inl rfl) (ce_mod (ce_mul (ce_add (cv 3) (ce_ix (cv 0) ce_int)) (ce_add (ce_add (ce_mod (cv 3) ce_int) ce_int) (ce_ix (cv 0) ce_int))) ce_int))
      (css_cons (cs_set sc.nd rfl (.inl rfl) (ce_mod (ce_add (ce_add (ce_fdiv (ce_ix (cv 0) ce_int) ce_int) (ce_mul (cv 4) ce_int)) (ce_ix (cv 0) ce_int)) ce_int))
      (css_one (cs_ret (ce_mod (ce_fdiv (ce_mod (ce_add (ce_add (ce_mul (cv 4) ce_int) (ce_mul (cv 5) ce_int)) (cv 3)) ce_int) ce_int) (cv 1))))))))))
/-! folded: 0 script, 1 many, 2 cells, 3 k, 4 cell -/
abbrev s_L_folded : Stmt := topS 21
theorem sc_L_folded : FnScope ["_law_script", "_law_many", "_law_cells", "_law_k", "_law_cell"] ["_law_script", "_law_many"] (defScope s_L_folded) := ⟨rfl, rfl, rfl, by decide +kernel, rfl, by decide +kernel, by decide +kernel⟩
def b_L_folded : MS := (mSeq (mSet 2 (mCB listF (mA1 (mSl (mV 0) mO0 (mO1 (mV 1))) mA0)))
      (mSeq (mFor (mEnumA (mD1 (mSl (mV 0) (mO1 (mV 1)) (mO1 (mC (.int 63)))) mD0)) (gT 2 (gs1 (gN 3) (gs1 (gN 4) gs0)))
      (mSetIx 2 (mOp addD (mOpV ixD (mV 2) (mOp modD (mV 3) (mV 1))) (mOp mulD (mV 4) (mOp addD (mV 3) (mC (.int 2))))) (mOp modD (mV 3) (mV 1))))
      (mRet (mV 2))))
def d_L_folded : ME := runF 2 5 b_L_folded
set_option maxRecDepth 100000 in
theorem ok_L_folded {f : Addr} {fd : FuncData} (F : Fun K "_law_folded" "_law_folded" s_L_folded f fd) (g : mg "_law_folded" = some (.ref f)) (b : Binds K fd ["_law_script", "_law_many"] []) (m_enumerate : mg "enumerate" = none) (m_list : mg "list" = none) : Cal P w K mg base "_law_folded" s_L_folded 1 ["_law_script", "_law_many"] d_L_folded := by
  have sc := sc_L_folded
  exact cal_mk F sc g b rfl rfl fun cdv A outer s H E hr =>
    (show CSs _ (defBody s_L_folded) b_L_folded from
      (css_cons (cs_set sc.nd rfl (.inl rfl) (ce_list (by rfl) m_list (ca_cons (ce_sl (cv 0) co_none (co_some (cv 1))) ca_nil)))
      (css_cons (cs_for PassesOwn.never rfl (ci_enumA (by rfl) m_enumerate (cd_cons (ce_sl (cv 0) (co_some (cv 1)) (co_some ce_int)) cd_nil)) (cg_tup rfl (cgs_cons (cg_name sc.nd rfl (.inl rfl)) (cgs_cons (cg_name sc.nd rfl (.inl rfl)) cgs_nil))) (css_one (cs_setIx (pv 2) (ce_mod (cv 3) (cv 1)) (ce_add (ce_ix (cv 2) (ce_mod (cv 3) (cv 1))) (ce_mul (cv 4) (ce_add (cv 3) ce_int))))))
      (css_one (cs_ret (cv 2))))))
/-! names: 0 tape_here, 1 many, 2 letters, 3 shift, 4 stem, 5 at, 6 step, 7 found, 8 head, 9 tail, 10 k, 11 way, 12 sign -/
abbrev s_L_names : Stmt := topS 22
theorem sc_L_names : FnScope ["_law_tape_here", "_law_many", "_law_letters", "_law_shift", "_law_stem", "_law_at", "_law_step", "_law_found", "_law_head", "_law_tail", "_law_k", "_law_way", "_law_sign"] ["_law_tape_here", "_law_many"] (defScope s_L_names) := ⟨rfl, rfl, rfl, by decide +kernel, rfl, by decide +kernel, by decide +kernel⟩
def b_L_names : MS := (mSeq (mPar [2, 3] (mP1 (mC (.str "abcdefghijklmnopqrstuvwxyz")) (mP1 (mCallIo d_L_draw 0 (mA1 (mC (.int 26)) mA0)) mA0)))
      (mSeq (mSet 4 (mSM joinF (mC (.str "")) (mA1 (mLc [10] (mRange1 (mD1 (mCallIo d_L_draw 0 (mA1 (mC (.int 8)) mA0)) mD0)) (gN 10) mYes (mOpV ixD (mV 2) (mCallIo d_L_draw 0 (mA1 (mC (.int 26)) mA0)))) mA0)))
      (mSeq (mPar [5, 6, 7] (mP1 (mCallIo d_L_draw 0 (mA1 (mOp addD (mCB lenF (mA1 (mV 4) mA0)) (mC (.int 1))) mA0)) (mP1 (mOpV ixD (mLst (mD1 (mC (.int 1)) (mD1 (mC (.int 7)) (mD1 (mC (.int 25)) mD0)))) (mCallIo d_L_draw 0 (mA1 (mC (.int 3)) mA0))) (mP1 (mLst mD0) mA0))))
      (mSeq (mPar [8, 9] (mP1 (mSl (mV 4) mO0 (mO1 (mV 5))) (mP1 (mSl (mV 4) (mO1 (mV 5)) mO0) mA0)))
      (mSeq (mFor (mRange1 (mD1 (mV 1) mD0)) (gN 10)
      (mSeq (mSet 11 (mOp mulD (mOp modD (mOp addD (mOp addD (mV 3) (mV 5)) (mCB lenF (mA1 (mV 4) mA0))) (mC (.int 3))) (mCB intF (mA1 (mOpV neD (mV 9) (mC (.str ""))) mA0))))
      (mSeq (mSet 12 (mOpV ixD (mV 2) (mOp modD (mOp addD (mV 3) (mOp mulD (mV 6) (mOpV ixD (mLst (mD1 (mV 10) (mD1 (mOp fdivD (mV 10) (mC (.int 2))) (mD1 (mV 10) mD0)))) (mV 11)))) (mC (.int 26)))))
      (mDrop (mMeth "list" appF 7 (mD1 (mOp addD (mOp addD (mV 8) (mV 12)) (mOpV ixD (mLst (mD1 (mV 9) (mD1 (mOp mulD (mV 9) (mOp modD (mV 10) (mC (.int 2)))) (mD1 (mSl (mV 9) mO0 (mO1 (mOp modD (mV 10) (mOp addD (mCB lenF (mA1 (mV 9) mA0)) (mC (.int 1)))))) mD0)))) (mV 11))) mD0))))))
      (mRet (mV 7)))))))
def d_L_names : ME := runF 2 13 b_L_names
set_option maxRecDepth 100000 in
theorem ok_L_names {f : Addr} {fd : FuncData} (F : Fun K "_law_names" "_law_names" s_L_names f fd) (g : mg "_law_names" = some (.ref f)) (b : Binds K fd ["_law_tape_here", "_law_many"] []) (C_L_draw : Cal P w K mg base "_law_draw" s_L_draw 1 ["_law_tape_here", "_law_many"] d_L_draw) (m_int : mg "int" = none) (m_len : mg "len" = none) (m_range : mg "range" = none) : Cal P w K mg base "_law_names" s_L_names 2 ["_law_tape_here", "_law_many"] d_L_names := by
  have sc := sc_L_names
  exact cal_mk F sc g b rfl rfl fun cdv A outer s H E hr =>
    (show CSs _ (defBody s_L_names) b_L_names from
      (css_cons (cs_parT rfl (.cons (pg_name sc.nd rfl (.inr rfl)) (by rfl) (.cons (pg_name sc.nd rfl (.inl rfl)) (by rfl) .nil)) (cp_cons ce_str (cp_cons (cc_callIo C_L_draw hr (by first | decide | omega) (by rfl) (pv 0) (ca_cons ce_int ca_nil)) cp_nil)) (by decide))
      (css_cons (cs_set sc.nd rfl (.inl rfl) (ce_join ce_str (ca_cons (ce_lc (own := [("_law_k", 10)]) (js := [10]) rfl sc.nd (ci_range1 (by rfl) m_range (cd_cons (cc_callIo C_L_draw hr (by first | decide | omega) (by rfl) (pv 0) (ca_cons ce_int ca_nil)) cd_nil)) (blkOk_by (by rfl)) (by decide) (fun _ _ _ _ _ => (cg_name sc.nd rfl (.inl rfl))) (fun _ _ _ _ _ => cts_nil) (fun _ _ _ _ _ => (ce_ix (cv 2) (cc_callIo C_L_draw hr (by first | decide | omega) (by rfl) (pv 0) (ca_cons ce_int ca_nil))))) ca_nil)))
      (css_cons (cs_par3 rfl sc.nd rfl rfl rfl (by decide) (by decide) (by decide) rfl rfl rfl (cp_cons (cc_callIo C_L_draw hr (by first | decide | omega) (by rfl) (pv 0) (ca_cons (ce_add (ce_len (by rfl) m_len (ca_cons (cv 4) ca_nil)) ce_int) ca_nil)) (cp_cons (ce_ix (ce_lst (cd_cons ce_int (cd_cons ce_int (cd_cons ce_int cd_nil)))) (cc_callIo C_L_draw hr (by first | decide | omega) (by rfl) (pv 0) (ca_cons ce_int ca_nil))) (cp_cons (ce_lst cd_nil) cp_nil))) (by rfl))
      (css_cons (cs_par rfl sc.nd rfl rfl (by decide) rfl rfl (cp_cons (ce_sl (cv 4) co_none (co_some (cv 5))) (cp_cons (ce_sl (cv 4) (co_some (cv 5)) co_none) cp_nil)) (by rfl))
      (css_cons (cs_for PassesOwn.never rfl (ci_range1 (by rfl) m_range (cd_cons (cv 1) cd_nil)) (cg_name sc.nd rfl (.inl rfl)) (css_cons (cs_set sc.nd rfl (.inl rfl) (ce_mul (ce_mod (ce_add (ce_add (cv 3) (cv 5)) (ce_len (by rfl) m_len (ca_cons (cv 4) ca_nil))) ce_int) (ce_intc (by rfl) m_int (ca_cons (ce_ne hr.r (cv 9) ce_str) ca_nil))))
      (css_cons (cs_set sc.nd rfl (.inl rfl) (ce_ix (cv 2) (ce_mod (ce_add (cv 3) (ce_mul (cv 6) (ce_ix (ce_lst (cd_cons (cv 10) (cd_cons (ce_fdiv (cv 10) ce_int) (cd_cons (cv 10) cd_nil)))) (cv 11)))) ce_int)))
      (css_one (cs_expr (ce_append (pv 7) (cd_cons (ce_add (ce_add (cv 8) (cv 12)) (ce_ix (ce_lst (cd_cons (cv 9) (cd_cons (ce_mul (cv 9) (ce_mod (cv 10) ce_int)) (cd_cons (ce_sl (cv 9) co_none (co_some (ce_mod (cv 10) (ce_add (ce_len (by rfl) m_len (ca_cons (cv 9) ca_nil)) ce_int)))) cd_nil)))) (cv 11))) cd_nil)))))))
      (css_one (cs_ret (cv 7)))))))))
/-! part: 0 tape_here, 1 some, 2 many, 3 left, 4 k -/
abbrev s_L_part : Stmt := topS 23
theorem sc_L_part : FnScope ["_law_tape_here", "_law_some", "_law_many", "_law_left", "_law_k"] ["_law_tape_here", "_law_some", "_law_many"] (defScope s_L_part) := ⟨rfl, rfl, rfl, by decide +kernel, rfl, by decide +kernel, by decide +kernel⟩
def b_L_part : MS := (mSeq (mSet 3 (mCB listF (mA1 (mV 1) mA0)))
      (mRet (mLc [4] (mRange1 (mD1 (mV 2) mD0)) (gN 4) mYes (mMeth "list" pop1F 3 (mD1 (mCallIo d_L_draw 0 (mA1 (mCB lenF (mA1 (mV 3) mA0)) mA0)) mD0)))))
def d_L_part : ME := runF 3 5 b_L_part
set_option maxRecDepth 100000 in
theorem ok_L_part {f : Addr} {fd : FuncData} (F : Fun K "_law_part" "_law_part" s_L_part f fd) (g : mg "_law_part" = some (.ref f)) (b : Binds K fd ["_law_tape_here", "_law_some", "_law_many"] []) (C_L_draw : Cal P w K mg base "_law_draw" s_L_draw 1 ["_law_tape_here", "_law_many"] d_L_draw) (m_len : mg "len" = none) (m_list : mg "list" = none) (m_range : mg "range" = none) : Cal P w K mg base "_law_part" s_L_part 2 ["_law_tape_here", "_law_some", "_law_many"] d_L_part := by
  have sc := sc_L_part
  exact cal_mk F sc g b rfl rfl fun cdv A outer s H E hr =>
    (show CSs _ (defBody s_L_part) b_L_part from
      (css_cons (cs_set sc.nd rfl (.inr rfl) (ce_list (by rfl) m_list (ca_cons (cv 1) ca_nil)))
      (css_one (cs_ret (ce_lc (own := [("_law_k", 4)]) (js := [4]) rfl sc.nd (ci_range1 (by rfl) m_range (cd_cons (cv 2) cd_nil)) (blkOk_by (by rfl)) (by decide) (fun _ _ _ _ _ => (cg_name sc.nd rfl (.inl rfl))) (fun _ _ _ _ _ => cts_nil) (fun _ _ _ _ _ => (ce_pop1 (pv 3) (cd_cons (cc_callIo C_L_draw hr (by first | decide | omega) (by rfl) (pv 0) (ca_cons (ce_len (by rfl) m_len (ca_cons (cv 3) ca_nil)) ca_nil)) cd_nil))))))))
/-! same: 0 found, 1 due, 2 one, 3 other -/
abbrev s_L_same : Stmt := topS 24
theorem sc_L_same : FnScope ["_law_found", "_law_due", "_law_one", "_law_other"] ["_law_found", "_law_due"] (defScope s_L_same) := ⟨rfl, rfl, rfl, by decide +kernel, rfl, by decide +kernel, by decide +kernel⟩
def b_L_same (rec : ME) : MS := (mSeq (mIfS (mT (mIs ["list", "tuple"] (mV 1))) (mSeq (mIfS (mOr (mB (mOpV neD (mIs ["list"] (mV 0)) (mIs ["list"] (mV 1)))) (mB (mOpV neD (mIs ["tuple"] (mV 0)) (mIs ["tuple"] (mV 1))))) (mRet (mC (.bool false))) mNil)
      (mRet (mAndV (mOpV eqD (mCB lenF (mA1 (mV 0) mA0)) (mCB lenF (mA1 (mV 1) mA0))) (mCB allF (mA1 (mLc [2, 3] (mZip (mD1 (mV 0) (mD1 (mV 1) mD0))) (gT 2 (gs1 (gN 2) (gs1 (gN 3) gs0))) mYes (mCall rec (mA1 (mV 2) (mA1 (mV 3) mA0)))) mA0))))) mNil)
      (mSeq (mIfS (mOr (mB (mIsN false (mV 1))) (mT (mIs ["str", "bool"] (mV 1)))) (mRet (mAndV (mOpV eqD (mIs ["bool"] (mV 0)) (mIs ["bool"] (mV 1))) (mOpV eqD (mV 0) (mV 1)))) mNil)
      (mRet (mAndV (mIs ["int"] (mV 0)) (mAndV (mNotV (mIs ["bool"] (mV 0))) (mOpV eqD (mV 0) (mV 1)))))))
def d_L_same : Nat → ME
  | 0 => runF 2 4 mNever
  | k + 1 => runF 2 4 (b_L_same (d_L_same k))
set_option maxRecDepth 100000 in
theorem ok_L_same {f : Addr} {fd : FuncData} (F : Fun K "_law_same" "_law_same" s_L_same f fd) (g : mg "_law_same" = some (.ref f)) (b : Binds K fd ["_law_found", "_law_due"] []) (m_all : mg "all" = none) (m_bool : mg "bool" = none) (m_int : mg "int" = none) (m_isinstance : mg "isinstance" = none) (m_len : mg "len" = none) (m_list : mg "list" = none) (m_str : mg "str" = none) (m_tuple : mg "tuple" = none) (m_zip : mg "zip" = none) : ∀ n, Cal P w K mg base "_law_same" s_L_same (n + 1) ["_law_found", "_law_due"] (d_L_same n)
  | 0 => by
    have sc := sc_L_same
    have h : Cal P w K mg base "_law_same" s_L_same (0 + 1) ["_law_found", "_law_due"] (d_L_same 0) := cal_mk F sc g b rfl rfl fun cdv A outer s H E hr => css_never
    simpa using h
  | n + 1 => by
    have sc := sc_L_same
    have C_L_same := ok_L_same F g b m_all m_bool m_int m_isinstance m_len m_list m_str m_tuple m_zip n
    have h : Cal P w K mg base "_law_same" s_L_same ((n + 1) + 1) ["_law_found", "_law_due"] (d_L_same (n + 1)) := cal_mk F sc g b rfl rfl fun cdv A outer s H E hr =>
      (show CSs _ (defBody s_L_same) (b_L_same (d_L_same n)) from
      (css_cons (cs_if (ct_tru (ce_isT (by rfl) m_isinstance (cv 1) (.cons (by rfl) m_list PyProof.Rows.boot_list (by decide) (by decide) (by rfl) (.cons (by rfl) m_tuple PyProof.Rows.boot_tuple (by decide) (by decide) (by rfl) .nil)) (by decide +kernel) (by decide))) (css_cons (cs_if (ct_w (cw_or (ct_ne hr.r (ce_is1 (by rfl) m_isinstance (cv 0) (by rfl) m_list PyProof.Rows.boot_list (by decide +kernel)) (ce_is1 (by rfl) m_isinstance (cv 1) (by rfl) m_list PyProof.Rows.boot_list (by decide +kernel))) (cw_or1 (ct_ne hr.r (ce_is1 (by rfl) m_isinstance (cv 0) (by rfl) m_tuple PyProof.Rows.boot_tuple (by decide +kernel)) (ce_is1 (by rfl) m_isinstance (cv 1) (by rfl) m_tuple PyProof.Rows.boot_tuple (by decide +kernel)))))) (css_one (cs_ret ce_bl)) css_nil)
      (css_one (cs_ret (ce_and (ce_eq hr.r (ce_len (by rfl) m_len (ca_cons (cv 0) ca_nil)) (ce_len (by rfl) m_len (ca_cons (cv 1) ca_nil))) (ce_one (ce_all rfl (by rfl) m_all (ca_cons (ce_lc (own := [("_law_one", 2), ("_law_other", 3)]) (js := [2, 3]) rfl sc.nd (ci_zip (by rfl) m_zip (cd_cons (cv 0) (cd_cons (cv 1) cd_nil))) (blkOk_by (by rfl)) (by decide) (fun _ _ _ _ _ => (cg_tup rfl (cgs_cons (cg_name sc.nd rfl (.inl rfl)) (cgs_cons (cg_name sc.nd rfl (.inl rfl)) cgs_nil)))) (fun _ _ _ _ _ => cts_nil) (fun _ _ _ _ _ => (cc_call C_L_same hr (by first | decide | omega) (by rfl) (ca_cons (cv 2) (ca_cons (cv 3) ca_nil))))) ca_nil))))))) css_nil)
      (css_cons (cs_if (ct_w (cw_or (ct_isN (cv 1)) (cw_or1 (ct_tru (ce_isT (by rfl) m_isinstance (cv 1) (.cons (by rfl) m_str PyProof.Rows.boot_str (by decide) (by decide) (by rfl) (.cons (by rfl) m_bool PyProof.Rows.boot_bool (by decide) (by decide) (by rfl) .nil)) (by decide +kernel) (by decide)))))) (css_one (cs_ret (ce_and (ce_eq hr.r (ce_is1 (by rfl) m_isinstance (cv 0) (by rfl) m_bool PyProof.Rows.boot_bool (by decide +kernel)) (ce_is1 (by rfl) m_isinstance (cv 1) (by rfl) m_bool PyProof.Rows.boot_bool (by decide +kernel))) (ce_one (ce_eq hr.r (cv 0) (cv 1)))))) css_nil)
      (css_one (cs_ret (ce_and (ce_is1 (by rfl) m_isinstance (cv 0) (by rfl) m_int PyProof.Rows.boot_int (by decide +kernel)) (ce_and (ce_not (ce_is1 (by rfl) m_isinstance (cv 0) (by rfl) m_bool PyProof.Rows.boot_bool (by decide +kernel))) (ce_one (ce_eq hr.r (cv 0) (cv 1))))))))))
    have e : n + 1 + 1 = n + 1 + 1 := by omega
    rw [e] at h; exact h
/-! facets: 0 tape_here, 1 many, 2 most, 3 found, 4 name, 5 words -/
abbrev s_L_facets : Stmt := topS 25
theorem sc_L_facets : FnScope ["_law_tape_here", "_law_many", "_law_most", "_law_found", "_law_name", "_law_words"] ["_law_tape_here", "_law_many", "_law_most"] (defScope s_L_facets) := ⟨rfl, rfl, rfl, by decide +kernel, rfl, by decide +kernel, by decide +kernel⟩
def b_L_facets : MS := (mSeq (mSet 3 (mLst mD0))
      (mSeq (mFor (mItems (mCB sortF2 (mA1 (mCallIo d_L_names 0 (mA1 (mV 1) mA0)) mA0))) (gN 4)
      (mSeq (mSet 5 (mCB tupF (mA1 (mCB sortF2 (mA1 (mCallIo d_L_names 0 (mA1 (mOp addD (mC (.int 2)) (mCallIo d_L_draw 0 (mA1 (mOp subD (mV 2) (mC (.int 1))) mA0))) mA0)) mA0)) mA0)))
      (mDrop (mMeth "list" appF 3 (mD1 (mTup (mD1 (mV 4) (mD1 (mIf (mAnd (mB (mOpV neD (mV 3) (mLst mD0))) (mB (mOpV eqD (mCallIo d_L_draw 0 (mA1 (mC (.int 4)) mA0)) (mC (.int 0))))) (mOpV ixD (mOpV ixD (mV 3) (mUn negD (mC (.int 1)))) (mC (.int 1))) (mV 5)) mD0))) mD0)))))
      (mRet (mCB tupF (mA1 (mV 3) mA0)))))
def d_L_facets : ME := runF 3 6 b_L_facets
set_option maxRecDepth 100000 in
theorem ok_L_facets {f : Addr} {fd : FuncData} (F : Fun K "_law_facets" "_law_facets" s_L_facets f fd) (g : mg "_law_facets" = some (.ref f)) (b : Binds K fd ["_law_tape_here", "_law_many", "_law_most"] []) (C_L_names : Cal P w K mg base "_law_names" s_L_names 2 ["_law_tape_here", "_law_many"] d_L_names) (C_L_draw : Cal P w K mg base "_law_draw" s_L_draw 1 ["_law_tape_here", "_law_many"] d_L_draw) (m_sorted : mg "sorted" = none) (m_tuple : mg "tuple" = none) : Cal P w K mg base "_law_facets" s_L_facets 3 ["_law_tape_here", "_law_many", "_law_most"] d_L_facets := by
  have sc := sc_L_facets
  exact cal_mk F sc g b rfl rfl fun cdv A outer s H E hr =>
    (show CSs _ (defBody s_L_facets) b_L_facets from
      (css_cons (cs_set sc.nd rfl (.inl rfl) (ce_lst cd_nil))
      (css_cons (cs_for PassesOwn.never rfl (ci_items (ce_sort2 rfl (Zl.ru hr.r) (by rfl) m_sorted (ca_cons (cc_callIo C_L_names hr (by first | decide | omega) (by rfl) (pv 0) (ca_cons (cv 1) ca_nil)) ca_nil))) (cg_name sc.nd rfl (.inl rfl)) (css_cons (cs_set sc.nd rfl (.inl rfl) (ce_tuple (by rfl) m_tuple (ca_cons (ce_sort2 rfl (Zl.ru hr.r) (by rfl) m_sorted (ca_cons (cc_callIo C_L_names hr (by first | decide | omega) (by rfl) (pv 0) (ca_cons (ce_add ce_int (cc_callIo C_L_draw hr (by first | decide | omega) (by rfl) (pv 0) (ca_cons (ce_sub (cv 2) ce_int) ca_nil))) ca_nil)) ca_nil)) ca_nil)))
      (css_one (cs_expr (ce_append (pv 3) (cd_cons (ce_tup (cd_cons (cv 4) (cd_cons (ce_if (ct_w (cw_and (ct_ne hr.r (cv 3) (ce_lst cd_nil)) (cw_and1 (ct_eq hr.r (cc_callIo C_L_draw hr (by first | decide | omega) (by rfl) (pv 0) (ca_cons ce_int ca_nil)) ce_int)))) (ce_ix (ce_ix (cv 3) (ce_neg ce_int)) ce_int) (cv 5)) cd_nil))) cd_nil))))))
      (css_one (cs_ret (ce_tuple (by rfl) m_tuple (ca_cons (cv 3) ca_nil)))))))
/-! when: 0 tape_here, 1 its_facets, 2 deep, 3 way, 4 facet, 5 words, 6 one -/
abbrev s_L_when : Stmt := topS 26
theorem sc_L_when : FnScope ["_law_tape_here", "_law_its_facets", "_law_deep", "_law_way", "_law_facet", "_law_words", "_law_one"] ["_law_tape_here", "_law_its_facets", "_law_deep"] (defScope s_L_when) := ⟨rfl, rfl, rfl, by decide +kernel, rfl, by decide +kernel, by decide +kernel⟩
def b_L_when (rec : ME) : MS := (mSeq (mSet 3 (mCallIo d_L_draw 0 (mA1 (mC (.int 6)) mA0)))
      (mSeq (mIfS (mOr (mB (mOpV ltSD (mV 2) (mC (.int 2)))) (mB (mOpV ltSD (mV 3) (mC (.int 2))))) (mSeq (mIfS (mB (mOpV eqD (mCallIo d_L_draw 0 (mA1 (mC (.int 8)) mA0)) (mC (.int 0)))) (mRet (mTup (mD1 (mC (.str "always")) mD0))) mNil)
      (mSeq (mAsg (gT 2 (gs1 (gN 4) (gs1 (gN 5) gs0))) (mOpV ixD (mV 1) (mCallIo d_L_draw 0 (mA1 (mCB lenF (mA1 (mV 1) mA0)) mA0))))
      (mRet (mTup (mD1 (mC (.str "is")) (mD1 (mV 4) (mD1 (mCB tupF (mA1 (mCB sortF2 (mA1 (mCallIo d_L_part 0 (mA1 (mV 5) (mA1 (mOp addD (mC (.int 1)) (mCallIo d_L_draw 0 (mA1 (mCB lenF (mA1 (mV 5) mA0)) mA0))) mA0))) mA0)) mA0)) mD0))))))) mNil)
      (mSeq (mIfS (mB (mOpV eqD (mV 3) (mC (.int 2)))) (mRet (mTup (mD1 (mC (.str "not")) (mD1 (mCallIo rec 0 (mA1 (mV 1) (mA1 (mOp subD (mV 2) (mC (.int 1))) mA0))) mD0)))) mNil)
      (mSeq (mSet 6 (mCallIo rec 0 (mA1 (mV 1) (mA1 (mOp subD (mV 2) (mC (.int 1))) mA0))))
      (mRet (mTup (mD1 (mOpV ixD (mLst (mD1 (mC (.str "both")) (mD1 (mC (.str "either")) mD0))) (mOp modD (mV 3) (mC (.int 2)))) (mD1 (mV 6) (mD1 (mCallIo rec 0 (mA1 (mV 1) (mA1 (mCB minF (mA1 (mC (.int 2)) (mA1 (mOp subD (mV 2) (mC (.int 1))) mA0))) mA0))) mD0)))))))))
def d_L_when : Nat → ME
  | 0 => runF 3 7 mNever
  | k + 1 => runF 3 7 (b_L_when (d_L_when k))
set_option maxRecDepth 100000 in
theorem ok_L_when {f : Addr} {fd : FuncData} (F : Fun K "_law_when" "_law_when" s_L_when f fd) (g : mg "_law_when" = some (.ref f)) (b : Binds K fd ["_law_tape_here", "_law_its_facets", "_law_deep"] []) (C_L_draw : Cal P w K mg base "_law_draw" s_L_draw 1 ["_law_tape_here", "_law_many"] d_L_draw) (C_L_part : Cal P w K mg base "_law_part" s_L_part 2 ["_law_tape_here", "_law_some", "_law_many"] d_L_part) (m_len : mg "len" = none) (m_min : mg "min" = none) (m_sorted : mg "sorted" = none) (m_tuple : mg "tuple" = none) : ∀ n, Cal P w K mg base "_law_when" s_L_when (n + 3) ["_law_tape_here", "_law_its_facets", "_law_deep"] (d_L_when n)
  | 0 => by
    have sc := sc_L_when
    have h : Cal P w K mg base "_law_when" s_L_when (2 + 1) ["_law_tape_here", "_law_its_facets", "_law_deep"] (d_L_when 0) := cal_mk F sc g b rfl rfl fun cdv A outer s H E hr => css_never
    simpa using h
  | n + 1 => by
    have sc := sc_L_when
    have C_L_when := ok_L_when F g b C_L_draw C_L_part m_len m_min m_sorted m_tuple n
    have h : Cal P w K mg base "_law_when" s_L_when ((n + 3) + 1) ["_law_tape_here", "_law_its_facets", "_law_deep"] (d_L_when (n + 1)) := cal_mk F sc g b rfl rfl fun cdv A outer s H E hr =>
      (show CSs _ (defBody s_L_when) (b_L_when (d_L_when n)) from
      (css_cons (cs_set sc.nd rfl (.inl rfl) (cc_callIo C_L_draw hr (by first | decide | omega) (by rfl) (pv 0) (ca_cons ce_int ca_nil)))
      (css_cons (cs_if (ct_w (cw_or (ct_ltS (cv 2) ce_int) (cw_or1 (ct_ltS (cv 3) ce_int)))) (css_cons (cs_if (ct_eq hr.r (cc_callIo C_L_draw hr (by first | decide | omega) (by rfl) (pv 0) (ca_cons ce_int ca_nil)) ce_int) (css_one (cs_ret (ce_tup (cd_cons ce_str cd_nil)))) css_nil)
      (css_cons (cs_asg (ce_ix (cv 1) (cc_callIo C_L_draw hr (by first | decide | omega) (by rfl) (pv 0) (ca_cons (ce_len (by rfl) m_len (ca_cons (cv 1) ca_nil)) ca_nil))) (cg_tup rfl (cgs_cons (cg_name sc.nd rfl (.inl rfl)) (cgs_cons (cg_name sc.nd rfl (.inl rfl)) cgs_nil))))
      (css_one (cs_ret (ce_tup (cd_cons ce_str (cd_cons (cv 4) (cd_cons (ce_tuple (by rfl) m_tuple (ca_cons (ce_sort2 rfl (Zl.ru hr.r) (by rfl) m_sorted (ca_cons (cc_callIo C_L_part hr (by first | decide | omega) (by rfl) (pv 0) (ca_cons (cv 5) (ca_cons (ce_add ce_int (cc_callIo C_L_draw hr (by first | decide | omega) (by rfl) (pv 0) (ca_cons (ce_len (by rfl) m_len (ca_cons (cv 5) ca_nil)) ca_nil))) ca_nil))) ca_nil)) ca_nil)) cd_nil)))))))) css_nil)
      (css_cons (cs_if (ct_eq hr.r (cv 3) ce_int) (css_one (cs_ret (ce_tup (cd_cons ce_str (cd_cons (cc_callIo C_L_when hr (by first | decide | omega) (by rfl) (pv 0) (ca_cons (cv 1) (ca_cons (ce_sub (cv 2) ce_int) ca_nil))) cd_nil))))) css_nil)
      (css_cons (cs_set sc.nd rfl (.inl rfl) (cc_callIo C_L_when hr (by first | decide | omega) (by rfl) (pv 0) (ca_cons (cv 1) (ca_cons (ce_sub (cv 2) ce_int) ca_nil))))
      (css_one (cs_ret (ce_tup (cd_cons (ce_ix (ce_lst (cd_cons ce_str (cd_cons ce_str cd_nil))) (ce_mod (cv 3) ce_int)) (cd_cons (cv 6) (cd_cons (cc_callIo C_L_when hr (by first | decide | omega) (by rfl) (pv 0) (ca_cons (cv 1) (ca_cons (ce_min2 rfl (by rfl) m_min (ca_cons ce_int (ca_cons (ce_sub (cv 2) ce_int) ca_nil))) ca_nil))) cd_nil)))))))))))
    have e : n + 3 + 1 = n + 1 + 3 := by omega
    rw [e] at h; exact h
/-! rises: 0 some, 1 one, 2 other -/
abbrev s_L_rises : Stmt := topS 27
theorem sc_L_rises : FnScope ["_law_some", "_law_one", "_law_other"] ["_law_some"] (defScope s_L_rises) := ⟨rfl, rfl, rfl, by decide +kernel, rfl, by decide +kernel, by decide +kernel⟩
def b_L_rises : MS := (mRet (mCB allF (mA1 (mLc [1, 2] (mZip (mD1 (mV 0) (mD1 (mSl (mV 0) (mO1 (mC (.int 1))) mO0) mD0))) (gT 2 (gs1 (gN 1) (gs1 (gN 2) gs0))) mYes (mOpV ltSD (mV 1) (mV 2))) mA0)))
def d_L_rises : ME := runF 1 3 b_L_rises
set_option maxRecDepth 100000 in
theorem ok_L_rises {f : Addr} {fd : FuncData} (F : Fun K "_law_rises" "_law_rises" s_L_rises f fd) (g : mg "_law_rises" = some (.ref f)) (b : Binds K fd ["_law_some"] []) (m_all : mg "all" = none) (m_zip : mg "zip" = none) : Cal P w K mg base "_law_rises" s_L_rises 1 ["_law_some"] d_L_rises := by
  have sc := sc_L_rises
  exact cal_mk F sc g b rfl rfl fun cdv A outer s H E hr =>
    (show CSs _ (defBody s_L_rises) b_L_rises from
      (css_one (cs_ret (ce_all rfl (by rfl) m_all (ca_cons (ce_lc (own := [("_law_one", 1), ("_law_other", 2)]) (js := [1, 2]) rfl sc.nd (ci_zip (by rfl) m_zip (cd_cons (cv 0) (cd_cons (ce_sl (cv 0) (co_some ce_int) co_none) cd_nil))) (blkOk_by (by rfl)) (by decide) (fun _ _ _ _ _ => (cg_tup rfl (cgs_cons (cg_name sc.nd rfl (.inl rfl)) (cgs_cons (cg_name sc.nd rfl (.inl rfl)) cgs_nil)))) (fun _ _ _ _ _ => cts_nil) (fun _ _ _ _ _ => (ce_ltS (cv 1) (cv 2)))) ca_nil)))))
/-! when_size: 0 its_facets, 1 its_thing, 2 deep, 3 sizes, 4 words, 5 counts, 6 pair, 7 word, 8 part_here -/
abbrev s_L_when_size : Stmt := topS 28
theorem sc_L_when_size : FnScope ["_law_its_facets", "_law_its_thing", "_law_deep", "_law_sizes", "_law_words", "_law_counts", "_law_pair", "_law_word", "_law_part_here"] ["_law_its_facets", "_law_its_thing", "_law_deep"] (defScope s_L_when_size) := ⟨rfl, rfl, rfl, by decide +kernel, rfl, by decide +kernel, by decide +kernel⟩
def b_L_when_size (rec : ME) : MS := (mSeq (mSet 3 (mDict (mDD1 (mC (.str "always")) (mC (.int 1)) (mDD1 (mC (.str "is")) (mC (.int 3)) (mDD1 (mC (.str "not")) (mC (.int 2)) (mDD1 (mC (.str "both")) (mC (.int 3)) (mDD1 (mC (.str "either")) (mC (.int 3)) mDD0)))))))
      (mSeq (mIfS (mOr (mB (mOpV eqD (mV 2) (mC (.int 0)))) (mOr (mNot (mT (mIs ["tuple"] (mV 1)))) (mOr (mB (mOpV eqD (mV 1) (mTup mD0))) (mNot (mT (mIs ["str"] (mOpV ixD (mV 1) (mC (.int 0))))))))) (mRet (mC (.int 0))) mNil)
      (mSeq (mIfS (mB (mOpV neD (mGet2 (mV 3) (mOpV ixD (mV 1) (mC (.int 0))) (mC (.int 0))) (mCB lenF (mA1 (mV 1) mA0)))) (mRet (mC (.int 0))) mNil)
      (mSeq (mIfS (mB (mOpV eqD (mOpV ixD (mV 1) (mC (.int 0))) (mC (.str "is")))) (mSeq (mSet 4 (mLc [6] (mItems (mV 0)) (gN 6) (mAnd (mT (mIs ["str"] (mOpV ixD (mV 1) (mC (.int 1))))) (mB (mOpV eqD (mOpV ixD (mV 6) (mC (.int 0))) (mOpV ixD (mV 1) (mC (.int 1)))))) (mOpV ixD (mV 6) (mC (.int 1)))))
      (mSeq (mIfS (mOr (mB (mOpV eqD (mV 4) (mLst mD0))) (mOr (mNot (mT (mIs ["tuple"] (mOpV ixD (mV 1) (mC (.int 2)))))) (mB (mOpV eqD (mOpV ixD (mV 1) (mC (.int 2))) (mTup mD0))))) (mRet (mC (.int 0))) mNil)
      (mSeq (mIfS (mNot (mT (mCB allF (mA1 (mLc [7] (mItems (mOpV ixD (mV 1) (mC (.int 2)))) (gN 7) mYes (mAndV (mIs ["str"] (mV 7)) (mOpV inD (mV 7) (mOpV ixD (mV 4) (mC (.int 0)))))) mA0)))) (mRet (mC (.int 0))) mNil)
      (mRet (mCB intF (mA1 (mCall d_L_rises (mA1 (mOpV ixD (mV 1) (mC (.int 2))) mA0)) mA0)))))) mNil)
      (mSeq (mSet 5 (mLc [8] (mItems (mSl (mV 1) (mO1 (mC (.int 1))) mO0)) (gN 8) mYes (mCall rec (mA1 (mV 0) (mA1 (mV 8) (mA1 (mOp subD (mV 2) (mC (.int 1))) mA0))))))
      (mRet (mIf (mB (mOpV inD (mC (.int 0)) (mV 5))) (mC (.int 0)) (mOp addD (mC (.int 1)) (mCB sumF (mA1 (mV 5) mA0))))))))))
def d_L_when_size : Nat → ME
  | 0 => runF 3 9 mNever
  | k + 1 => runF 3 9 (b_L_when_size (d_L_when_size k))
set_option maxRecDepth 100000 in
theorem ok_L_when_size {f : Addr} {fd : FuncData} (F : Fun K "_law_when_size" "_law_when_size" s_L_when_size f fd) (g : mg "_law_when_size" = some (.ref f)) (b : Binds K fd ["_law_its_facets", "_law_its_thing", "_law_deep"] []) (C_L_rises : Cal P w K mg base "_law_rises" s_L_rises 1 ["_law_some"] d_L_rises) (m_all : mg "all" = none) (m_int : mg "int" = none) (m_isinstance : mg "isinstance" = none) (m_len : mg "len" = none) (m_str : mg "str" = none) (m_sum : mg "sum" = none) (m_tuple : mg "tuple" = none) : ∀ n, Cal P w K mg base "_law_when_size" s_L_when_size (n + 2) ["_law_its_facets", "_law_its_thing", "_law_deep"] (d_L_when_size n)
  | 0 => by
    have sc := sc_L_when_size
    have h : Cal P w K mg base "_law_when_size" s_L_when_size (1 + 1) ["_law_its_facets", "_law_its_thing", "_law_deep"] (d_L_when_size 0) := cal_mk F sc g b rfl rfl fun cdv A outer s H E hr => css_never
    simpa using h
  | n + 1 => by
    have sc := sc_L_when_size
    have C_L_when_size := ok_L_when_size F g b C_L_rises m_all m_int m_isinstance m_len m_str m_sum m_tuple n
    have h : Cal P w K mg base "_law_when_size" s_L_when_size ((n + 2) + 1) ["_law_its_facets", "_law_its_thing", "_law_deep"] (d_L_when_size (n + 1)) := cal_mk F sc g b rfl rfl fun cdv A outer s H E hr =>
      (show CSs _ (defBody s_L_when_size) (b_L_when_size (d_L_when_size n)) from
      (css_cons (cs_set sc.nd rfl (.inl rfl) (ce_disp (cdd_cons ce_str ce_int (cdd_cons ce_str ce_int (cdd_cons ce_str ce_int (cdd_cons ce_str ce_int (cdd_cons ce_str ce_int cdd_nil)))))))
      (css_cons (cs_if (ct_w (cw_or (ct_eq hr.r (cv 2) ce_int) (cw_or (ct_not (ct_tru (ce_is1 (by rfl) m_isinstance (cv 1) (by rfl) m_tuple PyProof.Rows.boot_tuple (by decide +kernel)))) (cw_or (ct_eq hr.r (cv 1) (ce_tup cd_nil)) (cw_or1 (ct_not (ct_tru (ce_is1 (by rfl) m_isinstance (ce_ix (cv 1) ce_int) (by rfl) m_str PyProof.Rows.boot_str (by decide +kernel))))))))) (css_one (cs_ret ce_int)) css_nil)
      (css_cons (cs_if (ct_ne hr.r (ce_get2 (Zl.ru64 hr.r) (cv 3) (ce_ix (cv 1) ce_int) ce_int ⟨by rfl, by rfl, by rfl, by rfl⟩) (ce_len (by rfl) m_len (ca_cons (cv 1) ca_nil))) (css_one (cs_ret ce_int)) css_nil)
      (css_cons (cs_if (ct_eq hr.r (ce_ix (cv 1) ce_int) ce_str) (css_cons (cs_set sc.nd rfl (.inr rfl) (ce_lc (own := [("_law_pair", 6)]) (js := [6]) rfl sc.nd (ci_items (cv 0)) (blkOk_by (by rfl)) (by decide) (fun _ _ _ _ _ => (cg_name sc.nd rfl (.inl rfl))) (fun _ _ _ _ _ => cts_one (ct_w (cw_and (ct_tru (ce_is1 (by rfl) m_isinstance (ce_ix (cv 1) ce_int) (by rfl) m_str PyProof.Rows.boot_str (by decide +kernel))) (cw_and1 (ct_eq hr.r (ce_ix (cv 6) ce_int) (ce_ix (cv 1) ce_int)))))) (fun _ _ _ _ _ => (ce_ix (cv 6) ce_int))))
      (css_cons (cs_if (ct_w (cw_or (ct_eq hr.r (cv 4) (ce_lst cd_nil)) (cw_or (ct_not (ct_tru (ce_is1 (by rfl) m_isinstance (ce_ix (cv 1) ce_int) (by rfl) m_tuple PyProof.Rows.boot_tuple (by decide +kernel)))) (cw_or1 (ct_eq hr.r (ce_ix (cv 1) ce_int) (ce_tup cd_nil)))))) (css_one (cs_ret ce_int)) css_nil)
      (css_cons (cs_if (ct_not (ct_tru (ce_all rfl (by rfl) m_all (ca_cons (ce_lc (own := [("_law_word", 7)]) (js := [7]) rfl sc.nd (ci_items (ce_ix (cv 1) ce_int)) (blkOk_by (by rfl)) (by decide) (fun _ _ _ _ _ => (cg_name sc.nd rfl (.inl rfl))) (fun _ _ _ _ _ => cts_nil) (fun _ _ _ _ _ => (ce_and (ce_is1 (by rfl) m_isinstance (cv 7) (by rfl) m_str PyProof.Rows.boot_str (by decide +kernel)) (ce_one (ce_in hr.r (cv 7) (ce_ix (cv 4) ce_int)))))) ca_nil)))) (css_one (cs_ret ce_int)) css_nil)
      (css_one (cs_ret (ce_intc (by rfl) m_int (ca_cons (cc_call C_L_rises hr (by first | decide | omega) (by rfl) (ca_cons (ce_ix (cv 1) ce_int) ca_nil)) ca_nil))))))) css_nil)
      (css_cons (cs_setLc (own := [("_law_part_here", 8)]) (js := [8]) rfl sc.nd rfl rfl (sw_true rfl rfl rfl (by decide +kernel)) (ci_items (ce_sl (cv 1) (co_some ce_int) co_none)) (blkOk_by (by rfl)) (by decide) (fun _ _ _ _ _ => (cg_name sc.nd rfl (.inl rfl))) (fun _ _ _ _ _ => cts_nil) (fun _ _ _ _ _ => (cc_call C_L_when_size hr (by first | decide | omega) (by rfl) (ca_cons (cv 0) (ca_cons (cv 8) (ca_cons (ce_sub (cv 2) ce_int) ca_nil))))))
      (css_one (cs_ret (ce_if (ct_in hr.r ce_int (cv 5)) ce_int (ce_add ce_int (ce_sum rfl (by rfl) m_sum (ca_cons (cv 5) ca_nil))))))))))))
    have e : n + 2 + 1 = n + 1 + 2 := by omega
    rw [e] at h; exact h
/-! is_when: 0 its_facets, 1 its_thing -/
abbrev s_L_is_when : Stmt := topS 29
theorem sc_L_is_when : FnScope ["_law_its_facets", "_law_its_thing"] ["_law_its_facets", "_law_its_thing"] (defScope s_L_is_when) := ⟨rfl, rfl, rfl, by decide +kernel, rfl, by decide +kernel, by decide +kernel⟩
def b_L_is_when : MS := (mRet (mChain leD leD (mC (.int 1)) (mCall (d_L_when_size 40) (mA1 (mV 0) (mA1 (mV 1) (mA1 (mC (.int 4)) mA0)))) (mC (.int 8))))
def d_L_is_when : ME := runF 2 2 b_L_is_when
set_option maxRecDepth 100000 in
theorem ok_L_is_when {f : Addr} {fd : FuncData} (F : Fun K "_law_is_when" "_law_is_when" s_L_is_when f fd) (g : mg "_law_is_when" = some (.ref f)) (b : Binds K fd ["_law_its_facets", "_law_its_thing"] []) (C_L_when_size : Cal P w K mg base "_law_when_size" s_L_when_size 42 ["_law_its_facets", "_law_its_thing", "_law_deep"] (d_L_when_size 40)) : Cal P w K mg base "_law_is_when" s_L_is_when 43 ["_law_its_facets", "_law_its_thing"] d_L_is_when := by
  have sc := sc_L_is_when
  exact cal_mk F sc g b rfl rfl fun cdv A outer s H E hr =>
    (show CSs _ (defBody s_L_is_when) b_L_is_when from
      (css_one (cs_ret (ce_chn op_le op_le o_cmp o_cmp ce_int (cc_call C_L_when_size hr (by first | decide | omega) (by rfl) (ca_cons (cv 0) (ca_cons (cv 1) (ca_cons ce_int ca_nil)))) ce_int))))
/-! odd: 0 tape_here, 1 a_thing, 2 some -/
abbrev s_L_odd : Stmt := topS 30
theorem sc_L_odd : FnScope ["_law_tape_here", "_law_a_thing", "_law_some"] ["_law_tape_here", "_law_a_thing"] (defScope s_L_odd) := ⟨rfl, rfl, rfl, by decide +kernel, rfl, by decide +kernel, by decide +kernel⟩
def b_L_odd : MS := (mSeq (mSet 2 (mLst (mD1 (mC .none) (mD1 (mC (.bool true)) (mD1 (mC (.bool false)) (mD1 (mC (.int 0)) (mD1 (mC (.int 1)) (mD1 (mUn negD (mC (.int 1))) (mD1 (mC (.str "")) (mD1 (mC (.str "a")) (mD1 (mC (.str "A")) (mD1 (mC (.str "a1")) (mD1 (mC (.str "abcdefghi")) (mD1 (mC (.str "zzzzzzzz")) (mD1 (mTup mD0) (mD1 (mLst mD0) (mD1 (mTup (mD1 (mC (.str "a")) mD0)) (mD1 (mLst (mD1 (mC (.str "a")) mD0)) (mD1 (mC (.str "a b")) mD0)))))))))))))))))))
      (mSeq (mIfS (mT (mIs ["str"] (mV 1))) (mSet 2 (mOp addD (mV 2) (mLst (mD1 (mOp addD (mV 1) (mC (.str "z"))) (mD1 (mSl (mV 1) mO0 (mO1 (mUn negD (mC (.int 1))))) (mD1 (mSM upperF (mV 1) mA0) (mD1 (mTup (mD1 (mV 1) mD0)) (mD1 (mUn revD (mV 1)) (mD1 (mOp addD (mV 1) (mC (.str " "))) mD0))))))))) mNil)
      (mRet (mOpV ixD (mV 2) (mCallIo d_L_draw 0 (mA1 (mCB lenF (mA1 (mV 2) mA0)) mA0))))))
def d_L_odd : ME := runF 2 3 b_L_odd
set_option maxRecDepth 100000 in
theorem ok_L_odd {f : Addr} {fd : FuncData} (F : Fun K "_law_odd" "_law_odd" s_L_odd f fd) (g : mg "_law_odd" = some (.ref f)) (b : Binds K fd ["_law_tape_here", "_law_a_thing"] []) (C_L_draw : Cal P w K mg base "_law_draw" s_L_draw 1 ["_law_tape_here", "_law_many"] d_L_draw) (m_isinstance : mg "isinstance" = none) (m_len : mg "len" = none) (m_str : mg "str" = none) : Cal P w K mg base "_law_odd" s_L_odd 2 ["_law_tape_here", "_law_a_thing"] d_L_odd := by
  have sc := sc_L_odd
  exact cal_mk F sc g b rfl rfl fun cdv A outer s H E hr =>
    (show CSs _ (defBody s_L_odd) b_L_odd from
      (css_cons (cs_set sc.nd rfl (.inl rfl) (ce_lst (cd_cons ce_non (cd_cons ce_bl (cd_cons ce_bl (cd_cons ce_int (cd_cons ce_int (cd_cons (ce_neg ce_int) (cd_cons ce_str (cd_cons ce_str (cd_cons ce_str (cd_cons ce_str (cd_cons ce_str (cd_cons ce_str (cd_cons (ce_tup cd_nil) (cd_cons (ce_lst cd_nil) (cd_cons (ce_tup (cd_cons ce_str cd_nil)) (cd_cons (ce_lst (cd_cons ce_str cd_nil)) (cd_cons ce_str cd_nil)))))))))))))))))))
      (css_cons (cs_if (ct_tru (ce_is1 (by rfl) m_isinstance (cv 1) (by rfl) m_str PyProof.Rows.boot_str (by decide +kernel))) (css_one (cs_set sc.nd rfl (.inl rfl) (ce_add (cv 2) (ce_lst (cd_cons (ce_add (cv 1) ce_str) (cd_cons (ce_sl (cv 1) co_none (co_some (ce_neg ce_int))) (cd_cons (ce_upper (cv 1)) (cd_cons (ce_tup (cd_cons (cv 1) cd_nil)) (cd_cons (ce_rev (cv 1)) (cd_cons (ce_add (cv 1) ce_str) cd_nil)))))))))) css_nil)
      (css_one (cs_ret (ce_ix (cv 2) (cc_callIo C_L_draw hr (by first | decide | omega) (by rfl) (pv 0) (ca_cons (ce_len (by rfl) m_len (ca_cons (cv 2) ca_nil)) ca_nil))))))))
/-! bent: 0 tape_here, 1 a_thing, 2 way, 3 some, 4 at -/
abbrev s_L_bent : Stmt := topS 31
theorem sc_L_bent : FnScope ["_law_tape_here", "_law_a_thing", "_law_way", "_law_some", "_law_at"] ["_law_tape_here", "_law_a_thing"] (defScope s_L_bent) := ⟨rfl, rfl, rfl, by decide +kernel, rfl, by decide +kernel, by decide +kernel⟩
def b_L_bent (rec : ME) : MS := (mSeq (mSet 2 (mCallIo d_L_draw 0 (mA1 (mC (.int 10)) mA0)))
      (mSeq (mIfS (mOr (mNot (mT (mIs ["tuple", "list"] (mV 1)))) (mOr (mB (mOpV eqD (mCB lenF (mA1 (mV 1) mA0)) (mC (.int 0)))) (mB (mOpV eqD (mV 2) (mC (.int 0)))))) (mRet (mCallIo d_L_odd 0 (mA1 (mV 1) mA0))) mNil)
      (mSeq (mPar [3, 4] (mP1 (mCB listF (mA1 (mV 1) mA0)) (mP1 (mOpV ixD (mLst (mD1 (mOp subD (mCB lenF (mA1 (mV 1) mA0)) (mC (.int 1))) (mD1 (mCallIo d_L_draw 0 (mA1 (mCB lenF (mA1 (mV 1) mA0)) mA0)) mD0))) (mCallIo d_L_draw 0 (mA1 (mC (.int 2)) mA0))) mA0)))
      (mSeq (mIfS (mB (mOpV eqD (mV 2) (mC (.int 1)))) (mDrop (mMeth "list" pop1F 3 (mD1 (mV 4) mD0))) (mIfS (mB (mOpV eqD (mV 2) (mC (.int 2)))) (mDrop (mMeth "list" insF 3 (mD1 (mV 4) (mD1 (mOpV ixD (mV 3) (mV 4)) mD0)))) (mIfS (mB (mOpV eqD (mV 2) (mC (.int 3)))) (mDrop (mMeth "list" revF 3 mD0)) (mIfS (mB (mOpV eqD (mV 2) (mC (.int 4)))) (mRet (mIf (mT (mIs ["tuple"] (mV 1))) (mV 3) (mCB tupF (mA1 (mV 3) mA0)))) (mSetIx 3 (mCallIo rec 0 (mA1 (mOpV ixD (mV 3) (mV 4)) mA0)) (mV 4))))))
      (mRet (mIf (mT (mIs ["tuple"] (mV 1))) (mCB tupF (mA1 (mV 3) mA0)) (mV 3)))))))
def d_L_bent : Nat → ME
  | 0 => runF 2 5 mNever
  | k + 1 => runF 2 5 (b_L_bent (d_L_bent k))
set_option maxRecDepth 100000 in
theorem ok_L_bent {f : Addr} {fd : FuncData} (F : Fun K "_law_bent" "_law_bent" s_L_bent f fd) (g : mg "_law_bent" = some (.ref f)) (b : Binds K fd ["_law_tape_here", "_law_a_thing"] []) (C_L_draw : Cal P w K mg base "_law_draw" s_L_draw 1 ["_law_tape_here", "_law_many"] d_L_draw) (C_L_odd : Cal P w K mg base "_law_odd" s_L_odd 2 ["_law_tape_here", "_law_a_thing"] d_L_odd) (m_isinstance : mg "isinstance" = none) (m_len : mg "len" = none) (m_list : mg "list" = none) (m_tuple : mg "tuple" = none) : ∀ n, Cal P w K mg base "_law_bent" s_L_bent (n + 3) ["_law_tape_here", "_law_a_thing"] (d_L_bent n)
  | 0 => by
    have sc := sc_L_bent
    have h : Cal P w K mg base "_law_bent" s_L_bent (2 + 1) ["_law_tape_here", "_law_a_thing"] (d_L_bent 0) := cal_mk F sc g b rfl rfl fun cdv A outer s H E hr => css_never
    simpa using h
  | n + 1 => by
    have sc := sc_L_bent
    have C_L_bent := ok_L_bent F g b C_L_draw C_L_odd m_isinstance m_len m_list m_tuple n
    have h : Cal P w K mg base "_law_bent" s_L_bent ((n + 3) + 1) ["_law_tape_here", "_law_a_thing"] (d_L_bent (n + 1)) := cal_mk F sc g b rfl rfl fun cdv A outer s H E hr =>
      (show CSs _ (defBody s_L_bent) (b_L_bent (d_L_bent n)) from
      (css_cons (cs_set sc.nd rfl (.inl rfl) (cc_callIo C_L_draw hr (by first | decide | omega) (by rfl) (pv 0) (ca_cons ce_int ca_nil)))
      (css_cons (cs_if (ct_w (cw_or (ct_not (ct_tru (ce_isT (by rfl) m_isinstance (cv 1) (.cons (by rfl) m_tuple PyProof.Rows.boot_tuple (by decide) (by decide) (by rfl) (.cons (by rfl) m_list PyProof.Rows.boot_list (by decide) (by decide) (by rfl) .nil)) (by decide +kernel) (by decide)))) (cw_or (ct_eq hr.r (ce_len (by rfl) m_len (ca_cons (cv 1) ca_nil)) ce_int) (cw_or1 (ct_eq hr.r (cv 2) ce_int))))) (css_one (cs_ret (cc_callIo C_L_odd hr (by first | decide | omega) (by rfl) (pv 0) (ca_cons (cv 1) ca_nil)))) css_nil)
      (css_cons (cs_par rfl sc.nd rfl rfl (by decide) rfl rfl (cp_cons (ce_list (by rfl) m_list (ca_cons (cv 1) ca_nil)) (cp_cons (ce_ix (ce_lst (cd_cons (ce_sub (ce_len (by rfl) m_len (ca_cons (cv 1) ca_nil)) ce_int) (cd_cons (cc_callIo C_L_draw hr (by first | decide | omega) (by rfl) (pv 0) (ca_cons (ce_len (by rfl) m_len (ca_cons (cv 1) ca_nil)) ca_nil)) cd_nil))) (cc_callIo C_L_draw hr (by first | decide | omega) (by rfl) (pv 0) (ca_cons ce_int ca_nil))) cp_nil)) (by rfl))
      (css_cons (cs_if (ct_eq hr.r (cv 2) ce_int) (css_one (cs_expr (ce_pop1 (pv 3) (cd_cons (cv 4) cd_nil)))) (css_one (cs_if (ct_eq hr.r (cv 2) ce_int) (css_one (cs_expr (ce_insert (pv 3) (cd_cons (cv 4) (cd_cons (ce_ix (cv 3) (cv 4)) cd_nil))))) (css_one (cs_if (ct_eq hr.r (cv 2) ce_int) (css_one (cs_expr (ce_reverse (pv 3)))) (css_one (cs_if (ct_eq hr.r (cv 2) ce_int) (css_one (cs_ret (ce_if (ct_tru (ce_is1 (by rfl) m_isinstance (cv 1) (by rfl) m_tuple PyProof.Rows.boot_tuple (by decide +kernel))) (cv 3) (ce_tuple (by rfl) m_tuple (ca_cons (cv 3) ca_nil))))) (css_one (cs_setIx (pv 3) (cv 4) (cc_callIo C_L_bent hr (by first | decide | omega) (by rfl) (pv 0) (ca_cons (ce_ix (cv 3) (cv 4)) ca_nil)))))))))))
      (css_one (cs_ret (ce_if (ct_tru (ce_is1 (by rfl) m_isinstance (cv 1) (by rfl) m_tuple PyProof.Rows.boot_tuple (by decide +kernel))) (ce_tuple (by rfl) m_tuple (ca_cons (cv 3) ca_nil)) (cv 3)))))))))
    have e : n + 3 + 1 = n + 1 + 3 := by omega
    rw [e] at h; exact h
/-! at_bounds: 0 a_facets, 1 one, 2 some, 3 found -/
abbrev s_L_at_bounds : Stmt := topS 32
theorem sc_L_at_bounds : FnScope ["_law_a_facets", "_law_one", "_law_some", "_law_found"] ["_law_a_facets"] (defScope s_L_at_bounds) := ⟨rfl, rfl, rfl, by decide +kernel, rfl, by decide +kernel, by decide +kernel⟩
def b_L_at_bounds : MS := (mSeq (mSet 1 (mTup (mD1 (mC (.str "is")) (mD1 (mOpV ixD (mOpV ixD (mV 0) (mC (.int 0))) (mC (.int 0))) (mD1 (mSl (mOpV ixD (mOpV ixD (mV 0) (mC (.int 0))) (mC (.int 1))) mO0 (mO1 (mC (.int 1)))) mD0)))))
      (mSeq (mSet 2 (mTup (mD1 (mC (.str "not")) (mD1 (mV 1) mD0))))
      (mSeq (mSet 3 (mLst (mD1 (mTup (mD1 (mC (.str "both")) (mD1 (mTup (mD1 (mC (.str "either")) (mD1 (mV 1) (mD1 (mV 1) mD0)))) (mD1 (mTup (mD1 (mC (.str "either")) (mD1 (mV 2) (mD1 (mV 1) mD0)))) mD0)))) mD0)))
      (mSeq (mDrop (mMeth "list" appF 3 (mD1 (mTup (mD1 (mC (.str "both")) (mD1 (mTup (mD1 (mC (.str "either")) (mD1 (mV 2) (mD1 (mV 1) mD0)))) (mD1 (mTup (mD1 (mC (.str "either")) (mD1 (mV 2) (mD1 (mV 1) mD0)))) mD0)))) mD0)))
      (mSeq (mSet 3 (mOp addD (mV 3) (mLst (mD1 (mTup (mD1 (mC (.str "not")) (mD1 (mTup (mD1 (mC (.str "not")) (mD1 (mV 2) mD0))) mD0))) (mD1 (mTup (mD1 (mC (.str "not")) (mD1 (mTup (mD1 (mC (.str "not")) (mD1 (mTup (mD1 (mC (.str "not")) (mD1 (mV 2) mD0))) mD0))) mD0))) (mD1 (mTup (mD1 (mC (.str "always")) mD0)) (mD1 (mTup (mD1 (mC (.str "always")) (mD1 (mC (.str "always")) mD0))) mD0)))))))
      (mSeq (mSet 3 (mOp addD (mV 3) (mLst (mD1 (mTup (mD1 (mC (.str "is")) (mD1 (mOpV ixD (mOpV ixD (mV 0) (mUn negD (mC (.int 1)))) (mC (.int 0))) (mD1 (mOpV ixD (mOpV ixD (mV 0) (mUn negD (mC (.int 1)))) (mC (.int 1))) mD0)))) (mD1 (mTup (mD1 (mC (.str "is")) (mD1 (mOpV ixD (mOpV ixD (mV 0) (mUn negD (mC (.int 1)))) (mC (.int 0))) (mD1 (mUn revD (mOpV ixD (mOpV ixD (mV 0) (mUn negD (mC (.int 1)))) (mC (.int 1)))) mD0)))) mD0)))))
      (mSeq (mSet 3 (mOp addD (mV 3) (mLst (mD1 (mTup (mD1 (mC (.str "is")) (mD1 (mOpV ixD (mOpV ixD (mV 0) (mUn negD (mC (.int 1)))) (mC (.int 0))) (mD1 (mTup mD0) mD0)))) (mD1 (mTup (mD1 (mC (.str "is")) (mD1 (mOpV ixD (mOpV ixD (mV 0) (mC (.int 0))) (mC (.int 0))) (mD1 (mOpV ixD (mOpV ixD (mOpV ixD (mV 0) (mC (.int 0))) (mC (.int 1))) (mC (.int 0))) mD0)))) (mD1 (mTup (mD1 (mC (.str "not")) mD0)) (mD1 (mTup (mD1 (mC (.str "both")) (mD1 (mV 1) mD0))) mD0)))))))
      (mSeq (mDrop (mMeth "list" appF 3 (mD1 (mTup (mD1 (mC (.str "is")) (mD1 (mOpV ixD (mOpV ixD (mV 0) (mC (.int 0))) (mC (.int 0))) (mD1 (mOp mulD (mTup (mD1 (mOpV ixD (mOpV ixD (mOpV ixD (mV 0) (mC (.int 0))) (mC (.int 1))) (mC (.int 0))) mD0)) (mC (.int 2))) mD0)))) mD0)))
      (mRet (mOp addD (mV 3) (mLst (mD1 (mTup (mD1 (mC (.str "either")) (mD1 (mV 1) (mD1 (mV 1) (mD1 (mV 1) mD0))))) (mD1 (mTup mD0) (mD1 (mSl (mV 1) (mO1 (mC (.int 1))) mO0) (mD1 (mLst (mD1 (mC (.str "always")) mD0)) mD0)))))))))))))))
def d_L_at_bounds : ME := runF 1 4 b_L_at_bounds
set_option maxRecDepth 100000 in
theorem ok_L_at_bounds {f : Addr} {fd : FuncData} (F : Fun K "_law_at_bounds" "_law_at_bounds" s_L_at_bounds f fd) (g : mg "_law_at_bounds" = some (.ref f)) (b : Binds K fd ["_law_a_facets"] []) : Cal P w K mg base "_law_at_bounds" s_L_at_bounds 1 ["_law_a_facets"] d_L_at_bounds := by
  have sc := sc_L_at_bounds
  exact cal_mk F sc g b rfl rfl fun cdv A outer s H E hr =>
    (show CSs _ (defBody s_L_at_bounds) b_L_at_bounds from
      (css_cons (cs_set sc.nd rfl (.inl rfl) (ce_tup (cd_cons ce_str (cd_cons (ce_ix (ce_ix (cv 0) ce_int) ce_int) (cd_cons (ce_sl (ce_ix (ce_ix (cv 0) ce_int) ce_int) co_none (co_some ce_int)) cd_nil)))))
      (css_cons (cs_set sc.nd rfl (.inl rfl) (ce_tup (cd_cons ce_str (cd_cons (cv 1) cd_nil))))
      (css_cons (cs_set sc.nd rfl (.inl rfl) (ce_lst (cd_cons (ce_tup (cd_cons ce_str (cd_cons (ce_tup (cd_cons ce_str (cd_cons (cv 1) (cd_cons (cv 1) cd_nil)))) (cd_cons (ce_tup (cd_cons ce_str (cd_cons (cv 2) (cd_cons (cv 1) cd_nil)))) cd_nil)))) cd_nil)))
      (css_cons (cs_expr (ce_append (pv 3) (cd_cons (ce_tup (cd_cons ce_str (cd_cons (ce_tup (cd_cons ce_str (cd_cons (cv 2) (cd_cons (cv 1) cd_nil)))) (cd_cons (ce_tup (cd_cons ce_str (cd_cons (cv 2) (cd_cons (cv 1) cd_nil)))) cd_nil)))) cd_nil)))
      (css_cons (cs_set sc.nd rfl (.inl rfl) (ce_add (cv 3) (ce_lst (cd_cons (ce_tup (cd_cons ce_str (cd_cons (ce_tup (cd_cons ce_str (cd_cons (cv 2) cd_nil))) cd_nil))) (cd_cons (ce_tup (cd_cons ce_str (cd_cons (ce_tup (cd_cons ce_str (cd_cons (ce_tup (cd_cons ce_str (cd_cons (cv 2) cd_nil))) cd_nil))) cd_nil))) (cd_cons (ce_tup (cd_cons ce_str cd_nil)) (cd_cons (ce_tup (cd_cons ce_str (cd_cons ce_str cd_nil))) cd_nil)))))))
      (css_cons (cs_set sc.nd rfl (.inl rfl) (ce_add (cv 3) (ce_lst (cd_cons (ce_tup (cd_cons ce_str (cd_cons (ce_ix (ce_ix (cv 0) (ce_neg ce_int)) ce_int) (cd_cons (ce_ix (ce_ix (cv 0) (ce_neg ce_int)) ce_int) cd_nil)))) (cd_cons (ce_tup (cd_cons ce_str (cd_cons (ce_ix (ce_ix (cv 0) (ce_neg ce_int)) ce_int) (cd_cons (ce_rev (ce_ix (ce_ix (cv 0) (ce_neg ce_int)) ce_int)) cd_nil)))) cd_nil)))))
      (css_cons (cs_set sc.nd rfl (.inl rfl) (ce_add (cv 3) (ce_lst (cd_cons (ce_tup (cd_cons ce_str (cd_cons (ce_ix (ce_ix (cv 0) (ce_neg ce_int)) ce_int) (cd_cons (ce_tup cd_nil) cd_nil)))) (cd_cons (ce_tup (cd_cons ce_str (cd_cons (ce_ix (ce_ix (cv 0) ce_int) ce_int) (cd_cons (ce_ix (ce_ix (ce_ix (cv 0) ce_int) ce_int) ce_int) cd_nil)))) (cd_cons (ce_tup (cd_cons ce_str cd_nil)) (cd_cons (ce_tup (cd_cons ce_str (cd_cons (cv 1) cd_nil))) cd_nil)))))))
      (css_cons (cs_expr (ce_append (pv 3) (cd_cons (ce_tup (cd_cons ce_str (cd_cons (ce_ix (ce_ix (cv 0) ce_int) ce_int) (cd_cons (ce_mul (ce_tup (cd_cons (ce_ix (ce_ix (ce_ix (cv 0) ce_int) ce_int) ce_int) cd_nil)) ce_int) cd_nil)))) cd_nil)))
      (css_one (cs_ret (ce_add (cv 3) (ce_lst (cd_cons (ce_tup (cd_cons ce_str (cd_cons (cv 1) (cd_cons (cv 1) (cd_cons (cv 1) cd_nil))))) (cd_cons (ce_tup cd_nil) (cd_cons (ce_sl (cv 1) (co_some ce_int) co_none) (cd_cons (ce_lst (cd_cons ce_str cd_nil)) cd_nil)))))))))))))))))
/-! right: 0 tape_here, 1 a_facets, 2 others, 3 things, 4 turn, 5 one, 6 bent_here, 7 a_thing, 8 kept, 9 due, 10 told -/
abbrev s_L_right : Stmt := topS 33
theorem sc_L_right : FnScope ["_law_tape_here", "_law_a_facets", "_law_others", "_law_things", "_law_turn", "_law_one", "_law_bent_here", "_law_a_thing", "_law_kept", "_law_due", "_law_told"] ["_law_tape_here"] (defScope s_L_right) := ⟨rfl, rfl, rfl, by decide +kernel, rfl, by decide +kernel, by decide +kernel⟩
def b_L_right : MS := (mSeq (mSet 1 (mCallIo d_L_facets 0 (mA1 (mOp addD (mC (.int 1)) (mCallIo d_L_draw 0 (mA1 (mC (.int 4)) mA0))) (mA1 (mOp addD (mC (.int 2)) (mCallIo d_L_draw 0 (mA1 (mC (.int 3)) mA0))) mA0))))
      (mSeq (mSet 2 (mCallIo d_L_facets 0 (mA1 (mC (.int 2)) (mA1 (mC (.int 3)) mA0))))
      (mSeq (mSet 3 (mOp addD (mCall d_L_at_bounds (mA1 (mV 1) mA0)) (mSl (mCall d_L_at_bounds (mA1 (mV 2) mA0)) mO0 (mO1 (mC (.int 3))))))
      (mSeq (mFor (mRange1 (mD1 (mC (.int 10)) mD0)) (gN 4)
      (mSeq (mSet 5 (mCallIo (d_L_when 40) 0 (mA1 (mV 1) (mA1 (mOp addD (mC (.int 1)) (mCallIo d_L_draw 0 (mA1 (mC (.int 4)) mA0))) mA0))))
      (mSeq (mSet 6 (mCallIo (d_L_bent 40) 0 (mA1 (mV 5) mA0)))
      (mSet 3 (mOp addD (mV 3) (mLst (mD1 (mV 5) (mD1 (mV 6) (mD1 (mCallIo (d_L_bent 40) 0 (mA1 (mV 6) mA0)) (mD1 (mCallIo (d_L_bent 40) 0 (mA1 (mV 5) mA0)) (mD1 (mTup (mD1 (mC (.str "not")) (mD1 (mV 6) mD0))) (mD1 (mTup (mD1 (mC (.str "both")) (mD1 (mV 6) (mD1 (mV 5) mD0)))) mD0))))))))))))
      (mSeq (mFor (mItems (mV 3)) (gN 7)
      (mSeq (mPar [8, 9] (mP1 (mCB reprF (mA1 (mV 7) mA0)) (mP1 (mCall d_L_is_when (mA1 (mV 1) (mA1 (mV 7) mA0))) mA0)))
      (mSeq (mSet 10 (mLst (mD1 (mCall d_P_is_when (mA1 (mV 1) (mA1 (mV 7) mA0))) (mD1 (mCall d_P_is_when (mPerm [1, 0] (mA1 (mV 7) (mA1 (mV 1) mA0)))) mD0))))
      (mIfS (mOr (mNot (mT (mCall (d_L_same 40) (mA1 (mV 10) (mA1 (mLst (mD1 (mV 9) (mD1 (mV 9) mD0))) mA0))))) (mB (mOpV neD (mCB reprF (mA1 (mV 7) mA0)) (mV 8)))) (mRet (mC (.bool false))) mNil))))
      (mRet (mAndV (mOpV (isBD false) (mCall d_P_is_when (mA1 (mV 1) (mA1 (mOpV ixD (mV 3) (mC (.int 0))) mA0))) (mC (.bool true))) (mOpV (isBD false) (mCall d_P_is_when (mA1 (mV 1) (mA1 (mOpV ixD (mV 3) (mC (.int 1))) mA0))) (mC (.bool false))))))))))
def d_L_right : ME := runF 1 11 b_L_right
set_option maxRecDepth 100000 in
theorem ok_L_right {f : Addr} {fd : FuncData} (F : Fun K "_law_right" "_law_right" s_L_right f fd) (g : mg "_law_right" = some (.ref f)) (b : Binds K fd ["_law_tape_here"] []) (C_L_facets : Cal P w K mg base "_law_facets" s_L_facets 3 ["_law_tape_here", "_law_many", "_law_most"] d_L_facets) (C_L_draw : Cal P w K mg base "_law_draw" s_L_draw 1 ["_law_tape_here", "_law_many"] d_L_draw) (C_L_at_bounds : Cal P w K mg base "_law_at_bounds" s_L_at_bounds 1 ["_law_a_facets"] d_L_at_bounds) (C_L_when : Cal P w K mg base "_law_when" s_L_when 43 ["_law_tape_here", "_law_its_facets", "_law_deep"] (d_L_when 40)) (C_L_bent : Cal P w K mg base "_law_bent" s_L_bent 43 ["_law_tape_here", "_law_a_thing"] (d_L_bent 40)) (C_L_is_when : Cal P w K mg base "_law_is_when" s_L_is_when 43 ["_law_its_facets", "_law_its_thing"] d_L_is_when) (C_P_is_when : Cal P w K mg base "is_when" s_P_is_when 45 ["facets", "thing"] d_P_is_when) (C_L_same : Cal P w K mg base "_law_same" s_L_same 41 ["_law_found", "_law_due"] (d_L_same 40)) (m_range : mg "range" = none) (m_repr : mg "repr" = none) : Cal P w K mg base "_law_right" s_L_right 46 ["_law_tape_here"] d_L_right := by
  have sc := sc_L_right
  exact cal_mk F sc g b rfl rfl fun cdv A outer s H E hr =>
    (show CSs _ (defBody s_L_right) b_L_right from
      (css_cons (cs_set sc.nd rfl (.inl rfl) (cc_callIo C_L_facets hr (by first | decide | omega) (by rfl) (pv 0) (ca_cons (ce_add ce_int (cc_callIo C_L_draw hr (by first | decide | omega) (by rfl) (pv 0) (ca_cons ce_int ca_nil))) (ca_cons (ce_add ce_int (cc_callIo C_L_draw hr (by first | decide | omega) (by rfl) (pv 0) (ca_cons ce_int ca_nil))) ca_nil))))
      (css_cons (cs_set sc.nd rfl (.inl rfl) (cc_callIo C_L_facets hr (by first | decide | omega) (by rfl) (pv 0) (ca_cons ce_int (ca_cons ce_int ca_nil))))
      (css_cons (cs_set sc.nd rfl (.inl rfl) (ce_add (cc_call C_L_at_bounds hr (by first | decide | omega) (by rfl) (ca_cons (cv 1) ca_nil)) (ce_sl (cc_call C_L_at_bounds hr (by first | decide | omega) (by rfl) (ca_cons (cv 2) ca_nil)) co_none (co_some ce_int))))
      (css_cons (cs_for PassesOwn.never rfl (ci_range1 (by rfl) m_range (cd_cons ce_int cd_nil)) (cg_name sc.nd rfl (.inl rfl)) (css_cons (cs_set sc.nd rfl (.inl rfl) (cc_callIo C_L_when hr (by first | decide | omega) (by rfl) (pv 0) (ca_cons (cv 1) (ca_cons (ce_add ce_int (cc_callIo C_L_draw hr (by first | decide | omega) (by rfl) (pv 0) (ca_cons ce_int ca_nil))) ca_nil))))
      (css_cons (cs_set sc.nd rfl (.inl rfl) (cc_callIo C_L_bent hr (by first | decide | omega) (by rfl) (pv 0) (ca_cons (cv 5) ca_nil)))
      (css_one (cs_set sc.nd rfl (.inl rfl) (ce_add (cv 3) (ce_lst (cd_cons (cv 5) (cd_cons (cv 6) (cd_cons (cc_callIo C_L_bent hr (by first | decide | omega) (by rfl) (pv 0) (ca_cons (cv 6) ca_nil)) (cd_cons (cc_callIo C_L_bent hr (by first | decide | omega) (by rfl) (pv 0) (ca_cons (cv 5) ca_nil)) (cd_cons (ce_tup (cd_cons ce_str (cd_cons (cv 6) cd_nil))) (cd_cons (ce_tup (cd_cons ce_str (cd_cons (cv 6) (cd_cons (cv 5) cd_nil)))) cd_nil)))))))))))))
      (css_cons (cs_for PassesOwn.never rfl (ci_items (cv 3)) (cg_name sc.nd rfl (.inl rfl)) (css_cons (cs_par rfl sc.nd rfl rfl (by decide) rfl rfl (cp_cons (ce_repr hr (by rfl) m_repr (ca_cons (cv 7) ca_nil)) (cp_cons (cc_call C_L_is_when hr (by first | decide | omega) (by rfl) (ca_cons (cv 1) (ca_cons (cv 7) ca_nil))) cp_nil)) (by rfl))
      (css_cons (cs_set sc.nd rfl (.inl rfl) (ce_lst (cd_cons (cc_call C_P_is_when hr (by first | decide | omega) (by rfl) (ca_cons (cv 1) (ca_cons (cv 7) ca_nil))) (cd_cons (cc_callK (is := [1, 0]) C_P_is_when hr (by first | decide | omega) (by rfl) (fun _ _ _ _ _ _ ws hl => match ws, hl with | _ :: _ :: _, _ => rfl | [_], hl => by simp [perm] at hl | [], hl => by simp [perm] at hl) (ck_cons (cv 7) (ck_cons (cv 1) ck_nil))) cd_nil))))
      (css_one (cs_if (ct_w (cw_or (ct_not (ct_tru (cc_call C_L_same hr (by first | decide | omega) (by rfl) (ca_cons (cv 10) (ca_cons (ce_lst (cd_cons (cv 9) (cd_cons (cv 9) cd_nil))) ca_nil))))) (cw_or1 (ct_ne hr.r (ce_repr hr (by rfl) m_repr (ca_cons (cv 7) ca_nil)) (cv 8))))) (css_one (cs_ret ce_bl)) css_nil)))))
      (css_one (cs_ret (ce_and (ce_isB (cc_call C_P_is_when hr (by first | decide | omega) (by rfl) (ca_cons (cv 1) (ca_cons (ce_ix (cv 3) ce_int) ca_nil))) ce_bl) (ce_one (ce_isB (cc_call C_P_is_when hr (by first | decide | omega) (by rfl) (ca_cons (cv 1) (ca_cons (ce_ix (cv 3) ce_int) ca_nil))) ce_bl)))))))))))
/-! law: 0 script, 1 cells, 2 k -/
abbrev s_L_law : Stmt := topS 34
theorem sc_L_law : FnScope ["_law_script", "_law_cells", "_law_k"] ["_law_script"] (defScope s_L_law) := ⟨rfl, rfl, rfl, by decide +kernel, rfl, by decide +kernel, by decide +kernel⟩
def b_L_law : MS := (mSeq (mSet 1 (mCall d_L_folded (mA1 (mV 0) (mA1 (mC (.int 4)) mA0))))
      (mRet (mCB allF (mA1 (mLc [2] (mRange1 (mD1 (mCB maxF (mA1 (mC (.int 1)) (mA1 (mCB lenF (mA1 (mV 1) mA0)) mA0))) mD0)) (gN 2) mYes (mCallTmp d_L_right (mCall d_L_tape (mA1 (mV 1) (mA1 (mV 2) mA0))) mA0)) mA0))))
def d_L_law : ME := runF 1 3 b_L_law
set_option maxRecDepth 100000 in
theorem ok_L_law {f : Addr} {fd : FuncData} (F : Fun K "law" "law" s_L_law f fd) (g : mg "law" = some (.ref f)) (b : Binds K fd ["_law_script"] []) (C_L_folded : Cal P w K mg base "_law_folded" s_L_folded 1 ["_law_script", "_law_many"] d_L_folded) (C_L_right : Cal P w K mg base "_law_right" s_L_right 46 ["_law_tape_here"] d_L_right) (C_L_tape : Cal P w K mg base "_law_tape" s_L_tape 1 ["_law_script", "_law_k"] d_L_tape) (m_all : mg "all" = none) (m_len : mg "len" = none) (m_max : mg "max" = none) (m_range : mg "range" = none) : Cal P w K mg base "law" s_L_law 47 ["_law_script"] d_L_law := by
  have sc := sc_L_law
  exact cal_mk F sc g b rfl rfl fun cdv A outer s H E hr =>
    (show CSs _ (defBody s_L_law) b_L_law from
      (css_cons (cs_set sc.nd rfl (.inr rfl) (cc_call C_L_folded hr (by first | decide | omega) (by rfl) (ca_cons (cv 0) (ca_cons ce_int ca_nil))))
      (css_one (cs_ret (ce_all rfl (by rfl) m_all (ca_cons (ce_lc (own := [("_law_k", 2)]) (js := [2]) rfl sc.nd (ci_range1 (by rfl) m_range (cd_cons (ce_max2 rfl (by rfl) m_max (ca_cons ce_int (ca_cons (ce_len (by rfl) m_len (ca_cons (cv 1) ca_nil)) ca_nil))) cd_nil)) (blkOk_by (by rfl)) (by decide) (fun _ _ _ _ _ => (cg_name sc.nd rfl (.inl rfl))) (fun _ _ _ _ _ => cts_nil) (fun _ _ _ _ _ => (cc_callTmp C_L_right hr (by first | decide | omega) (by rfl) (cc_call C_L_tape hr (by first | decide | omega) (by rfl) (ca_cons (cv 1) (ca_cons (cv 2) ca_nil))) ca_nil))) ca_nil))))))
end
theorem all_mk {P : Program} {w : World} {K : PySem.W.Frag} {h : Heap} {mg : Str → Option Value} {fa f_P_is_tuple f_P_rises f_P_is_word_of f_P_are_words_of f_P_is_told f_P_parts_of_when f_P_is_when f_L_tape f_L_draw f_L_folded f_L_names f_L_part f_L_same f_L_facets f_L_when f_L_rises f_L_when_size f_L_is_when f_L_odd f_L_bent f_L_at_bounds f_L_right f_L_law : Addr} (X : K.In h) (G : h.Ns mainGlobals mg) (hfa : mg "law" = some (.ref fa))
    {od_P_is_tuple an_P_is_tuple : Option Addr} {sl_P_is_tuple : Array (Option Value)} {oc_P_is_tuple kV_P_is_tuple dc_P_is_tuple pm_P_is_tuple cd_P_is_tuple ct_P_is_tuple : Value}
    (a_P_is_tuple : PySem.W.nsIn K mainGlobals "is_tuple" = some (some (.ref f_P_is_tuple))) (l_P_is_tuple : K.lookup f_P_is_tuple = some ⟨oc_P_is_tuple, od_P_is_tuple, .func (PySem.W.fnOf "is_tuple" "is_tuple" (defArgs s_P_is_tuple) (defBody s_P_is_tuple) (defScope s_P_is_tuple) .none kV_P_is_tuple dc_P_is_tuple pm_P_is_tuple an_P_is_tuple cd_P_is_tuple ct_P_is_tuple), sl_P_is_tuple⟩) (q_P_is_tuple : PySem.W.codeIn K cd_P_is_tuple "is_tuple" = true) (k_P_is_tuple : PySem.W.keepIn K (.ref f_P_is_tuple) = true)
    {od_P_rises an_P_rises : Option Addr} {sl_P_rises : Array (Option Value)} {oc_P_rises kV_P_rises dc_P_rises pm_P_rises cd_P_rises ct_P_rises : Value}
    (a_P_rises : PySem.W.nsIn K mainGlobals "rises" = some (some (.ref f_P_rises))) (l_P_rises : K.lookup f_P_rises = some ⟨oc_P_rises, od_P_rises, .func (PySem.W.fnOf "rises" "rises" (defArgs s_P_rises) (defBody s_P_rises) (defScope s_P_rises) .none kV_P_rises dc_P_rises pm_P_rises an_P_rises cd_P_rises ct_P_rises), sl_P_rises⟩) (q_P_rises : PySem.W.codeIn K cd_P_rises "rises" = true) (k_P_rises : PySem.W.keepIn K (.ref f_P_rises) = true)
    {od_P_is_word_of an_P_is_word_of : Option Addr} {sl_P_is_word_of : Array (Option Value)} {oc_P_is_word_of kV_P_is_word_of dc_P_is_word_of pm_P_is_word_of cd_P_is_word_of ct_P_is_word_of : Value}
    (a_P_is_word_of : PySem.W.nsIn K mainGlobals "is_word_of" = some (some (.ref f_P_is_word_of))) (l_P_is_word_of : K.lookup f_P_is_word_of = some ⟨oc_P_is_word_of, od_P_is_word_of, .func (PySem.W.fnOf "is_word_of" "is_word_of" (defArgs s_P_is_word_of) (defBody s_P_is_word_of) (defScope s_P_is_word_of) .none kV_P_is_word_of dc_P_is_word_of pm_P_is_word_of an_P_is_word_of cd_P_is_word_of ct_P_is_word_of), sl_P_is_word_of⟩) (q_P_is_word_of : PySem.W.codeIn K cd_P_is_word_of "is_word_of" = true) (k_P_is_word_of : PySem.W.keepIn K (.ref f_P_is_word_of) = true)
    {od_P_are_words_of an_P_are_words_of : Option Addr} {sl_P_are_words_of : Array (Option Value)} {oc_P_are_words_of kV_P_are_words_of dc_P_are_words_of pm_P_are_words_of cd_P_are_words_of ct_P_are_words_of : Value}
    (a_P_are_words_of : PySem.W.nsIn K mainGlobals "are_words_of" = some (some (.ref f_P_are_words_of))) (l_P_are_words_of : K.lookup f_P_are_words_of = some ⟨oc_P_are_words_of, od_P_are_words_of, .func (PySem.W.fnOf "are_words_of" "are_words_of" (defArgs s_P_are_words_of) (defBody s_P_are_words_of) (defScope s_P_are_words_of) .none kV_P_are_words_of dc_P_are_words_of pm_P_are_words_of an_P_are_words_of cd_P_are_words_of ct_P_are_words_of), sl_P_are_words_of⟩) (q_P_are_words_of : PySem.W.codeIn K cd_P_are_words_of "are_words_of" = true) (k_P_are_words_of : PySem.W.keepIn K (.ref f_P_are_words_of) = true)
    {od_P_is_told an_P_is_told : Option Addr} {sl_P_is_told : Array (Option Value)} {oc_P_is_told kV_P_is_told dc_P_is_told pm_P_is_told cd_P_is_told ct_P_is_told : Value}
    (a_P_is_told : PySem.W.nsIn K mainGlobals "is_told" = some (some (.ref f_P_is_told))) (l_P_is_told : K.lookup f_P_is_told = some ⟨oc_P_is_told, od_P_is_told, .func (PySem.W.fnOf "is_told" "is_told" (defArgs s_P_is_told) (defBody s_P_is_told) (defScope s_P_is_told) .none kV_P_is_told dc_P_is_told pm_P_is_told an_P_is_told cd_P_is_told ct_P_is_told), sl_P_is_told⟩) (q_P_is_told : PySem.W.codeIn K cd_P_is_told "is_told" = true) (k_P_is_told : PySem.W.keepIn K (.ref f_P_is_told) = true)
    {od_P_parts_of_when an_P_parts_of_when : Option Addr} {sl_P_parts_of_when : Array (Option Value)} {oc_P_parts_of_when kV_P_parts_of_when dc_P_parts_of_when pm_P_parts_of_when cd_P_parts_of_when ct_P_parts_of_when : Value}
    (a_P_parts_of_when : PySem.W.nsIn K mainGlobals "parts_of_when" = some (some (.ref f_P_parts_of_when))) (l_P_parts_of_when : K.lookup f_P_parts_of_when = some ⟨oc_P_parts_of_when, od_P_parts_of_when, .func (PySem.W.fnOf "parts_of_when" "parts_of_when" (defArgs s_P_parts_of_when) (defBody s_P_parts_of_when) (defScope s_P_parts_of_when) .none kV_P_parts_of_when dc_P_parts_of_when pm_P_parts_of_when an_P_parts_of_when cd_P_parts_of_when ct_P_parts_of_when), sl_P_parts_of_when⟩) (q_P_parts_of_when : PySem.W.codeIn K cd_P_parts_of_when "parts_of_when" = true) (k_P_parts_of_when : PySem.W.keepIn K (.ref f_P_parts_of_when) = true)
    {od_P_is_when an_P_is_when : Option Addr} {sl_P_is_when : Array (Option Value)} {oc_P_is_when kV_P_is_when dc_P_is_when pm_P_is_when cd_P_is_when ct_P_is_when : Value}
    (a_P_is_when : PySem.W.nsIn K mainGlobals "is_when" = some (some (.ref f_P_is_when))) (l_P_is_when : K.lookup f_P_is_when = some ⟨oc_P_is_when, od_P_is_when, .func (PySem.W.fnOf "is_when" "is_when" (defArgs s_P_is_when) (defBody s_P_is_when) (defScope s_P_is_when) .none kV_P_is_when dc_P_is_when pm_P_is_when an_P_is_when cd_P_is_when ct_P_is_when), sl_P_is_when⟩) (q_P_is_when : PySem.W.codeIn K cd_P_is_when "is_when" = true) (k_P_is_when : PySem.W.keepIn K (.ref f_P_is_when) = true)
    {od_L_tape an_L_tape : Option Addr} {sl_L_tape : Array (Option Value)} {oc_L_tape kV_L_tape dc_L_tape pm_L_tape cd_L_tape ct_L_tape : Value}
    (a_L_tape : PySem.W.nsIn K mainGlobals "_law_tape" = some (some (.ref f_L_tape))) (l_L_tape : K.lookup f_L_tape = some ⟨oc_L_tape, od_L_tape, .func (PySem.W.fnOf "_law_tape" "_law_tape" (defArgs s_L_tape) (defBody s_L_tape) (defScope s_L_tape) .none kV_L_tape dc_L_tape pm_L_tape an_L_tape cd_L_tape ct_L_tape), sl_L_tape⟩) (q_L_tape : PySem.W.codeIn K cd_L_tape "_law_tape" = true) (k_L_tape : PySem.W.keepIn K (.ref f_L_tape) = true)
    {od_L_draw an_L_draw : Option Addr} {sl_L_draw : Array (Option Value)} {oc_L_draw kV_L_draw dc_L_draw pm_L_draw cd_L_draw ct_L_draw : Value}
    (a_L_draw : PySem.W.nsIn K mainGlobals "_law_draw" = some (some (.ref f_L_draw))) (l_L_draw : K.lookup f_L_draw = some ⟨oc_L_draw, od_L_draw, .func (PySem.W.fnOf "_law_draw" "_law_draw" (defArgs s_L_draw) (defBody s_L_draw) (defScope s_L_draw) .none kV_L_draw dc_L_draw pm_L_draw an_L_draw cd_L_draw ct_L_draw), sl_L_draw⟩) (q_L_draw : PySem.W.codeIn K cd_L_draw "_law_draw" = true) (k_L_draw : PySem.W.keepIn K (.ref f_L_draw) = true)
    {od_L_folded an_L_folded : Option Addr} {sl_L_folded : Array (Option Value)} {oc_L_folded kV_L_folded dc_L_folded pm_L_folded cd_L_folded ct_L_folded : Value}
    (a_L_folded : PySem.W.nsIn K mainGlobals "_law_folded" = some (some (.ref f_L_folded))) (l_L_folded : K.lookup f_L_folded = some ⟨oc_L_folded, od_L_folded, .func (PySem.W.fnOf "_law_folded" "_law_folded" (defArgs s_L_folded) (defBody s_L_folded) (defScope s_L_folded) .none kV_L_folded dc_L_folded pm_L_folded an_L_folded cd_L_folded ct_L_folded), sl_L_folded⟩) (q_L_folded : PySem.W.codeIn K cd_L_folded "_law_folded" = true) (k_L_folded : PySem.W.keepIn K (.ref f_L_folded) = true)
    {od_L_names an_L_names : Option Addr} {sl_L_names : Array (Option Value)} {oc_L_names kV_L_names dc_L_names pm_L_names cd_L_names ct_L_names : Value}
    (a_L_names : PySem.W.nsIn K mainGlobals "_law_names" = some (some (.ref f_L_names))) (l_L_names : K.lookup f_L_names = some ⟨oc_L_names, od_L_names, .func (PySem.W.fnOf "_law_names" "_law_names" (defArgs s_L_names) (defBody s_L_names) (defScope s_L_names) .none kV_L_names dc_L_names pm_L_names an_L_names cd_L_names ct_L_names), sl_L_names⟩) (q_L_names : PySem.W.codeIn K cd_L_names "_law_names" = true) (k_L_names : PySem.W.keepIn K (.ref f_L_names) = true)
    {od_L_part an_L_part : Option Addr} {sl_L_part : Array (Option Value)} {oc_L_part kV_L_part dc_L_part pm_L_part cd_L_part ct_L_part : Value}
    (a_L_part : PySem.W.nsIn K mainGlobals "_law_part" = some (some (.ref f_L_part))) (l_L_part : K.lookup f_L_part = some ⟨oc_L_part, od_L_part, .func (PySem.W.fnOf "_law_part" "_law_part" (defArgs s_L_part) (defBody s_L_part) (defScope s_L_part) .none kV_L_part dc_L_part pm_L_part an_L_part cd_L_part ct_L_part), sl_L_part⟩) (q_L_part : PySem.W.codeIn K cd_L_part "_law_part" = true) (k_L_part : PySem.W.keepIn K (.ref f_L_part) = true)
    {od_L_same an_L_same : Option Addr} {sl_L_same : Array (Option Value)} {oc_L_same kV_L_same dc_L_same pm_L_same cd_L_same ct_L_same : Value}
    (a_L_same : PySem.W.nsIn K mainGlobals "_law_same" = some (some (.ref f_L_same))) (l_L_same : K.lookup f_L_same = some ⟨oc_L_same, od_L_same, .func (PySem.W.fnOf "_law_same" "_law_same" (defArgs s_L_same) (defBody s_L_same) (defScope s_L_same) .none kV_L_same dc_L_same pm_L_same an_L_same cd_L_same ct_L_same), sl_L_same⟩) (q_L_same : PySem.W.codeIn K cd_L_same "_law_same" = true) (k_L_same : PySem.W.keepIn K (.ref f_L_same) = true)
    {od_L_facets an_L_facets : Option Addr} {sl_L_facets : Array (Option Value)} {oc_L_facets kV_L_facets dc_L_facets pm_L_facets cd_L_facets ct_L_facets : Value}
    (a_L_facets : PySem.W.nsIn K mainGlobals "_law_facets" = some (some (.ref f_L_facets))) (l_L_facets : K.lookup f_L_facets = some ⟨oc_L_facets, od_L_facets, .func (PySem.W.fnOf "_law_facets" "_law_facets" (defArgs s_L_facets) (defBody s_L_facets) (defScope s_L_facets) .none kV_L_facets dc_L_facets pm_L_facets an_L_facets cd_L_facets ct_L_facets), sl_L_facets⟩) (q_L_facets : PySem.W.codeIn K cd_L_facets "_law_facets" = true) (k_L_facets : PySem.W.keepIn K (.ref f_L_facets) = true)
    {od_L_when an_L_when : Option Addr} {sl_L_when : Array (Option Value)} {oc_L_when kV_L_when dc_L_when pm_L_when cd_L_when ct_L_when : Value}
    (a_L_when : PySem.W.nsIn K mainGlobals "_law_when" = some (some (.ref f_L_when))) (l_L_when : K.lookup f_L_when = some ⟨oc_L_when, od_L_when, .func (PySem.W.fnOf "_law_when" "_law_when" (defArgs s_L_when) (defBody s_L_when) (defScope s_L_when) .none kV_L_when dc_L_when pm_L_when an_L_when cd_L_when ct_L_when), sl_L_when⟩) (q_L_when : PySem.W.codeIn K cd_L_when "_law_when" = true) (k_L_when : PySem.W.keepIn K (.ref f_L_when) = true)
    {od_L_rises an_L_rises : Option Addr} {sl_L_rises : Array (Option Value)} {oc_L_rises kV_L_rises dc_L_rises pm_L_rises cd_L_rises ct_L_rises : Value}
    (a_L_rises : PySem.W.nsIn K mainGlobals "_law_rises" = some (some (.ref f_L_rises))) (l_L_rises : K.lookup f_L_rises = some ⟨oc_L_rises, od_L_rises, .func (PySem.W.fnOf "_law_rises" "_law_rises" (defArgs s_L_rises) (defBody s_L_rises) (defScope s_L_rises) .none kV_L_rises dc_L_rises pm_L_rises an_L_rises cd_L_rises ct_L_rises), sl_L_rises⟩) (q_L_rises : PySem.W.codeIn K cd_L_rises "_law_rises" = true) (k_L_rises : PySem.W.keepIn K (.ref f_L_rises) = true)
    {od_L_when_size an_L_when_size : Option Addr} {sl_L_when_size : Array (Option Value)} {oc_L_when_size kV_L_when_size dc_L_when_size pm_L_when_size cd_L_when_size ct_L_when_size : Value}
    (a_L_when_size : PySem.W.nsIn K mainGlobals "_law_when_size" = some (some (.ref f_L_when_size))) (l_L_when_size : K.lookup f_L_when_size = some ⟨oc_L_when_size, od_L_when_size, .func (PySem.W.fnOf "_law_when_size" "_law_when_size" (defArgs s_L_when_size) (defBody s_L_when_size) (defScope s_L_when_size) .none kV_L_when_size dc_L_when_size pm_L_when_size an_L_when_size cd_L_when_size ct_L_when_size), sl_L_when_size⟩) (q_L_when_size : PySem.W.codeIn K cd_L_when_size "_law_when_size" = true) (k_L_when_size : PySem.W.keepIn K (.ref f_L_when_size) = true)
    {od_L_is_when an_L_is_when : Option Addr} {sl_L_is_when : Array (Option Value)} {oc_L_is_when kV_L_is_when dc_L_is_when pm_L_is_when cd_L_is_when ct_L_is_when : Value}
    (a_L_is_when : PySem.W.nsIn K mainGlobals "_law_is_when" = some (some (.ref f_L_is_when))) (l_L_is_when : K.lookup f_L_is_when = some ⟨oc_L_is_when, od_L_is_when, .func (PySem.W.fnOf "_law_is_when" "_law_is_when" (defArgs s_L_is_when) (defBody s_L_is_when) (defScope s_L_is_when) .none kV_L_is_when dc_L_is_when pm_L_is_when an_L_is_when cd_L_is_when ct_L_is_when), sl_L_is_when⟩) (q_L_is_when : PySem.W.codeIn K cd_L_is_when "_law_is_when" = true) (k_L_is_when : PySem.W.keepIn K (.ref f_L_is_when) = true)
    {od_L_odd an_L_odd : Option Addr} {sl_L_odd : Array (Option Value)} {oc_L_odd kV_L_odd dc_L_odd pm_L_odd cd_L_odd ct_L_odd : Value}
    (a_L_odd : PySem.W.nsIn K mainGlobals "_law_odd" = some (some (.ref f_L_odd))) (l_L_odd : K.lookup f_L_odd = some ⟨oc_L_odd, od_L_odd, .func (PySem.W.fnOf "_law_odd" "_law_odd" (defArgs s_L_odd) (defBody s_L_odd) (defScope s_L_odd) .none kV_L_odd dc_L_odd pm_L_odd an_L_odd cd_L_odd ct_L_odd), sl_L_odd⟩) (q_L_odd : PySem.W.codeIn K cd_L_odd "_law_odd" = true) (k_L_odd : PySem.W.keepIn K (.ref f_L_odd) = true)
    {od_L_bent an_L_bent : Option Addr} {sl_L_bent : Array (Option Value)} {oc_L_bent kV_L_bent dc_L_bent pm_L_bent cd_L_bent ct_L_bent : Value}
    (a_L_bent : PySem.W.nsIn K mainGlobals "_law_bent" = some (some (.ref f_L_bent))) (l_L_bent : K.lookup f_L_bent = some ⟨oc_L_bent, od_L_bent, .func (PySem.W.fnOf "_law_bent" "_law_bent" (defArgs s_L_bent) (defBody s_L_bent) (defScope s_L_bent) .none kV_L_bent dc_L_bent pm_L_bent an_L_bent cd_L_bent ct_L_bent), sl_L_bent⟩) (q_L_bent : PySem.W.codeIn K cd_L_bent "_law_bent" = true) (k_L_bent : PySem.W.keepIn K (.ref f_L_bent) = true)
    {od_L_at_bounds an_L_at_bounds : Option Addr} {sl_L_at_bounds : Array (Option Value)} {oc_L_at_bounds kV_L_at_bounds dc_L_at_bounds pm_L_at_bounds cd_L_at_bounds ct_L_at_bounds : Value}
    (a_L_at_bounds : PySem.W.nsIn K mainGlobals "_law_at_bounds" = some (some (.ref f_L_at_bounds))) (l_L_at_bounds : K.lookup f_L_at_bounds = some ⟨oc_L_at_bounds, od_L_at_bounds, .func (PySem.W.fnOf "_law_at_bounds" "_law_at_bounds" (defArgs s_L_at_bounds) (defBody s_L_at_bounds) (defScope s_L_at_bounds) .none kV_L_at_bounds dc_L_at_bounds pm_L_at_bounds an_L_at_bounds cd_L_at_bounds ct_L_at_bounds), sl_L_at_bounds⟩) (q_L_at_bounds : PySem.W.codeIn K cd_L_at_bounds "_law_at_bounds" = true) (k_L_at_bounds : PySem.W.keepIn K (.ref f_L_at_bounds) = true)
    {od_L_right an_L_right : Option Addr} {sl_L_right : Array (Option Value)} {oc_L_right kV_L_right dc_L_right pm_L_right cd_L_right ct_L_right : Value}
    (a_L_right : PySem.W.nsIn K mainGlobals "_law_right" = some (some (.ref f_L_right))) (l_L_right : K.lookup f_L_right = some ⟨oc_L_right, od_L_right, .func (PySem.W.fnOf "_law_right" "_law_right" (defArgs s_L_right) (defBody s_L_right) (defScope s_L_right) .none kV_L_right dc_L_right pm_L_right an_L_right cd_L_right ct_L_right), sl_L_right⟩) (q_L_right : PySem.W.codeIn K cd_L_right "_law_right" = true) (k_L_right : PySem.W.keepIn K (.ref f_L_right) = true)
    {od_L_law an_L_law : Option Addr} {sl_L_law : Array (Option Value)} {oc_L_law kV_L_law dc_L_law pm_L_law cd_L_law ct_L_law : Value}
    (a_L_law : PySem.W.nsIn K mainGlobals "law" = some (some (.ref f_L_law))) (l_L_law : K.lookup f_L_law = some ⟨oc_L_law, od_L_law, .func (PySem.W.fnOf "law" "law" (defArgs s_L_law) (defBody s_L_law) (defScope s_L_law) .none kV_L_law dc_L_law pm_L_law an_L_law cd_L_law ct_L_law), sl_L_law⟩) (q_L_law : PySem.W.codeIn K cd_L_law "law" = true) (k_L_law : PySem.W.keepIn K (.ref f_L_law) = true)
    (z_abs : PySem.W.nsIn K mainGlobals "abs" = some none)
    (z_all : PySem.W.nsIn K mainGlobals "all" = some none)
    (z_bool : PySem.W.nsIn K mainGlobals "bool" = some none)
    (z_dict : PySem.W.nsIn K mainGlobals "dict" = some none)
    (z_enumerate : PySem.W.nsIn K mainGlobals "enumerate" = some none)
    (z_int : PySem.W.nsIn K mainGlobals "int" = some none)
    (z_isinstance : PySem.W.nsIn K mainGlobals "isinstance" = some none)
    (z_len : PySem.W.nsIn K mainGlobals "len" = some none)
    (z_list : PySem.W.nsIn K mainGlobals "list" = some none)
    (z_max : PySem.W.nsIn K mainGlobals "max" = some none)
    (z_min : PySem.W.nsIn K mainGlobals "min" = some none)
    (z_range : PySem.W.nsIn K mainGlobals "range" = some none)
    (z_repr : PySem.W.nsIn K mainGlobals "repr" = some none)
    (z_sorted : PySem.W.nsIn K mainGlobals "sorted" = some none)
    (z_str : PySem.W.nsIn K mainGlobals "str" = some none)
    (z_sum : PySem.W.nsIn K mainGlobals "sum" = some none)
    (z_tuple : PySem.W.nsIn K mainGlobals "tuple" = some none)
    (z_zip : PySem.W.nsIn K mainGlobals "zip" = some none)
    {a_LONG_BY : Addr} {e_LONG_BY : Array DictEntry} {n_LONG_BY : Nat} (y_LONG_BY : PySem.W.nsIn K mainGlobals "LONG_BY" = some (some (.ref a_LONG_BY))) (yl_LONG_BY : K.lookup a_LONG_BY = some ⟨.type "dict", none, .dict e_LONG_BY n_LONG_BY, #[]⟩) (yk_LONG_BY : PySem.W.KeysLit w.params e_LONG_BY.toList) (ys_LONG_BY : (a_LONG_BY == sysModules) = false) (yt_LONG_BY : Paired EntOk e_LONG_BY.toList tb_LONG_BY)
    {t_IS : Tok} (y_IS : PySem.W.nsIn K mainGlobals "IS" = some (some (.str "is" t_IS)))
    {t_MOST_DEEP : Tok} (y_MOST_DEEP : PySem.W.nsIn K mainGlobals "MOST_DEEP" = some (some (.int (4) t_MOST_DEEP)))
    {t_MOST_PARTS : Tok} (y_MOST_PARTS : PySem.W.nsIn K mainGlobals "MOST_PARTS" = some (some (.int (8) t_MOST_PARTS)))
    : ∃ fd : FuncData, (∀ (s : Shared) (v : Value), BindsTo s fd ⟨[v], []⟩ [("_law_script", v)]) ∧ ∀ base : Heap, K.In base → base.Ns mainGlobals mg → FnG P w K mg base 47 fa fd ["_law_script"] (spD ⟨K, P, w⟩ d_L_law 1) := by
  have e := hfa.symm.trans (PySem.W.mg_of X G a_L_law)
  cases e
  have F_P_is_tuple := fun_mk (st := s_P_is_tuple) l_P_is_tuple q_P_is_tuple k_P_is_tuple
  have b_P_is_tuple := F_P_is_tuple.binds (ps := ["thing", "least", "most"]) fun _ _ _ _ _ _ us hl => match us, hl with | [_, _, _], _ => rfl
  have g_P_is_tuple := PySem.W.mg_of X G a_P_is_tuple
  have F_P_rises := fun_mk (st := s_P_rises) l_P_rises q_P_rises k_P_rises
  have b_P_rises := F_P_rises.binds (ps := ["some"]) fun _ _ _ _ _ _ us hl => match us, hl with | [_], _ => rfl
  have g_P_rises := PySem.W.mg_of X G a_P_rises
  have F_P_is_word_of := fun_mk (st := s_P_is_word_of) l_P_is_word_of q_P_is_word_of k_P_is_word_of
  have b_P_is_word_of := F_P_is_word_of.binds (ps := ["words", "thing"]) fun _ _ _ _ _ _ us hl => match us, hl with | [_, _], _ => rfl
  have g_P_is_word_of := PySem.W.mg_of X G a_P_is_word_of
  have F_P_are_words_of := fun_mk (st := s_P_are_words_of) l_P_are_words_of q_P_are_words_of k_P_are_words_of
  have b_P_are_words_of := F_P_are_words_of.binds (ps := ["words", "thing"]) fun _ _ _ _ _ _ us hl => match us, hl with | [_, _], _ => rfl
  have g_P_are_words_of := PySem.W.mg_of X G a_P_are_words_of
  have F_P_is_told := fun_mk (st := s_P_is_told) l_P_is_told q_P_is_told k_P_is_told
  have b_P_is_told := F_P_is_told.binds (ps := ["facets", "facet", "words"]) fun _ _ _ _ _ _ us hl => match us, hl with | [_, _, _], _ => rfl
  have g_P_is_told := PySem.W.mg_of X G a_P_is_told
  have F_P_parts_of_when := fun_mk (st := s_P_parts_of_when) l_P_parts_of_when q_P_parts_of_when k_P_parts_of_when
  have b_P_parts_of_when := F_P_parts_of_when.binds (ps := ["facets", "thing", "deep"]) fun _ _ _ _ _ _ us hl => match us, hl with | [_, _, _], _ => rfl
  have g_P_parts_of_when := PySem.W.mg_of X G a_P_parts_of_when
  have F_P_is_when := fun_mk (st := s_P_is_when) l_P_is_when q_P_is_when k_P_is_when
  have b_P_is_when := F_P_is_when.binds (ps := ["facets", "thing"]) fun _ _ _ _ _ _ us hl => match us, hl with | [_, _], _ => rfl
  have g_P_is_when := PySem.W.mg_of X G a_P_is_when
  have F_L_tape := fun_mk (st := s_L_tape) l_L_tape q_L_tape k_L_tape
  have b_L_tape := F_L_tape.binds (ps := ["_law_script", "_law_k"]) fun _ _ _ _ _ _ us hl => match us, hl with | [_, _], _ => rfl
  have g_L_tape := PySem.W.mg_of X G a_L_tape
  have F_L_draw := fun_mk (st := s_L_draw) l_L_draw q_L_draw k_L_draw
  have b_L_draw := F_L_draw.binds (ps := ["_law_tape_here", "_law_many"]) fun _ _ _ _ _ _ us hl => match us, hl with | [_, _], _ => rfl
  have g_L_draw := PySem.W.mg_of X G a_L_draw
  have F_L_folded := fun_mk (st := s_L_folded) l_L_folded q_L_folded k_L_folded
  have b_L_folded := F_L_folded.binds (ps := ["_law_script", "_law_many"]) fun _ _ _ _ _ _ us hl => match us, hl with | [_, _], _ => rfl
  have g_L_folded := PySem.W.mg_of X G a_L_folded
  have F_L_names := fun_mk (st := s_L_names) l_L_names q_L_names k_L_names
  have b_L_names := F_L_names.binds (ps := ["_law_tape_here", "_law_many"]) fun _ _ _ _ _ _ us hl => match us, hl with | [_, _], _ => rfl
  have g_L_names := PySem.W.mg_of X G a_L_names
  have F_L_part := fun_mk (st := s_L_part) l_L_part q_L_part k_L_part
  have b_L_part := F_L_part.binds (ps := ["_law_tape_here", "_law_some", "_law_many"]) fun _ _ _ _ _ _ us hl => match us, hl with | [_, _, _], _ => rfl
  have g_L_part := PySem.W.mg_of X G a_L_part
  have F_L_same := fun_mk (st := s_L_same) l_L_same q_L_same k_L_same
  have b_L_same := F_L_same.binds (ps := ["_law_found", "_law_due"]) fun _ _ _ _ _ _ us hl => match us, hl with | [_, _], _ => rfl
  have g_L_same := PySem.W.mg_of X G a_L_same
  have F_L_facets := fun_mk (st := s_L_facets) l_L_facets q_L_facets k_L_facets
  have b_L_facets := F_L_facets.binds (ps := ["_law_tape_here", "_law_many", "_law_most"]) fun _ _ _ _ _ _ us hl => match us, hl with | [_, _, _], _ => rfl
  have g_L_facets := PySem.W.mg_of X G a_L_facets
  have F_L_when := fun_mk (st := s_L_when) l_L_when q_L_when k_L_when
  have b_L_when := F_L_when.binds (ps := ["_law_tape_here", "_law_its_facets", "_law_deep"]) fun _ _ _ _ _ _ us hl => match us, hl with | [_, _, _], _ => rfl
  have g_L_when := PySem.W.mg_of X G a_L_when
  have F_L_rises := fun_mk (st := s_L_rises) l_L_rises q_L_rises k_L_rises
  have b_L_rises := F_L_rises.binds (ps := ["_law_some"]) fun _ _ _ _ _ _ us hl => match us, hl with | [_], _ => rfl
  have g_L_rises := PySem.W.mg_of X G a_L_rises
  have F_L_when_size := fun_mk (st := s_L_when_size) l_L_when_size q_L_when_size k_L_when_size
  have b_L_when_size := F_L_when_size.binds (ps := ["_law_its_facets", "_law_its_thing", "_law_deep"]) fun _ _ _ _ _ _ us hl => match us, hl with | [_, _, _], _ => rfl
  have g_L_when_size := PySem.W.mg_of X G a_L_when_size
  have F_L_is_when := fun_mk (st := s_L_is_when) l_L_is_when q_L_is_when k_L_is_when
  have b_L_is_when := F_L_is_when.binds (ps := ["_law_its_facets", "_law_its_thing"]) fun _ _ _ _ _ _ us hl => match us, hl with | [_, _], _ => rfl
  have g_L_is_when := PySem.W.mg_of X G a_L_is_when
  have F_L_odd := fun_mk (st := s_L_odd) l_L_odd q_L_odd k_L_odd
  have b_L_odd := F_L_odd.binds (ps := ["_law_tape_here", "_law_a_thing"]) fun _ _ _ _ _ _ us hl => match us, hl with | [_, _], _ => rfl
  have g_L_odd := PySem.W.mg_of X G a_L_odd
  have F_L_bent := fun_mk (st := s_L_bent) l_L_bent q_L_bent k_L_bent
  have b_L_bent := F_L_bent.binds (ps := ["_law_tape_here", "_law_a_thing"]) fun _ _ _ _ _ _ us hl => match us, hl with | [_, _], _ => rfl
  have g_L_bent := PySem.W.mg_of X G a_L_bent
  have F_L_at_bounds := fun_mk (st := s_L_at_bounds) l_L_at_bounds q_L_at_bounds k_L_at_bounds
  have b_L_at_bounds := F_L_at_bounds.binds (ps := ["_law_a_facets"]) fun _ _ _ _ _ _ us hl => match us, hl with | [_], _ => rfl
  have g_L_at_bounds := PySem.W.mg_of X G a_L_at_bounds
  have F_L_right := fun_mk (st := s_L_right) l_L_right q_L_right k_L_right
  have b_L_right := F_L_right.binds (ps := ["_law_tape_here"]) fun _ _ _ _ _ _ us hl => match us, hl with | [_], _ => rfl
  have g_L_right := PySem.W.mg_of X G a_L_right
  have F_L_law := fun_mk (st := s_L_law) l_L_law q_L_law k_L_law
  have b_L_law := F_L_law.binds (ps := ["_law_script"]) fun _ _ _ _ _ _ us hl => match us, hl with | [_], _ => rfl
  have g_L_law := PySem.W.mg_of X G a_L_law
  have m_abs := PySem.W.mg_none_of X G z_abs
  have m_all := PySem.W.mg_none_of X G z_all
  have m_bool := PySem.W.mg_none_of X G z_bool
  have m_dict := PySem.W.mg_none_of X G z_dict
  have m_enumerate := PySem.W.mg_none_of X G z_enumerate
  have m_int := PySem.W.mg_none_of X G z_int
  have m_isinstance := PySem.W.mg_none_of X G z_isinstance
  have m_len := PySem.W.mg_none_of X G z_len
  have m_list := PySem.W.mg_none_of X G z_list
  have m_max := PySem.W.mg_none_of X G z_max
  have m_min := PySem.W.mg_none_of X G z_min
  have m_range := PySem.W.mg_none_of X G z_range
  have m_repr := PySem.W.mg_none_of X G z_repr
  have m_sorted := PySem.W.mg_none_of X G z_sorted
  have m_str := PySem.W.mg_none_of X G z_str
  have m_sum := PySem.W.mg_none_of X G z_sum
  have m_tuple := PySem.W.mg_none_of X G z_tuple
  have m_zip := PySem.W.mg_none_of X G z_zip
  have c_LONG_BY : ∃ d, mg "LONG_BY" = some (.ref d) ∧ KTab K w d tb_LONG_BY := ⟨_, PySem.W.mg_of X G y_LONG_BY, _, _, ⟨yl_LONG_BY, yk_LONG_BY, ys_LONG_BY⟩, yt_LONG_BY⟩
  have c_IS : ∃ t, mg "IS" = some (.str "is" t) := ⟨_, PySem.W.mg_of X G y_IS⟩
  have c_MOST_DEEP : ∃ t, mg "MOST_DEEP" = some (.int (4) t) := ⟨_, PySem.W.mg_of X G y_MOST_DEEP⟩
  have c_MOST_PARTS : ∃ t, mg "MOST_PARTS" = some (.int (8) t) := ⟨_, PySem.W.mg_of X G y_MOST_PARTS⟩
  refine ⟨PySem.W.fnOf "law" "law" (defArgs s_L_law) (defBody s_L_law) (defScope s_L_law) .none kV_L_law dc_L_law pm_L_law an_L_law cd_L_law ct_L_law, fun s v => .of_eq rfl, fun base _ _ => ?_⟩
  have C_P_is_tuple := ok_P_is_tuple (P := P) (w := w) (base := base) F_P_is_tuple g_P_is_tuple b_P_is_tuple m_isinstance m_len m_tuple
  have C_P_rises := ok_P_rises (P := P) (w := w) (base := base) F_P_rises g_P_rises b_P_rises m_all m_zip
  have C_P_is_word_of := ok_P_is_word_of (P := P) (w := w) (base := base) F_P_is_word_of g_P_is_word_of b_P_is_word_of m_isinstance m_str
  have C_P_are_words_of := ok_P_are_words_of (P := P) (w := w) (base := base) F_P_are_words_of g_P_are_words_of b_P_are_words_of C_P_is_tuple C_P_is_word_of C_P_rises m_all m_len
  have C_P_is_told := ok_P_is_told (P := P) (w := w) (base := base) F_P_is_told g_P_is_told b_P_is_told C_P_are_words_of m_dict m_isinstance m_str
  have C_P_parts_of_when := ok_P_parts_of_when (P := P) (w := w) (base := base) F_P_parts_of_when g_P_parts_of_when b_P_parts_of_when C_P_is_tuple C_P_is_told m_int m_isinstance m_len m_str m_sum c_LONG_BY c_IS 40
  have C_P_is_when := ok_P_is_when (P := P) (w := w) (base := base) F_P_is_when g_P_is_when b_P_is_when C_P_parts_of_when c_MOST_DEEP c_MOST_PARTS
  have C_L_tape := ok_L_tape (P := P) (w := w) (base := base) F_L_tape g_L_tape b_L_tape m_abs m_int m_len
  have C_L_draw := ok_L_draw (P := P) (w := w) (base := base) F_L_draw g_L_draw b_L_draw
  have C_L_folded := ok_L_folded (P := P) (w := w) (base := base) F_L_folded g_L_folded b_L_folded m_enumerate m_list
  have C_L_names := ok_L_names (P := P) (w := w) (base := base) F_L_names g_L_names b_L_names C_L_draw m_int m_len m_range
  have C_L_part := ok_L_part (P := P) (w := w) (base := base) F_L_part g_L_part b_L_part C_L_draw m_len m_list m_range
  have C_L_same := ok_L_same (P := P) (w := w) (base := base) F_L_same g_L_same b_L_same m_all m_bool m_int m_isinstance m_len m_list m_str m_tuple m_zip 40
  have C_L_facets := ok_L_facets (P := P) (w := w) (base := base) F_L_facets g_L_facets b_L_facets C_L_names C_L_draw m_sorted m_tuple
  have C_L_when := ok_L_when (P := P) (w := w) (base := base) F_L_when g_L_when b_L_when C_L_draw C_L_part m_len m_min m_sorted m_tuple 40
  have C_L_rises := ok_L_rises (P := P) (w := w) (base := base) F_L_rises g_L_rises b_L_rises m_all m_zip
  have C_L_when_size := ok_L_when_size (P := P) (w := w) (base := base) F_L_when_size g_L_when_size b_L_when_size C_L_rises m_all m_int m_isinstance m_len m_str m_sum m_tuple 40
  have C_L_is_when := ok_L_is_when (P := P) (w := w) (base := base) F_L_is_when g_L_is_when b_L_is_when C_L_when_size
  have C_L_odd := ok_L_odd (P := P) (w := w) (base := base) F_L_odd g_L_odd b_L_odd C_L_draw m_isinstance m_len m_str
  have C_L_bent := ok_L_bent (P := P) (w := w) (base := base) F_L_bent g_L_bent b_L_bent C_L_draw C_L_odd m_isinstance m_len m_list m_tuple 40
  have C_L_at_bounds := ok_L_at_bounds (P := P) (w := w) (base := base) F_L_at_bounds g_L_at_bounds b_L_at_bounds
  have C_L_right := ok_L_right (P := P) (w := w) (base := base) F_L_right g_L_right b_L_right C_L_facets C_L_draw C_L_at_bounds C_L_when C_L_bent C_L_is_when C_P_is_when C_L_same m_range m_repr
  have C_L_law := ok_L_law (P := P) (w := w) (base := base) F_L_law g_L_law b_L_law C_L_folded C_L_right C_L_tape m_all m_len m_max m_range
  obtain ⟨f, fd, FF, GG, hm, _⟩ := C_L_law.ex
  have e := g_L_law.symm.trans hm
  cases e
  obtain ⟨oc, od, kV, doc, pm, an, cdv, ct, osl, rfl, lk, hcd⟩ := FF.ex
  have e := l_L_law.symm.trans lk
  cases e
  exact GG
end Lw
end

section
open PySem Zl Zr
local macro_rules | `(tactic| dsimp? [$es,*]) => `(tactic| simp only [↓r_C, ↓r_V, ↓r_Op, ↓r_OpV, ↓r_B, ↓r_And, ↓r_Or, ↓r_Not, ↓r_AndV, ↓r_OrV, ↓r_NotV, ↓r_If, ↓r_A0, ↓r_A1, ↓r_D0, ↓r_D1, ↓r_Tup, ↓r_Lst, ↓r_Un, ↓r_IsN, ↓r_O0, ↓r_O1, ↓r_Sl, ↓r_CB, ↓r_Is, ↓r_T, ↓r_Perm, ↓r_Nil, ↓r_Seq, ↓r_Bk, ↓r_Ct, ↓r_Drop, ↓r_Ret, ↓r_RetN, ↓r_IfS, ↓r_Set, ↓r_Asg, ↓r_P1, ↓r_Par, ↓r_gN, ↓r_gs0, ↓r_gs1, ↓r_gTL, ↓r_gT, ↓r_stS, ↓r_stRv, ↓r_stRo, ↓r_stRb, ↓r_fzv, ↓r_fzo, ↓r_rsv, ↓r_rso, ↓r_rsTv, ↓r_rsTo, ↓r_rsb, ↓r_rsTb, ↓r_rsL0, ↓r_rsL1, ↓r_unbv, ↓r_unbo, ↓r_unbb, ↓r_st0, ↓r_stv, ↓r_sto, ↓r_For, ↓r_Items, ↓r_Lc, ↓r_Yes, ↓r_va0, ↓r_va1, ↓r_vav, ↓r_vao, ↓r_vab, ↓r_Call, ↓r_CallIo, ↓r_CallTmp, ↓r_runF, ↓r_outs0, ↓r_outsO, ↓r_outsV, ↓r_outsS, ↓r_Meth, ↓r_SetIx, ↓r_Aug, ↓r_Lc2, ↓r_SM, ↓r_Rg1, ↓r_Rg2, ↓r_Enum, ↓r_Zip, ↓r_ZipS, ↓l_addI, ↓l_addS, ↓l_addT, ↓l_addL, ↓l_sub, ↓l_mulI, ↓l_mulS, ↓l_mulL, ↓l_fdiv, ↓l_mod, ↓l_pow, ↓l_neg, ↓l_lt, ↓l_le, ↓l_gt, ↓l_ge, ↓l_eqI, ↓l_eqS, ↓l_neI, ↓l_neS, ↓l_eqB, ↓l_neB, ↓l_ixL, ↓l_ixT, ↓l_ixS, ↓l_slL, ↓l_slT, ↓l_slS, ↓l_lenL, ↓l_lenT, ↓l_lenS, ↓l_listL, ↓l_listT, ↓l_tupL, ↓l_tupT, ↓l_all, ↓l_any, ↓l_sum, ↓l_abs, ↓l_intI, ↓l_intB, ↓l_max, ↓l_min, ↓l_app, ↓l_ext, ↓l_pop1, ↓l_clear, ↓l_setF, ↓l_tru_i, ↓l_tru_b, ↓l_tru_l, ↓l_tru_t, ↓l_tru_n, ↓l_tru_s, ↓r_fzb, ↓l_at0, ↓l_at1, ↓l_at2, ↓l_ix30, ↓l_ix31, ↓l_ix32, ↓l_join, ↓r_Thaw, ↓l_eqN, ↓l_ltSI, ↓l_ltSS, ↓l_isB, ↓l_notB, ↓l_revL, ↓l_revT, ↓l_revS, ↓l_ins, ↓l_upper, ↓l_repr, ↓l_mulT, ↓l_rev0, ↓l_inS, ↓r_Chain, ↓r_Frz, ↓r_FrzS, ↓r_Star, ↓r_DD0, ↓r_DD1, ↓r_Dict, ↓r_Get2, ↓r_Dict0, ↓l_din, ↓l_dix, ↓r_Kin, ↓r_Kix, ↓r_Kget, ↓l_strip, ↓l_maxL, ↓r_Ss, ↓r_SsA, ↓r_SsC, ↓r_CallM, ↓r_ioA0, ↓r_ioAt, ↓r_ioAf, ↓r_ioO0, ↓r_ioOt, ↓r_ioOf, ↓r_CallN, ↓r_ioN0, ↓r_ioNt, ↓r_ioNo, ↓r_ioNf, ↓r_ioM0, ↓r_ioMt, ↓r_ioMo, ↓r_ioMf, ↓r_SetK, ↓r_Nest, ↓r_nOw0, ↓r_nOw1, ↓l_find, ↓r_SetP, ↓l_putGs, ↓l_putGi, ↓l_putG0, ↓l_putGt, ↓l_put, ↓l_upd, ↓l_idx, ↓l_sdL, ↓l_putT, ↓l_pop0, ↓l_sortT, ↓l_dictT, ↓l_dictL, vIx, vIx_v, vIx_o, vIx_b, frz_0, frz_1, q_isDs, q_isDi, q_isDb, q_isDn, q_isDl, q_isDt, q_getV_v, q_getV_o, q_getV_s, q_isBool_v, q_isInt_v, q_isStr_v, q_isVal_v, q_isOwn_v, q_slV_v, q_slV_o, q_slV_s, q_slT_v, q_slT_o, q_vaS_v, q_vaS_o, q_vaS_s, q_valS_v, q_ownS_o, q_hdO_o, q_onFl_n, q_onFl_b, q_onFl_c, q_onFl_r, q_finS_n, q_finS_v, q_finS_o, q_ixS_o, q_ixS_v, q_ixS_s, q_fzS_o, q_fzS_v, q_fzS_s, q_retS_v, q_retS_o, q_retS_bo, q_retS_bv, q_ixR_b, q_wipe0, q_wipe1, q_resto0, q_resto1, q_inS_o, q_inS_v, q_inS_s, q_par, q_pS_t, q_pS_f, q_pS_v, q_pS_n, q_pS_s, q_okW0, q_okW1, q_kS_v, q_kS_n, q_kS_s, q_toD_l, q_nb_v, q_nb_o, q_ty_l, q_fzQ_v, q_fzQ_o, q_sz, q_thw0, q_thw_v, q_thw_n, q_thw_s, q_thw_o, q_thw_f, q_is_list_NoneType, q_is_list_bool, q_is_list_int, q_is_list_str, q_is_list_list, q_is_list_tuple, q_is_list_dict, q_is_tuple_NoneType, q_is_tuple_bool, q_is_tuple_int, q_is_tuple_str, q_is_tuple_list, q_is_tuple_tuple, q_is_tuple_dict, q_is_str_NoneType, q_is_str_bool, q_is_str_int, q_is_str_str, q_is_str_list, q_is_str_tuple, q_is_str_dict, q_is_bool_NoneType, q_is_bool_bool, q_is_bool_int, q_is_bool_str, q_is_bool_list, q_is_bool_tuple, q_is_bool_dict, q_is_int_NoneType, q_is_int_bool, q_is_int_int, q_is_int_str, q_is_int_list, q_is_int_tuple, q_is_int_dict, q_is_dict_NoneType, q_is_dict_bool, q_is_dict_int, q_is_dict_str, q_is_dict_list, q_is_dict_tuple, q_is_dict_dict, q_nd_NoneType, q_ndn_NoneType, q_nd_bool, q_ndn_bool, q_nd_int, q_ndn_int, q_nd_str, q_ndn_str, q_nd_list, q_ndn_list, q_nd_tuple, q_ndn_tuple, q_nd_dict, q_ndn_dict, q_cl_v, q_cl_o, q_cl_l, q_cl_n, q_cl_bo, q_cl_i, q_cl_s, q_cl_t, q_cl_0, q_cl_1, q_frQ_v, q_frQ_o, q_frQ_n, q_frQ_s, q_starQ, q_key_i, q_key_s, q_optQ, q_isDct, q_optM, q_getKD, q_lkS, q_lkI, q_lkT, q_noTp, q_toDd, q_toDt, q_strR, q_shR0, q_shRt, q_shRf, q_ioJ0, q_ioJt, q_ioJf, q_ioJo, q_fO0, q_fOv, q_fOb, q_fOo, q_setOs0, q_setOs1, q_setO0, q_setOn, q_nPar0, q_nPar1, q_nClr0, q_nClr1, q_dT, List.getElem?_cons_zero, List.getElem?_cons_succ, List.getElem?_nil, List.set_cons_zero, List.set_cons_succ, List.length_cons, List.length_nil, List.length_set, List.map_cons, List.map_nil, List.cons_append, List.nil_append, List.append_nil, List.replicate, List.reduceReplicate, true_and, and_true, and_self, if_true, if_false, Bool.false_eq_true, reduceIte, Option.getD_some, Option.getD_none, perm, Bool.not_true, Bool.not_false, Bool.and_true, Bool.true_and, List.not_mem_nil, not_false_eq_true, Nat.reduceAdd, Nat.reduceSub, Nat.reduceLT, Nat.reduceLeDiff, Nat.reduceMul, ite_self, List.any_cons, List.any_nil, beq_self_eq_true, decide_eq_true_eq, bne_self_eq_false, Bool.or_false, Bool.false_or, Bool.or_true, Bool.true_or, decide_true, decide_false, Option.map_some, ok_some, $es,*])
local macro_rules | `(tactic| dsimp?) => `(tactic| simp only [↓r_C, ↓r_V, ↓r_Op, ↓r_OpV, ↓r_B, ↓r_And, ↓r_Or, ↓r_Not, ↓r_AndV, ↓r_OrV, ↓r_NotV, ↓r_If, ↓r_A0, ↓r_A1, ↓r_D0, ↓r_D1, ↓r_Tup, ↓r_Lst, ↓r_Un, ↓r_IsN, ↓r_O0, ↓r_O1, ↓r_Sl, ↓r_CB, ↓r_Is, ↓r_T, ↓r_Perm, ↓r_Nil, ↓r_Seq, ↓r_Bk, ↓r_Ct, ↓r_Drop, ↓r_Ret, ↓r_RetN, ↓r_IfS, ↓r_Set, ↓r_Asg, ↓r_P1, ↓r_Par, ↓r_gN, ↓r_gs0, ↓r_gs1, ↓r_gTL, ↓r_gT, ↓r_stS, ↓r_stRv, ↓r_stRo, ↓r_stRb, ↓r_fzv, ↓r_fzo, ↓r_rsv, ↓r_rso, ↓r_rsTv, ↓r_rsTo, ↓r_rsb, ↓r_rsTb, ↓r_rsL0, ↓r_rsL1, ↓r_unbv, ↓r_unbo, ↓r_unbb, ↓r_st0, ↓r_stv, ↓r_sto, ↓r_For, ↓r_Items, ↓r_Lc, ↓r_Yes, ↓r_va0, ↓r_va1, ↓r_vav, ↓r_vao, ↓r_vab, ↓r_Call, ↓r_CallIo, ↓r_CallTmp, ↓r_runF, ↓r_outs0, ↓r_outsO, ↓r_outsV, ↓r_outsS, ↓r_Meth, ↓r_SetIx, ↓r_Aug, ↓r_Lc2, ↓r_SM, ↓r_Rg1, ↓r_Rg2, ↓r_Enum, ↓r_Zip, ↓r_ZipS, ↓l_addI, ↓l_addS, ↓l_addT, ↓l_addL, ↓l_sub, ↓l_mulI, ↓l_mulS, ↓l_mulL, ↓l_fdiv, ↓l_mod, ↓l_pow, ↓l_neg, ↓l_lt, ↓l_le, ↓l_gt, ↓l_ge, ↓l_eqI, ↓l_eqS, ↓l_neI, ↓l_neS, ↓l_eqB, ↓l_neB, ↓l_ixL, ↓l_ixT, ↓l_ixS, ↓l_slL, ↓l_slT, ↓l_slS, ↓l_lenL, ↓l_lenT, ↓l_lenS, ↓l_listL, ↓l_listT, ↓l_tupL, ↓l_tupT, ↓l_all, ↓l_any, ↓l_sum, ↓l_abs, ↓l_intI, ↓l_intB, ↓l_max, ↓l_min, ↓l_app, ↓l_ext, ↓l_pop1, ↓l_clear, ↓l_setF, ↓l_tru_i, ↓l_tru_b, ↓l_tru_l, ↓l_tru_t, ↓l_tru_n, ↓l_tru_s, ↓r_fzb, ↓l_at0, ↓l_at1, ↓l_at2, ↓l_ix30, ↓l_ix31, ↓l_ix32, ↓l_join, ↓r_Thaw, ↓l_eqN, ↓l_ltSI, ↓l_ltSS, ↓l_isB, ↓l_notB, ↓l_revL, ↓l_revT, ↓l_revS, ↓l_ins, ↓l_upper, ↓l_repr, ↓l_mulT, ↓l_rev0, ↓l_inS, ↓r_Chain, ↓r_Frz, ↓r_FrzS, ↓r_Star, ↓r_DD0, ↓r_DD1, ↓r_Dict, ↓r_Get2, ↓r_Dict0, ↓l_din, ↓l_dix, ↓r_Kin, ↓r_Kix, ↓r_Kget, ↓l_strip, ↓l_maxL, ↓r_Ss, ↓r_SsA, ↓r_SsC, ↓r_CallM, ↓r_ioA0, ↓r_ioAt, ↓r_ioAf, ↓r_ioO0, ↓r_ioOt, ↓r_ioOf, ↓r_CallN, ↓r_ioN0, ↓r_ioNt, ↓r_ioNo, ↓r_ioNf, ↓r_ioM0, ↓r_ioMt, ↓r_ioMo, ↓r_ioMf, ↓r_SetK, ↓r_Nest, ↓r_nOw0, ↓r_nOw1, ↓l_find, ↓r_SetP, ↓l_putGs, ↓l_putGi, ↓l_putG0, ↓l_putGt, ↓l_put, ↓l_upd, ↓l_idx, ↓l_sdL, ↓l_putT, ↓l_pop0, ↓l_sortT, ↓l_dictT, ↓l_dictL, vIx, vIx_v, vIx_o, vIx_b, frz_0, frz_1, q_isDs, q_isDi, q_isDb, q_isDn, q_isDl, q_isDt, q_getV_v, q_getV_o, q_getV_s, q_isBool_v, q_isInt_v, q_isStr_v, q_isVal_v, q_isOwn_v, q_slV_v, q_slV_o, q_slV_s, q_slT_v, q_slT_o, q_vaS_v, q_vaS_o, q_vaS_s, q_valS_v, q_ownS_o, q_hdO_o, q_onFl_n, q_onFl_b, q_onFl_c, q_onFl_r, q_finS_n, q_finS_v, q_finS_o, q_ixS_o, q_ixS_v, q_ixS_s, q_fzS_o, q_fzS_v, q_fzS_s, q_retS_v, q_retS_o, q_retS_bo, q_retS_bv, q_ixR_b, q_wipe0, q_wipe1, q_resto0, q_resto1, q_inS_o, q_inS_v, q_inS_s, q_par, q_pS_t, q_pS_f, q_pS_v, q_pS_n, q_pS_s, q_okW0, q_okW1, q_kS_v, q_kS_n, q_kS_s, q_toD_l, q_nb_v, q_nb_o, q_ty_l, q_fzQ_v, q_fzQ_o, q_sz, q_thw0, q_thw_v, q_thw_n, q_thw_s, q_thw_o, q_thw_f, q_is_list_NoneType, q_is_list_bool, q_is_list_int, q_is_list_str, q_is_list_list, q_is_list_tuple, q_is_list_dict, q_is_tuple_NoneType, q_is_tuple_bool, q_is_tuple_int, q_is_tuple_str, q_is_tuple_list, q_is_tuple_tuple, q_is_tuple_dict, q_is_str_NoneType, q_is_str_bool, q_is_str_int, q_is_str_str, q_is_str_list, q_is_str_tuple, q_is_str_dict, q_is_bool_NoneType, q_is_bool_bool, q_is_bool_int, q_is_bool_str, q_is_bool_list, q_is_bool_tuple, q_is_bool_dict, q_is_int_NoneType, q_is_int_bool, q_is_int_int, q_is_int_str, q_is_int_list, q_is_int_tuple, q_is_int_dict, q_is_dict_NoneType, q_is_dict_bool, q_is_dict_int, q_is_dict_str, q_is_dict_list, q_is_dict_tuple, q_is_dict_dict, q_nd_NoneType, q_ndn_NoneType, q_nd_bool, q_ndn_bool, q_nd_int, q_ndn_int, q_nd_str, q_ndn_str, q_nd_list, q_ndn_list, q_nd_tuple, q_ndn_tuple, q_nd_dict, q_ndn_dict, q_cl_v, q_cl_o, q_cl_l, q_cl_n, q_cl_bo, q_cl_i, q_cl_s, q_cl_t, q_cl_0, q_cl_1, q_frQ_v, q_frQ_o, q_frQ_n, q_frQ_s, q_starQ, q_key_i, q_key_s, q_optQ, q_isDct, q_optM, q_getKD, q_lkS, q_lkI, q_lkT, q_noTp, q_toDd, q_toDt, q_strR, q_shR0, q_shRt, q_shRf, q_ioJ0, q_ioJt, q_ioJf, q_ioJo, q_fO0, q_fOv, q_fOb, q_fOo, q_setOs0, q_setOs1, q_setO0, q_setOn, q_nPar0, q_nPar1, q_nClr0, q_nClr1, q_dT, List.getElem?_cons_zero, List.getElem?_cons_succ, List.getElem?_nil, List.set_cons_zero, List.set_cons_succ, List.length_cons, List.length_nil, List.length_set, List.map_cons, List.map_nil, List.cons_append, List.nil_append, List.append_nil, List.replicate, List.reduceReplicate, true_and, and_true, and_self, if_true, if_false, Bool.false_eq_true, reduceIte, Option.getD_some, Option.getD_none, perm, Bool.not_true, Bool.not_false, Bool.and_true, Bool.true_and, List.not_mem_nil, not_false_eq_true, Nat.reduceAdd, Nat.reduceSub, Nat.reduceLT, Nat.reduceLeDiff, Nat.reduceMul, ite_self, List.any_cons, List.any_nil, beq_self_eq_true, decide_eq_true_eq, bne_self_eq_false, Bool.or_false, Bool.false_or, Bool.or_true, Bool.true_or, decide_true, decide_false, Option.map_some, ok_some])

-- P_k04
section
namespace Lw
open PySem Zl Zr
def Tp (n : Nat) (o : O) : Prop := ∃ a b c : Int, o = .lst [.int a, .int b, .int c] ∧ 0 ≤ a ∧ 0 ≤ b ∧ b < 2 ^ 62 ∧ 0 ≤ c ∧ c + n ≤ 100000000000
theorem draw_ok {n : Nat} {o : O} {b : Bool} {m : Int} (h : Tp (n + 1) o) (hm : 0 < m) (hm2 : m < 1000000) :
    Ok (d_L_draw [.own b o, .val (.int m)]) fun q => ∃ r o', q = (.val (.int r), [.own b o', .val (.int m)]) ∧ 0 ≤ r ∧ r < m ∧ Tp n o' := by
  obtain ⟨x, y, c, rfl, hx, hy, hy2, hc, hc2⟩ := h
  unfold d_L_draw b_L_draw
  dsimp?
  by_cases hp : x > 0
  · simp only [hp, decide_true, if_true]
    exact ⟨hm, ⟨hm, log_lt (by omega)⟩, _, _, rfl, Int.emod_nonneg _ (by omega), Int.emod_lt_of_pos _ hm, _, _, _, rfl, Int.ediv_nonneg hx (by omega), hy, hy2, hc, by omega⟩
  · simp only [hp, decide_false, if_false, Bool.false_eq_true]
    have u0 : 0 ≤ (y + 39373 * (c + 1)) ^ Int.toNat 5 % 2147483647 := Int.emod_nonneg _ (by decide)
    have u1 : (y + 39373 * (c + 1)) ^ Int.toNat 5 % 2147483647 < 2147483647 := Int.emod_lt_of_pos _ (by decide)
    generalize (y + 39373 * (c + 1)) ^ Int.toNat 5 % 2147483647 = u at u0 u1
    have v0 : 0 ≤ (u + (c + 1)) * (u % 40009 + 7 + (c + 1)) % 2147483629 := Int.emod_nonneg _ (by decide)
    have v1 : (u + (c + 1)) * (u % 40009 + 7 + (c + 1)) % 2147483629 < 2147483629 := Int.emod_lt_of_pos _ (by decide)
    generalize (u + (c + 1)) * (u % 40009 + 7 + (c + 1)) % 2147483629 = v at v0 v1
    exact ⟨mulOk_l (by decide), ⟨by decide, by decide, by omega⟩, by decide, by decide, mulOk_l (by omega), by decide, ⟨by decide, by decide⟩, mulOk_l (by omega), by decide, mulOk_l (by omega), mulOk_r (by decide), by decide, ⟨by decide, by decide⟩, hm,
      _, _, rfl, Int.emod_nonneg _ (by omega), Int.emod_lt_of_pos _ hm, _, _, _, rfl, hx, hy, hy2, by omega, by omega⟩

theorem Tp.le {n m : Nat} {o : O} (h : Tp n o) (l : m ≤ n) : Tp m o := by
  obtain ⟨x, y, c, rfl, hx, hy, hy2, hc, hc2⟩ := h
  exact ⟨x, y, c, rfl, hx, hy, hy2, hc, by omega⟩
theorem ofs_e : (Str.ofString "").length = 0 := rfl
/-- a text of small letters -/
def Az (k : Nat) (x : Str) : Prop := x.length ≤ k ∧ ∀ c ∈ x.cps.toList, 97 ≤ c ∧ c ≤ 122
theorem Az.wd {k : Nat} {x : Str} (h : Az k x) : Wd k x := ⟨h.1, fun c hc => by have := h.2 c hc; omega⟩
theorem Az.mono {a b : Nat} {x : Str} (h : Az a x) (l : a ≤ b) : Az b x := ⟨Nat.le_trans h.1 l, h.2⟩
theorem Az.app {a b : Nat} {x y : Str} (h : Az a x) (k : Az b y) : Az (a + b) (x ++ y) := by
  refine ⟨by rw [str_len_app]; exact Nat.add_le_add h.1 k.1, fun c hc => ?_⟩
  have : c ∈ (x.cps ++ y.cps).toList := hc
  rw [Array.toList_append, List.mem_append] at this
  exact this.elim (h.2 c) (k.2 c)
theorem Az.cut {a : Nat} {x : Str} (h : Az a x) (lo hi : Option Int) : Az a (L2.cutS x lo hi) := by
  refine ⟨Nat.le_trans (L2.cutS_length x lo hi) h.1, fun c hc => h.2 c ?_⟩
  simp only [L2.cutS] at hc
  exact List.mem_of_mem_drop (List.mem_of_mem_take hc)
theorem az_one {c : Nat} (h : 97 ≤ c ∧ c ≤ 122) : Az 1 ⟨#[c]⟩ := ⟨Nat.le_refl 1, fun d hd => by simp at hd; omega⟩
theorem repS0 {x : Str} : repS x 0 = ⟨#[]⟩ := by simp [repS]
theorem repS1 {x : Str} : repS x 1 = x := by simp [repS, List.replicate]
theorem Az.rep {a : Nat} {x : Str} (h : Az a x) {n : Nat} (hn : n ≤ 1) : Az a (repS x n) := by
  match n, hn with
  | 0, _ => rw [repS0]; exact ⟨by simp [Str.length], fun c hc => by simp at hc⟩
  | 1, _ => rw [repS1]; exact h
theorem az_e : Az 0 (Str.ofString "") := by
  have e : Str.ofString "" = ⟨#[]⟩ := rfl
  rw [e]; exact ⟨Nat.le_refl 0, fun c hc => by simp at hc⟩
theorem az_join : ∀ xs : List Str, (∀ x ∈ xs, Az 1 x) → Az xs.length (Str.join (Str.ofString "") xs)
  | [], _ => ⟨Nat.le_refl 0, fun c hc => by simp [Str.join, Str.empty] at hc⟩
  | [x], h => h x List.mem_cons_self
  | x :: y :: r, h => by
    have ih := az_join (y :: r) fun z hz => h z (List.mem_cons_of_mem _ hz)
    have e : (x :: y :: r).length = 1 + 0 + (y :: r).length := by simp; omega
    rw [e]
    exact ((h x List.mem_cons_self).app az_e).app ih
theorem abc_len : (Str.ofString "abcdefghijklmnopqrstuvwxyz").length = 26 := by decide +kernel
theorem abc_is : (Str.ofString "abcdefghijklmnopqrstuvwxyz").cps.toList = (List.range 26).map (97 + ·) := by decide +kernel
theorem abc_at {i : Int} (h0 : 0 ≤ i) (h : i < 26) : L2.atI (Str.ofString "abcdefghijklmnopqrstuvwxyz").cps.toList i = some (97 + i.toNat) := by
  obtain ⟨h', e⟩ := at_int (xs := (Str.ofString "abcdefghijklmnopqrstuvwxyz").cps.toList) h0 (by rw [abc_is]; simp; omega)
  rw [e]
  congr 1
  simp [abc_is]
theorem cut_pair {z : Str} {k : Int} (h0 : 0 ≤ k) (h : k < z.length + 1) : (L2.cutS z none (some k)).length + (L2.cutS z (some k) none).length = z.length := by
  obtain ⟨n, rfl⟩ : ∃ n : Nat, k = n := ⟨k.toNat, by omega⟩
  simp only [L2.cutS, Str.length, HT.sIx_none, HT.sIx_nat, List.size_toArray, List.length_take, List.length_drop, Array.length_toList] at h ⊢
  omega
theorem str_ext {x y : Str} (h : x.cps.toList = y.cps.toList) : x = y := by
  cases x; cases y
  simp only [Str.mk.injEq]
  exact Array.toList_inj.mp h
theorem app_inj {x y z : Str} (h : x ++ y = x ++ z) : y = z := by
  refine str_ext ?_
  have : (x ++ y).cps.toList = (x ++ z).cps.toList := by rw [h]
  have e1 : (x ++ y).cps.toList = x.cps.toList ++ y.cps.toList := Array.toList_append
  have e2 : (x ++ z).cps.toList = x.cps.toList ++ z.cps.toList := Array.toList_append
  rw [e1, e2] at this
  exact List.append_cancel_left this
theorem one_inj {c d : Nat} {y z : Str} (h : (⟨#[c]⟩ : Str) ++ y = ⟨#[d]⟩ ++ z) : c = d ∧ y = z := by
  have : ((⟨#[c]⟩ : Str) ++ y).cps.toList = ((⟨#[d]⟩ : Str) ++ z).cps.toList := by rw [h]
  have e1 : ((⟨#[c]⟩ : Str) ++ y).cps.toList = [c] ++ y.cps.toList := Array.toList_append
  have e2 : ((⟨#[d]⟩ : Str) ++ z).cps.toList = [d] ++ z.cps.toList := Array.toList_append
  rw [e1, e2] at this
  simp only [List.cons_append, List.nil_append, List.cons.injEq] at this
  exact ⟨this.1, str_ext this.2⟩
theorem app_assoc (x y z : Str) : x ++ y ++ z = x ++ (y ++ z) := by
  refine str_ext ?_
  show ((x.cps ++ y.cps) ++ z.cps).toList = (x.cps ++ (y.cps ++ z.cps)).toList
  rw [Array.append_assoc]
/-- the k-th name's parts -/
def nE (w : Int) (k : Nat) : Int := if w = 1 then (k : Int) / 2 else k
def nY (w : Int) (tl : Str) (k : Nat) : Str := if w = 0 then tl else if w = 1 then repS tl ((k : Int) % 2).toNat else L2.cutS tl none (some ((k : Int) % (tl.length + 1)))
def nF (hd tl : Str) (r s w : Int) (k : Nat) : Str := hd ++ ⟨#[97 + ((r + s * nE w k) % 26).toNat]⟩ ++ nY w tl k
theorem nF_inj {hd tl : Str} {r s w : Int} (hs : s = 1 ∨ s = 7 ∨ s = 25) (hw : 0 ≤ w ∧ w < 3) (ht : w = 1 → tl.length ≠ 0) {i j : Nat} (hi : i < 26) (hj : j < 26) (h : nF hd tl r s w i = nF hd tl r s w j) : i = j := by
  unfold nF at h
  rw [app_assoc, app_assoc] at h
  obtain ⟨h1, h2⟩ := one_inj (app_inj h)
  have m1 : 0 ≤ (r + s * nE w i) % 26 := Int.emod_nonneg _ (by decide)
  have m2 : 0 ≤ (r + s * nE w j) % 26 := Int.emod_nonneg _ (by decide)
  have h3 : (r + s * nE w i) % 26 = (r + s * nE w j) % 26 := by omega
  have ne : nE w i = nE w j := by
    have b1 : 0 ≤ nE w i ∧ nE w i < 26 := by unfold nE; split <;> omega
    have b2 : 0 ≤ nE w j ∧ nE w j < 26 := by unfold nE; split <;> omega
    rcases hs with rfl | rfl | rfl <;> omega
  by_cases hw1 : w = 1
  · subst hw1
    simp only [nE, if_true] at ne
    simp only [nY, if_true] at h2
    rw [if_neg (by decide), if_neg (by decide)] at h2
    have hlen := ht rfl
    by_cases hp : (i : Int) % 2 = (j : Int) % 2
    · omega
    · exfalso
      have : ((i : Int) % 2 = 0 ∧ (j : Int) % 2 = 1) ∨ ((i : Int) % 2 = 1 ∧ (j : Int) % 2 = 0) := by omega
      rcases this with ⟨a, b⟩ | ⟨a, b⟩
      · rw [a, b] at h2
        have h2 : repS tl 0 = repS tl 1 := h2
        rw [repS0, repS1] at h2
        rw [← h2] at hlen
        exact hlen rfl
      · rw [a, b] at h2
        have h2 : repS tl 1 = repS tl 0 := h2
        rw [repS0, repS1] at h2
        rw [h2] at hlen
        exact hlen rfl
  · simp only [nE, hw1, if_false] at ne
    omega
def Nm (x : Str) : Prop := 1 ≤ x.length ∧ Az 8 x
theorem names_ok {n : Nat} {o : O} {b : Bool} {m : Int} (h : Tp (n + 20) o) (hm : 0 ≤ m) (hm2 : m ≤ 26) :
    Ok (d_L_names [.own b o, .val (.int m)]) fun q => ∃ (ws : List Str) (o' : O), q = (.own (.lst (ws.map PyData.str)), [.own b o', .val (.int m)]) ∧ (ws.length : Int) = m ∧ ws.Nodup ∧ (∀ w ∈ ws, Nm w) ∧ Tp n o' := by
  unfold d_L_names b_L_names
  dsimp?
  refine (draw_ok h (by decide) (by decide)).mono fun q hq => ?_
  obtain ⟨r1, o1, rfl, h10, h11, T1⟩ := hq
  dsimp?
  refine (draw_ok T1 (by decide) (by decide)).mono fun q hq => ?_
  obtain ⟨r2, o2, rfl, h20, h21, T2⟩ := hq
  dsimp?
  refine ⟨⟨by omega, by omega⟩, ?_⟩
  refine ok_lcL (fun r ρ acc => ∃ (o' : O) (xs : List Str), ρ = [Sl.own true o', Sl.val (PyData.int m), Sl.val (PyData.str (Str.ofString "abcdefghijklmnopqrstuvwxyz")), Sl.val (PyData.int r1), Sl.no, Sl.no, Sl.no, Sl.no, Sl.no, Sl.no, Sl.no, Sl.no, Sl.no] ∧ acc = xs.map PyData.str ∧ (∀ x ∈ xs, Az 1 x) ∧ xs.length + r.length ≤ 7 ∧ Tp (n + 10 + r.length) o') ⟨o2, [], rfl, rfl, by simp, by rw [rng_len]; simp; omega, T2.le (by rw [rng_len]; omega)⟩ (fun d r ρ acc h => ?_) fun ρ acc h => ?_
  · obtain ⟨o', xs, rfl, rfl, hx, hl, T⟩ := h
    dsimp?
    refine (draw_ok T (by decide) (by decide)).mono fun q hq => ?_
    obtain ⟨r3, o3, rfl, h30, h31, T3⟩ := hq
    dsimp? [abc_len]
    refine ok_eq (abc_at h30 h31) ?_
    simp only [List.length_cons] at hl
    refine ⟨by simp; omega, _, xs ++ [⟨#[97 + r3.toNat]⟩], rfl, by simp, fun x hx' => ?_, by simp; omega, T3⟩
    rcases List.mem_append.mp hx' with h | h
    · exact hx x h
    · rw [List.mem_singleton.mp h]; exact az_one (by omega)
  · obtain ⟨o', xs, rfl, rfl, hx, hl, T⟩ := h
    have hs := az_join xs hx
    have hsum := sum_le fun x h => (hx x h).wd
    simp only [List.length_nil] at hl T
    dsimp? [ofs_e]
    refine ⟨by omega, ?_⟩
    generalize Str.join (Str.ofString "") xs = st at hs
    have hs := hs.mono (show xs.length ≤ 7 by omega)
    have hsl := hs.1
    refine ⟨by omega, ?_⟩
    refine (draw_ok (T.le (show n + 10 ≤ _ by omega)) (by omega) (by omega)).mono fun q hq => ?_
    obtain ⟨r3, o3, rfl, h30, h31, T3⟩ := hq
    dsimp?
    refine (draw_ok T3 (by decide) (by decide)).mono fun q hq => ?_
    obtain ⟨r4, o4, rfl, h40, h41, T4⟩ := hq
    dsimp?
    obtain ⟨d, ed, hd⟩ := at_mem (xs := [PyData.int 1, PyData.int 7, PyData.int 25]) h40 h41
    refine ok_eq ed ?_
    obtain ⟨s1, rfl, hs1⟩ : ∃ s1 : Int, d = .int s1 ∧ (s1 = 1 ∨ s1 = 7 ∨ s1 = 25) := by
      simp only [List.mem_cons, List.not_mem_nil, or_false] at hd
      rcases hd with rfl | rfl | rfl
      · exact ⟨1, rfl, .inl rfl⟩
      · exact ⟨7, rfl, .inr (.inl rfl)⟩
      · exact ⟨25, rfl, .inr (.inr rfl)⟩
    refine ⟨by omega, by omega, ⟨by omega, by omega⟩, ?_⟩
    have hh := hs.cut none (some r3)
    have ht := hs.cut (some r3) none
    have hcp := cut_pair h30 h31
    generalize L2.cutS st none (some r3) = hd at hh hcp
    generalize L2.cutS st (some r3) none = tl at ht hcp
    have htl := ht.1
    generalize hwv : (r1 + r3 + (st.length : Int)) % 3 * (if (!decide (tl = Str.ofString "")) = true then 1 else 0) = wv
    have hw3 : 0 ≤ wv ∧ wv < 3 := by rw [← hwv]; split <;> omega
    have hwt : wv = 1 → tl.length ≠ 0 := fun e1 e2 => by
      have : tl = Str.ofString "" := by
        refine str_ext ?_
        have : tl.cps.toList = [] := List.eq_nil_of_length_eq_zero (by simpa [Str.length] using e2)
        rw [this]; rfl
      rw [if_neg (by simp [this])] at hwv
      omega
    refine ok_forI (fun i ρ => ∃ (a1 a2 a3 : Sl), ρ = [Sl.own true o4, Sl.val (PyData.int m), Sl.val (PyData.str (Str.ofString "abcdefghijklmnopqrstuvwxyz")), Sl.val (PyData.int r1), Sl.val (PyData.str st), Sl.val (PyData.int r3), Sl.val (.int s1),
        Sl.own false (O.lst (((List.range i).map (nF hd tl r1 s1 wv)).map PyData.str)), Sl.val (PyData.str hd), Sl.val (PyData.str tl), a1, a2, a3] ∧ pS (some a1) = false ∧ pS (some a2) = false ∧ pS (some a3) = false)
      ⟨_, _, _, rfl, rfl, rfl, rfl⟩ (fun i hi ρ h => ?_) fun ρ h => ?_
    · obtain ⟨a1, a2, a3, rfl, e1, e2, e3⟩ := h
      obtain ⟨hi', ei⟩ := rng_get hi
      have hi2 : (i : Int) < m := by omega
      rw [ei]
      dsimp? [e1, e2, e3]
      refine ⟨by omega, by decide, mulOk_l (by omega), ⟨by decide, by decide⟩, ?_⟩
      rw [hwv]
      have eE : L2.atI [PyData.int i, PyData.int ((i : Int) / 2), PyData.int i] wv = some (.int (nE wv i)) := by
        have : wv = 0 ∨ wv = 1 ∨ wv = 2 := by omega
        rcases this with rfl | rfl | rfl <;> rfl
      have bE : 0 ≤ nE wv i ∧ nE wv i < 26 := by unfold nE; split <;> omega
      refine ok_eq eE ?_
      dsimp? [abc_len, e3]
      have m1 : 0 ≤ (r1 + s1 * nE wv i) % 26 := Int.emod_nonneg _ (by decide)
      have m2 : (r1 + s1 * nE wv i) % 26 < 26 := Int.emod_lt_of_pos _ (by decide)
      refine ⟨mulOk_r (by omega), by decide, ok_eq (abc_at m1 m2) ?_⟩
      have hlh := hh.1
      refine ⟨by simp only [Str.length] at *; simp; omega, by decide, ⟨by omega, by omega, by omega⟩, by omega, by omega, by omega, ?_⟩
      have eY : L2.atI [PyData.str tl, PyData.str (repS tl ((i : Int) % 2).toNat), PyData.str (L2.cutS tl none (some ((i : Int) % (↑tl.length + 1))))] wv = some (.str (nY wv tl i)) := by
        have : wv = 0 ∨ wv = 1 ∨ wv = 2 := by omega
        rcases this with rfl | rfl | rfl <;> rfl
      have bY : (nY wv tl i).length ≤ 7 := by
        unfold nY
        split
        · omega
        · split
          · exact (ht.rep (by omega)).1
          · exact (ht.cut _ _).1
      refine ok_eq eY ?_
      dsimp?
      refine ⟨?_, by simp; omega, Sl.val (.int i), Sl.val (.int wv), Sl.val (.str ⟨#[97 + ((r1 + s1 * nE wv i) % 26).toNat]⟩), ?_, rfl, rfl, rfl⟩
      · rw [str_len_app]; simp only [Str.length] at *; simp; omega
      · rw [List.range_succ, List.map_append, List.map_append]; rfl
    · obtain ⟨a1, a2, a3, rfl, e1, e2, e3⟩ := h
      dsimp?
      rw [rng_len]
      refine ⟨_, o4, rfl, by simp; omega, ?_, fun w hw => ?_, T4.le (by omega)⟩
      · rw [List.nodup_iff_pairwise_ne, List.pairwise_map]
        refine List.pairwise_iff_getElem.mpr fun i j hi hj hij => fun e => ?_
        simp only [List.length_range] at hi hj
        rw [List.getElem_range, List.getElem_range] at e
        have := nF_inj hs1 hw3 hwt (by omega) (by omega) e
        omega
      · obtain ⟨k, hk, rfl⟩ := List.mem_map.mp hw
        have aY : Az tl.length (nY wv tl k) := by
          have ht' : Az tl.length tl := ⟨Nat.le_refl _, ht.2⟩
          unfold nY
          split
          · exact ht'
          · split
            · exact ht'.rep (by omega)
            · exact ht'.cut _ _
        have m1 : 0 ≤ (r1 + s1 * nE wv k) % 26 := Int.emod_nonneg _ (by decide)
        have m2 : (r1 + s1 * nE wv k) % 26 < 26 := Int.emod_lt_of_pos _ (by decide)
        have aH : Az hd.length hd := ⟨Nat.le_refl _, hh.2⟩
        have := (aH.app (az_one (c := 97 + ((r1 + s1 * nE wv k) % 26).toNat) (by omega))).app aY
        refine ⟨?_, this.mono (by omega)⟩
        unfold nF
        rw [str_len_app, str_len_app]
        simp [Str.length]
        omega
end Lw
end

-- Q_k04
section
namespace Lw
open PySem Zl Zr
theorem part_ok {n : Nat} {o : O} {b : Bool} {m : Int} {ds : List D} (h : Tp (n + 64) o) (hm : 0 ≤ m) (hl : m ≤ ds.length) (hd : ds.length ≤ 60) :
    Ok (d_L_part [.own b o, .val (.tuple ds), .val (.int m)]) fun q => ∃ (es : List D) (o' : O), q = (.own (.lst es), [.own b o', .val (.tuple ds), .val (.int m)]) ∧ (es.length : Int) = m ∧ (∀ e ∈ es, e ∈ ds) ∧ Tp n o' := by
  unfold d_L_part b_L_part
  dsimp?
  refine ⟨⟨by omega, by omega⟩, ?_⟩
  refine ok_lcL (fun r ρ acc => ∃ (o' : O) (ls : List D), ρ = [Sl.own true o', Sl.val (.tuple ds), Sl.val (.int m), Sl.own false (.lst ls), Sl.no] ∧ (∀ e ∈ ls, e ∈ ds) ∧ (∀ e ∈ acc, e ∈ ds) ∧ acc.length + ls.length = ds.length ∧ ((acc.length + r.length : Nat) : Int) = m ∧ Tp (n + r.length) o') ⟨o, ds, rfl, fun _ h => h, by simp, by simp, by rw [rng_len]; simp; omega, h.le (by rw [rng_len]; omega)⟩ (fun d r ρ acc h => ?_) fun ρ acc h => ?_
  · obtain ⟨o', ls, rfl, h1, h2, h3, h4, T⟩ := h
    simp only [List.length_cons] at h4 T
    dsimp?
    refine (draw_ok T (by omega) (by omega)).mono fun q hq => ?_
    obtain ⟨r3, o3, rfl, h30, h31, T3⟩ := hq
    dsimp?
    refine ⟨⟨by omega, by omega⟩, ?_⟩
    have hk : r3.toNat < ls.length := by omega
    have ek : seqIndex? r3 ls.length = some r3.toNat := by
      have e1 : ¬ r3 < 0 := by omega
      have e2 : r3 < (ls.length : Int) := by omega
      simp only [seqIndex?, e1, if_false]
      simp [h30, e2]
    refine ok_eq ek (ok_eq (List.getElem?_eq_getElem hk) ?_)
    refine ⟨by omega, _, _, rfl, fun e he => h1 e (List.mem_of_mem_eraseIdx he), fun e he => ?_, ?_, by simp; omega, T3⟩
    · rcases List.mem_append.mp he with h | h
      · exact h2 e h
      · rw [List.mem_singleton.mp h]; exact h1 _ (List.getElem_mem hk)
    · rw [List.length_append, List.length_eraseIdx_of_lt hk]; simp; omega
  · obtain ⟨o', ls, rfl, h1, h2, h3, h4, T⟩ := h
    (try dsimp?)
    exact ⟨acc, o', rfl, by simpa using h4, h2, T⟩
/-- data that can be laid side by side: lists and tuples k deep -/
def Gd : Nat → D → Prop
  | _, .none => True
  | _, .bool _ => True
  | _, .int _ => True
  | _, .str x => ∀ c ∈ x.cps.toList, c < 1114112
  | k + 1, .list xs => xs.length ≤ 16777216 ∧ ∀ x ∈ xs, Gd k x
  | k + 1, .tuple xs => xs.length ≤ 16777216 ∧ ∀ x ∈ xs, Gd k x
  | _, _ => False
theorem gd_shape : ∀ (k : Nat) (d : D), Gd k d → d.canLay0 = true ∧ d.depth ≤ k
  | k, .none, _ | k, .bool _, _ | k, .int _, _ => by simp [PyData.canLay0, PyData.depth]
  | k, .str x, h => by
    refine ⟨?_, by simp [PyData.depth]⟩
    have h' : ∀ c ∈ x.cps.toList, c < 1114112 := by cases k <;> exact h
    simp only [PyData.canLay0, PyData.strOk, Array.all_eq_true]
    intro i hi
    have := h' x.cps[i] (by simp)
    simpa using this
  | 0, .list _, h | 0, .tuple _, h => by cases h
  | k + 1, .list xs, h | k + 1, .tuple xs, h => by
    have a : ∀ ys : List D, (∀ y ∈ ys, Gd k y) → PyData.canLayAll0 ys = true ∧ PyData.depthAll ys ≤ k := fun ys => by
      induction ys with
      | nil => intro _; simp [PyData.canLayAll0, PyData.depthAll]
      | cons y ys ih =>
        intro hy
        have h1 := gd_shape k y (hy y List.mem_cons_self)
        have h2 := ih fun z hz => hy z (List.mem_cons_of_mem _ hz)
        simp only [PyData.canLayAll0, PyData.depthAll, h1.1, h2.1, Bool.and_self, true_and]
        omega
    have := a xs h.2
    simp only [PyData.canLay0, PyData.depth]
    exact ⟨this.1, by omega⟩
  | 0, .dict _, h => by cases h
  | _ + 1, .dict _, h => by cases h
theorem gd_shaped {k : Nat} {d : D} (h : Gd k d) (hk : k ≤ 64) : SeqAt.shaped d = true := by
  have := gd_shape k d h
  simp only [SeqAt.shaped, this.1, Bool.true_and, decide_eq_true_eq]
  omega
theorem same_ok : ∀ (k : Nat) (d : D), Gd k d → Ok (d_L_same (k + 1) [.val d, .val d]) (· = (.val (.bool true), [.val d, .val d])) := fun k => by
  induction k with
  | zero =>
    intro d h
    unfold d_L_same b_L_same
    cases d with
    | none => dsimp?
    | bool v => dsimp?
    | int v => dsimp?
    | str v => dsimp?
    | list ds => cases h
    | tuple ds => cases h
    | dict ks => cases h
  | succ k ih =>
    intro d h
    unfold d_L_same b_L_same
    cases d with
    | none => dsimp?
    | bool v => dsimp?
    | int v => dsimp?
    | str v => dsimp?
    | list ds =>
      dsimp?
      refine ok_lcP (fun _ => some (.bool true)) (fun d hd => ?_) (by rw [zipL_self, List.length_map]; have := h.1; simp; exact this) ?_
      · rw [zipL_self] at hd
        obtain ⟨x, hx, rfl⟩ := List.mem_map.mp hd
        dsimp?
        exact (ih x (h.2 x hx)).mono fun q hq => by subst hq; dsimp?
      · rw [List.nil_append, bools_const, ok_some]
        dsimp?
        simp
    | tuple ds =>
      dsimp?
      refine ok_lcP (fun _ => some (.bool true)) (fun d hd => ?_) (by rw [zipL_self, List.length_map]; have := h.1; simp; exact this) ?_
      · rw [zipL_self] at hd
        obtain ⟨x, hx, rfl⟩ := List.mem_map.mp hd
        dsimp?
        exact (ih x (h.2 x hx)).mono fun q hq => by subst hq; dsimp?
      · rw [List.nil_append, bools_const, ok_some]
        dsimp?
        simp
    | dict ks => cases h
end Lw
end

-- Q2_k04
section
namespace Lw
open PySem Zl Zr
/-- any data of small signs, k deep -/
def Gq : Nat → D → Prop
  | _, .none => True
  | _, .bool _ => True
  | _, .int i => i = 0 ∨ i = 1 ∨ i = -1
  | _, .str x => ∀ c ∈ x.cps.toList, c < 128
  | k + 1, .list xs => ∀ x ∈ xs, Gq k x
  | k + 1, .tuple xs => ∀ x ∈ xs, Gq k x
  | _, _ => False
def Gw (k n : Nat) (d : D) : Prop := Gq k d ∧ d.weight ≤ n
theorem wAll_mem : ∀ {xs : List D} {x : D}, x ∈ xs → x.weight + 1 ≤ PyData.weightAll xs
  | y :: ys, x, h => by
    rcases List.mem_cons.mp h with rfl | h
    · simp [PyData.weightAll]
    · have := wAll_mem h; simp [PyData.weightAll]; omega
theorem wAll_len : ∀ xs : List D, xs.length ≤ PyData.weightAll xs
  | [] => Nat.le_refl 0
  | y :: ys => by have := wAll_len ys; simp [PyData.weightAll]; omega
theorem Gw.tup {k n : Nat} {xs : List D} (h : Gw k n (.tuple xs)) : xs.length ≤ n ∧ ∀ x ∈ xs, Gw (k - 1) n x := by
  obtain ⟨h1, h2⟩ := h
  have h2 : PyData.weightAll xs ≤ n := h2
  refine ⟨Nat.le_trans (wAll_len xs) h2, fun x hx => ?_⟩
  have := wAll_mem hx
  cases k with
  | zero => cases h1
  | succ k => exact ⟨h1 x hx, by omega⟩
theorem Gw.str {k n : Nat} {x : Str} (h : Gw k n (.str x)) : x.length ≤ n := h.2
def HS (z : Str) : Bool := !(Builtin.Str.occurrences (Str.ofString "abcdefghijklmnopqrstuvwxyz") z 0 (Str.ofString "abcdefghijklmnopqrstuvwxyz").length 1).isEmpty
def isNm : D → Bool
  | .str z => decide (1 ≤ (z.length : Int)) && decide ((z.length : Int) ≤ 8) && z.cps.toList.all fun c => HS ⟨#[c]⟩
  | _ => false
def isT (a b : Int) : D → Bool
  | .tuple xs => decide (a ≤ xs.length) && decide ((xs.length : Int) ≤ b)
  | _ => false
def isS : D → Bool
  | .str _ => true
  | _ => false
def tx : D → Str
  | .str z => z
  | _ => ⟨#[]⟩
def rsB (ws : List Str) : Bool := (ws.zip (ws.drop 1)).all fun p => decide (p.1.cps.toList < p.2.cps.toList)
theorem bools_map {α : Type} (f : α → Bool) : ∀ l : List α, boolsOf (l.map fun a => PyData.bool (f a)) = some (l.map f)
  | [] => rfl
  | a :: l => by rw [List.map_cons, boolsOf, bools_map f l]; rfl
theorem all_id (l : List Bool) : l.all id = l.all (fun b => b) := rfl
theorem all_fin (f : D → Bool) : ∀ ds : List D, boolsOf (ds.filterMap fun d => some (PyData.bool (f d))) = some (ds.map f) := fun ds => by rw [filterMap_some, bools_map]
theorem all_ids (f : D → Bool) (ds : List D) : (ds.map f).all id = ds.all f := by rw [List.all_map]; rfl
theorem ptuple_ok {k : Nat} {x : D} {a b : Int} (h : Gw k 1000000 x) : Ok (d_P_is_tuple [.val x, .val (.int a), .val (.int b)]) fun q => q = (.val (.bool (isT a b x)), [.val x, .val (.int a), .val (.int b)]) := by
  unfold d_P_is_tuple b_P_is_tuple
  cases x with
  | tuple xs =>
    dsimp? [isT]
    by_cases h1 : a ≤ (xs.length : Int) <;> simp [h1]
  | dict ks => cases k <;> exact absurd h.1 (by simp [Gq])
  | _ => dsimp? [isT]
theorem tup_cut {ds : List D} : cutL ds (some (1 : Int)) none = ds.drop 1 := by
  have := cut_from (xs := ds) (k := 1)
  rcases Nat.eq_zero_or_pos ds.length with h | h
  · have : ds = [] := List.eq_nil_of_length_eq_zero h
    subst this; rfl
  · exact this h
def Fz : D → Option D
  | .tuple [.str x, .str y] => some (.bool (decide (x.cps.toList < y.cps.toList)))
  | _ => none
theorem fz_rs (ws : List Str) : boolsOf ((zipL (ws.map PyData.str) ((ws.map PyData.str).drop 1)).filterMap Fz) = some ((ws.zip (ws.drop 1)).map fun p => decide (p.1.cps.toList < p.2.cps.toList)) := by
  unfold zipL
  rw [← List.map_drop, List.zip_map, List.map_map, List.filterMap_map]
  have e : (Fz ∘ ((fun p => PyData.tuple [p.1, p.2]) ∘ Prod.map PyData.str PyData.str)) = fun p : Str × Str => some (PyData.bool (decide (p.1.cps.toList < p.2.cps.toList))) := rfl
  rw [e, filterMap_some, bools_map]
theorem prises_ok {ws : List Str} (h : ws.length ≤ 1000000) : Ok (d_P_rises [.val (.tuple (ws.map PyData.str))]) (fun q => q = (.val (.bool (rsB ws)), [.val (.tuple (ws.map PyData.str))])) ∧
    Ok (d_P_rises [.val (.list (ws.map PyData.str))]) (fun q => q = (.val (.bool (rsB ws)), [.val (.list (ws.map PyData.str))])) := by
  unfold d_P_rises b_P_rises
  constructor
  all_goals
    dsimp?
    rw [tup_cut]
    refine ok_lcP Fz (fun d hd => ?_) (by rw [q_sz]; simp [zipL]; omega) ?_
    · unfold zipL at hd
      rw [← List.map_drop, List.zip_map, List.map_map] at hd
      obtain ⟨p, hp, rfl⟩ := List.mem_map.mp hd
      show Ok (gT 2 (gs1 (gN 1) (gs1 (gN 2) gs0)) (.tuple [.str p.1, .str p.2]) _) _
      dsimp?
      rfl
    · rw [List.nil_append, fz_rs, ok_some]
      dsimp?
      unfold rsB
      rw [List.all_map]; rfl
theorem lrises_ok {ws : List Str} (h : ws.length ≤ 1000000) : Ok (d_L_rises [.val (.tuple (ws.map PyData.str))]) (fun q => q = (.val (.bool (rsB ws)), [.val (.tuple (ws.map PyData.str))])) ∧
    Ok (d_L_rises [.val (.list (ws.map PyData.str))]) (fun q => q = (.val (.bool (rsB ws)), [.val (.list (ws.map PyData.str))])) := prises_ok h
/-- texts among data -/
theorem txs {xs : List D} (h : xs.all isS = true) : xs = (xs.map tx).map PyData.str := by
  rw [List.map_map]
  refine (List.map_id _).symm.trans (List.map_congr_left fun x hx => ?_)
  have := List.all_eq_true.mp h x hx
  cases x with
  | str z => rfl
  | _ => cases this
theorem nm_s {x : D} (h : isNm x = true) : isS x = true := by cases x <;> first | rfl | cases h
theorem nms_s {xs : List D} (h : xs.all isNm = true) : xs.all isS = true := List.all_eq_true.mpr fun x hx => nm_s (List.all_eq_true.mp h x hx)
def isFt : D → Bool
  | .tuple [n, .tuple ws] => isNm n && (decide (2 ≤ (ws.length : Int)) && decide ((ws.length : Int) ≤ 4)) && ws.all isNm && rsB (ws.map tx)
  | _ => false
theorem Gw.at2 {k n : Nat} {x y : D} (h : Gw k n (.tuple [x, y])) : Gw (k - 1) n x ∧ Gw (k - 1) n y := ⟨h.tup.2 x (by simp), h.tup.2 y (by simp)⟩
theorem isT_len {a b : Int} {xs : List D} : isT a b (.tuple xs) = (decide (a ≤ (xs.length : Int)) && decide ((xs.length : Int) ≤ b)) := rfl
theorem two_of {x : D} (h : isT 2 2 x = true) : ∃ n w, x = .tuple [n, w] := by
  cases x with
  | tuple xs =>
    match xs with
    | [] => cases h
    | [_] => cases h
    | [n, w] => exact ⟨n, w, rfl⟩
    | _ :: _ :: _ :: _ => simp [isT] at h; omega
  | _ => cases h
theorem tup_of {a b : Int} {x : D} (h : isT a b x = true) : ∃ ws, x = .tuple ws ∧ a ≤ (ws.length : Int) ∧ (ws.length : Int) ≤ b := by
  cases x with
  | tuple ws => rw [isT_len] at h; simp only [Bool.and_eq_true, decide_eq_true_eq] at h; exact ⟨ws, rfl, h.1, h.2⟩
  | _ => cases h
def fst0 : D → D
  | .tuple (n :: _) => n
  | _ => .none
def isFs : D → Bool
  | .tuple fs => (decide (1 ≤ (fs.length : Int)) && decide ((fs.length : Int) ≤ 4)) && fs.all isFt && rsB (fs.map fun f => tx (fst0 f))
  | _ => false
end Lw
end

-- Q4_k04
section
namespace Lw
open PySem Zl Zr
def tD (ws : List Str) : D := .tuple (ws.map PyData.str)
def fD (p : Str × List Str) : D := .tuple [.str p.1, tD p.2]
def fsD (fs : List (Str × List Str)) : D := .tuple (fs.map fD)
def hasW (ws : List Str) (w : Str) : Bool := ws.any fun z => z == w
theorem flat_strs : ∀ ws : List Str, (ws.map PyData.str).all flatD = true := fun ws => by simp [List.all_map, flatD, Function.comp_def]
theorem any_strs {ws : List Str} {w : Str} : (ws.map PyData.str).any (fun z => PyData.eqv z (.str w)) = hasW ws w := by
  unfold hasW
  rw [List.any_map]
  rfl
theorem l_in {ws : List Str} {w : Str} {QR : R → Prop} : Ok (inD (.str w) (.tuple (ws.map PyData.str))) QR = QR (.val (.bool (hasW ws w))) := by
  have e : inB (.str w) (.tuple (ws.map PyData.str)) = some (hasW ws w) := by
    show inL (.str w) (ws.map PyData.str) = _
    simp only [inL, flatD, flat_strs, any_strs, Bool.and_self, if_true]
  simp only [inD, e, Option.map_some, ok_some]
theorem hasW_iff {ws : List Str} {w : Str} : hasW ws w = true ↔ w ∈ ws := by
  unfold hasW
  rw [List.any_eq_true]
  exact ⟨fun ⟨z, hz, e⟩ => by have := eq_of_beq e; rw [← this]; exact hz, fun h => ⟨w, h, by simp⟩⟩
def isWd (ws : List Str) : D → Bool
  | .str z => hasW ws z
  | _ => false
theorem wd_s {ws : List Str} {x : D} (h : isWd ws x = true) : isS x = true := by cases x <;> first | rfl | cases h
theorem pword_ok {ws : List Str} {x : D} (hx : isDct x = false) : Ok (d_P_is_word_of [.val (tD ws), .val x]) fun q => q = (.val (.bool (isWd ws x)), [.val (tD ws), .val x]) := by
  unfold d_P_is_word_of b_P_is_word_of tD
  cases x with
  | str z => dsimp? [l_in, isWd]
  | dict ks => cases hx
  | _ => dsimp? [isWd]
def arW (ws : List Str) : D → Bool
  | .tuple os => (decide (1 ≤ (os.length : Int)) && decide ((os.length : Int) ≤ ws.length)) && os.all (isWd ws) && rsB (os.map tx)
  | _ => false
def Wk (ws : List Str) : Prop := ws.length ≤ 4
theorem gw_nd {k n : Nat} {d : D} (h : Gw k n d) : isDct d = false := by
  cases d with
  | dict ks => cases k <;> exact absurd h.1 (by simp [Gq])
  | _ => rfl
theorem pwords_ok {k : Nat} {ws : List Str} (hw : Wk ws) {x : D} (h : Gw k 1000000 x) : Ok (d_P_are_words_of [.val (tD ws), .val x]) fun q => q = (.val (.bool (arW ws x)), [.val (tD ws), .val x]) := by
  unfold d_P_are_words_of b_P_are_words_of tD
  have hw : ws.length ≤ 4 := hw
  dsimp? [List.length_map]
  refine (ptuple_ok h).mono fun q hq => ?_
  subst hq
  cases e1 : isT 1 ws.length x with
  | false =>
    dsimp?
    cases x with
    | tuple os => rw [isT_len] at e1; simp only [arW, e1, Bool.false_and]
    | _ => rfl
  | true =>
    obtain ⟨os, rfl, w1, w2⟩ := tup_of e1
    dsimp?
    refine ok_lcP (fun d => some (.bool (isWd ws d))) (fun d hd => ?_) (by rw [q_sz]; simp; omega) ?_
    · dsimp?
      refine (pword_ok (ws := ws) (x := d) (gw_nd (h.tup.2 d hd))).mono fun q hq => ?_
      subst hq
      dsimp?
    · rw [List.nil_append, all_fin, ok_some, all_ids]
      cases e4 : os.all (isWd ws) with
      | false =>
        dsimp? [e4]
        simp only [arW, e4, Bool.and_false, Bool.false_and]
      | true =>
        have et := txs (xs := os) (List.all_eq_true.mpr fun x hx => wd_s (List.all_eq_true.mp e4 x hx))
        dsimp? [e4]
        have hri := (prises_ok (ws := os.map tx) (by rw [List.length_map]; omega)).1
        rw [← et] at hri
        refine hri.mono fun q hq => ?_
        subst hq
        dsimp?
        simp only [arW, e4, w1, w2, decide_true, Bool.true_and]
def isSt (fs : List (Str × List Str)) : D → Bool
  | .tuple ds => (ds.length == fs.length) && (fs.zip ds).all fun q => isWd q.1.2 q.2
  | _ => false
def isCs (fs : List (Str × List Str)) : D → Bool
  | .tuple ds => (ds.length == fs.length) && (fs.zip ds).all fun q => arW q.1.2 q.2
  | _ => false
end Lw
end

-- Q5_k04
section
namespace Lw
open PySem Zl Zr
/-- the words of a facet -/
def wof (fs : List (Str × List Str)) (z : Str) : Option (List Str) := (fs.find? fun p => decide (p.1 = z)).map (·.2)
theorem pairs_fs : ∀ fs : List (Str × List Str), pairsF (fs.map fD) = some (fs.map fun p => (Sum.inr p.1, tD p.2))
  | [] => rfl
  | p :: fs => by
    rw [List.map_cons, pairsF, pairs_fs fs]
    rfl
theorem nod_fs {fs : List (Str × List Str)} (h : (fs.map (·.1)).Nodup) : nodK (fs.map fun p => ((Sum.inr p.1 : L2.Key), tD p.2)) = true := by
  refine decide_eq_true ?_
  rw [List.map_map, List.nodup_iff_pairwise_ne, List.pairwise_map]
  rw [List.nodup_iff_pairwise_ne, List.pairwise_map] at h
  exact h.imp fun h e => h (by injection e)
theorem lk_fs (z : Str) : ∀ fs : List (Str × List Str), lkD (dkv (fs.map fun p => ((Sum.inr p.1 : L2.Key), tD p.2))) (.inr z) = (wof fs z).map tD
  | [] => rfl
  | p :: fs => by
    have ih := lk_fs z fs
    unfold lkD wof dkv at ih ⊢
    rw [List.map_cons, List.map_cons, List.find?_cons, List.find?_cons]
    have hk : keqB (keyD (.inr p.1)) (.inr z) = decide (p.1 = z) := by
      rw [keqB_is]
      by_cases h : p.1 = z
      · rw [h]; simp
      · rw [decide_eq_false h, decide_eq_false fun e => h (by injection e)]
    simp only [hk]
    by_cases h : p.1 = z
    · simp [h]
    · simp only [h, decide_false]
      exact ih
/-- what is_told tells -/
def tolB (fs : List (Str × List Str)) (x y : D) : Bool := match x with
  | .str z => match wof fs z with
    | some ws => arW ws y
    | none => false
  | _ => false
theorem told_ok {k : Nat} {fs : List (Str × List Str)} (hn : (fs.map (·.1)).Nodup) (hw : ∀ p ∈ fs, Wk p.2) {x y : D} (hx : Gw k 1000000 x) (hy : Gw k 1000000 y) : Ok (d_P_is_told [.val (fsD fs), .val x, .val y]) fun q => q = (.val (.bool (tolB fs x y)), [.val (fsD fs), .val x, .val y]) := by
  unfold d_P_is_told b_P_is_told fsD
  dsimp?
  refine ok_eq (pairs_fs fs) ⟨nod_fs hn, ?_⟩
  cases x with
  | str z =>
    have hlk := lk_fs z fs
    dsimp? [hlk]
    cases hz : wof fs z with
    | none =>
      simp [tolB, hz]
    | some ws =>
      have hws : Wk ws := by
        unfold wof at hz
        obtain ⟨p, hp, e⟩ := Option.map_eq_some_iff.mp hz
        rw [← e]
        exact hw p (List.mem_of_find?_eq_some hp)
      dsimp? [hlk, hz, Option.isSome_some]
      refine (pwords_ok hws hy).mono fun q hq => ?_
      subst hq
      dsimp?
      simp [tolB, hz]
  | dict ks => cases k <;> exact absurd hx.1 (by simp [Gq])
  | _ =>
    dsimp?
    rfl
end Lw
end

-- Q6_k04
section
namespace Lw
open PySem Zl Zr
/-- how long a when of a word is -/
def wl (w : Str) : Nat := if w = Str.ofString "always" then 1 else if w = Str.ofString "is" then 3 else if w = Str.ofString "not" then 2 else if w = Str.ofString "both" then 3 else if w = Str.ofString "either" then 3 else 0
theorem tb_is (w : Str) : lkS tb_LONG_BY w = if wl w = 0 then none else some (.int (wl w)) := by
  unfold lkS tb_LONG_BY wl
  by_cases h1 : w = Str.ofString "always"
  · subst h1; rfl
  by_cases h2 : w = Str.ofString "is"
  · subst h2; rfl
  by_cases h3 : w = Str.ofString "not"
  · subst h3; rfl
  by_cases h4 : w = Str.ofString "both"
  · subst h4; rfl
  by_cases h5 : w = Str.ofString "either"
  · subst h5; rfl
  have n1 : (Str.ofString "always" == w) = false := beq_eq_false_iff_ne.mpr (Ne.symm h1)
  have n2 : (Str.ofString "is" == w) = false := beq_eq_false_iff_ne.mpr (Ne.symm h2)
  have n3 : (Str.ofString "not" == w) = false := beq_eq_false_iff_ne.mpr (Ne.symm h3)
  have n4 : (Str.ofString "both" == w) = false := beq_eq_false_iff_ne.mpr (Ne.symm h4)
  have n5 : (Str.ofString "either" == w) = false := beq_eq_false_iff_ne.mpr (Ne.symm h5)
  simp [List.find?_cons, n1, n2, n3, n4, n5, h1, h2, h3, h4, h5]
def pw (fs : List (Str × List Str)) : Nat → D → Nat
  | k + 1, .tuple (.str w :: inner) =>
    if inner.length + 1 = wl w then
      (if w = Str.ofString "is" then (if tolB fs (inner.headD .none) ((inner.drop 1).headD .none) = true then 1 else 0)
        else if 0 ∈ inner.map (pw fs k) then 0 else 1 + (inner.map (pw fs k)).sum)
    else 0
  | _, _ => 0
theorem wl_le (w : Str) : wl w ≤ 3 := by unfold wl; repeat (first | split | omega)
theorem ints_map (f : D → Nat) : ∀ xs : List D, intsOf (xs.map fun x => PyData.int (f x)) = some (xs.map fun x => (f x : Int))
  | [] => rfl
  | x :: xs => by rw [List.map_cons, intsOf, ints_map f xs]; rfl
theorem sum_cast : ∀ xs : List Nat, (xs.map fun x : Nat => (x : Int)).sum = ((xs.sum : Nat) : Int)
  | [] => rfl
  | x :: xs => by rw [List.map_cons, List.sum_cons, List.sum_cons, sum_cast xs, Int.natCast_add]
theorem flat_ints (f : D → Nat) (xs : List D) : (xs.map fun x => PyData.int (f x)).all flatD = true := by simp [List.all_map, flatD, Function.comp_def]
theorem l_in0 {f : D → Nat} {xs : List D} {QR : R → Prop} : Ok (inD (.int 0) (.list (xs.map fun x => PyData.int (f x)))) QR = QR (.val (.bool (decide (0 ∈ xs.map f)))) := by
  have e : inB (.int 0) (.list (xs.map fun x => PyData.int (f x))) = some (decide (0 ∈ xs.map f)) := by
    show inL (.int 0) _ = _
    have e1 : flatD (.int 0) = true := rfl
    simp only [inL, e1, flat_ints, Bool.and_self, if_true]
    congr 1
    induction xs with
    | nil => rfl
    | cons x xs ih =>
      rw [List.map_cons, List.any_cons, ih]
      have e2 : PyData.eqv (.int (f x)) (.int 0) = decide (f x = 0) := by
        show decide ((f x : Int) = 0) = _
        simp
      rw [e2, List.map_cons]
      by_cases h : f x = 0
      · simp [h]
      · simp [h, Ne.symm h]
  simp only [inD, e, Option.map_some, ok_some]
theorem at0 {y : D} {l : List D} : L2.atI (y :: l) (0 : Int) = some y := by
  have := at_nat (xs := y :: l) (k := 0) (by simp)
  simpa using this
theorem pparts_ok {fs : List (Str × List Str)} (hnf : (fs.map (·.1)).Nodup) (hwf : ∀ p ∈ fs, Wk p.2) : ∀ (k f K : Nat) (x : D), k ≤ f → Gw K 1000000 x → Ok (d_P_parts_of_when (f + 1) [.val (fsD fs), .val x, .val (.int k)]) fun q => q = (.val (.int (pw fs k x)), [.val (fsD fs), .val x, .val (.int k)]) := fun k => by
  induction k with
  | zero =>
    intro f K x hf hx
    rw [d_P_parts_of_when]
    unfold b_P_parts_of_when
    dsimp?
    simp [pw]
  | succ k ih =>
    intro f K x hf hx
    obtain ⟨f, rfl⟩ : ∃ g, f = g + 1 := ⟨f - 1, by omega⟩
    rw [d_P_parts_of_when]
    unfold b_P_parts_of_when
    have hk0 : ¬ (((k + 1 : Nat) : Int) = 0) := by omega
    dsimp? [hk0]
    refine (ptuple_ok (x := x) (a := 1) (b := 3) hx).mono fun q hq => ?_
    subst hq
    cases e1 : isT 1 3 x with
    | false =>
      have e0 : pw fs (k + 1) x = 0 := by
        cases x with
        | tuple xs =>
          cases xs with
          | nil => rfl
          | cons y ys =>
            cases y with
            | str w =>
              have hw := wl_le w
              have : ¬ (ys.length + 1 = wl w) := by
                simp only [isT, Bool.and_eq_false_iff, decide_eq_false_iff_not, List.length_cons] at e1
                omega
              simp [pw, this]
            | _ => rfl
        | _ => rfl
      dsimp? [e0]
      rfl
    | true =>
      obtain ⟨y, inner, rfl⟩ : ∃ y inner, x = .tuple (y :: inner) := by
        cases x with
        | tuple xs =>
          cases xs with
          | nil => cases e1
          | cons y ys => exact ⟨y, ys, rfl⟩
        | _ => cases e1
      have hlen : inner.length + 1 ≤ 3 := by
        simp only [isT, Bool.and_eq_true, decide_eq_true_eq, List.length_cons] at e1
        omega
      obtain ⟨hl, hin⟩ := hx.tup
      have hin' : ∀ z ∈ inner, Gw (K - 1) 1000000 z := fun z hz => hin z (List.mem_cons_of_mem _ hz)
      dsimp? [at0]
      cases y with
      | str w =>
        by_cases hw0 : wl w = 0
        · have et : lkS tb_LONG_BY w = none := by rw [tb_is, if_pos hw0]
          have e0 : pw fs (k + 1) (.tuple (.str w :: inner)) = 0 := by
            have : ¬ (inner.length + 1 = wl w) := by omega
            simp [pw, this]
          dsimp? [at0, et, e0, Option.isSome_none]
          rfl
        · have et : lkS tb_LONG_BY w = some (.int (wl w)) := by rw [tb_is, if_neg hw0]
          have hc : ((wl w : Int) = ((inner.length + 1 : Nat) : Int)) ↔ inner.length + 1 = wl w := by omega
          dsimp? [at0, et, Option.isSome_some, hc]
          by_cases hn : inner.length + 1 = wl w
          · have hk1 : ((k + 1 : Nat) : Int) - 1 = k := by omega
            by_cases hkd : w = Str.ofString "is"
            · have h2 : wl w = 3 := by rw [hkd]; rfl
              obtain ⟨z, z2, rfl⟩ : ∃ z z2, inner = [z, z2] := by
                match inner, (show inner.length = 2 by omega) with
                | [z, z2], _ => exact ⟨z, z2, rfl⟩
              have ep : pw fs (k + 1) (.tuple [.str w, z, z2]) = if tolB fs z z2 = true then 1 else 0 := by
                rw [pw, if_pos hn, if_pos hkd]; rfl
              simp only [hn, decide_true, Bool.not_true, Bool.false_eq_true, if_false, hkd, if_true]
              have at1' : L2.atI [z, z2] (1 : Int) = some z2 := rfl
              dsimp? [at0, at1']
              refine (told_ok hnf hwf (hin' z List.mem_cons_self) (hin' z2 (by simp))).mono fun q hq => ?_
              subst hq
              cases e5 : tolB fs z z2 with
              | true => rw [e5] at ep; dsimp? [ep]; rfl
              | false => rw [e5] at ep; dsimp? [ep]; rfl
            · have ep : pw fs (k + 1) (.tuple (.str w :: inner)) = if 0 ∈ inner.map (pw fs k) then 0 else 1 + (inner.map (pw fs k)).sum := by
                rw [pw, if_pos hn, if_neg hkd]
              simp only [hn, decide_true, Bool.not_true, Bool.false_eq_true, if_false, hkd, decide_false]
              refine ok_lcP (fun d => some (.int (pw fs k d))) (fun d hd => ?_) (by rw [q_sz]; simp; omega) ?_
              · dsimp? [hk1]
                refine (ih f (K - 1) d (by omega) (hin' d hd)).mono fun q hq => ?_
                subst hq
                dsimp?
              · rw [List.nil_append, filterMap_some]
                dsimp? [l_in0]
                by_cases h0 : 0 ∈ inner.map (pw fs k)
                · rw [if_pos h0] at ep
                  dsimp? [h0, ep]
                  rfl
                · rw [if_neg h0] at ep
                  dsimp? [h0]
                  rw [ints_map, ok_some]
                  have es : (inner.map fun x => ((pw fs k x : Nat) : Int)).sum = (((inner.map (pw fs k)).sum : Nat) : Int) := by rw [← sum_cast, List.map_map]; rfl
                  rw [es, ep, Int.natCast_add]
                  rfl
          · have ep : pw fs (k + 1) (.tuple (.str w :: inner)) = 0 := by rw [pw, if_neg hn]
            simp only [hn, decide_false, Bool.not_false, if_true, ep]
            first | rfl | (rw [if_pos trivial]; rfl) | (dsimp? [ep]; rfl) | (simp [ep])
      | dict ks => exact absurd (gw_nd (hin _ List.mem_cons_self)) (by simp [isDct])
      | _ => dsimp? [at0]; rfl
end Lw
end

-- Q7_k04
section
namespace Lw
open PySem Zl Zr
theorem gq_shape : ∀ (k : Nat) (d : D), Gq k d → d.canLay0 = true ∧ d.depth ≤ k
  | k, .none, _ | k, .bool _, _ | k, .int _, _ => by simp [PyData.canLay0, PyData.depth]
  | k, .str x, h => by
    refine ⟨?_, by simp [PyData.depth]⟩
    have h' : ∀ c ∈ x.cps.toList, c < 128 := by cases k <;> exact h
    simp only [PyData.canLay0, PyData.strOk, Array.all_eq_true]
    intro i hi
    have := h' x.cps[i] (by simp)
    have : x.cps[i] < 1114112 := by omega
    simpa using this
  | 0, .list _, h | 0, .tuple _, h => by cases h
  | k + 1, .list xs, h | k + 1, .tuple xs, h => by
    have a : ∀ ys : List D, (∀ y ∈ ys, Gq k y) → PyData.canLayAll0 ys = true ∧ PyData.depthAll ys ≤ k := fun ys => by
      induction ys with
      | nil => intro _; simp [PyData.canLayAll0, PyData.depthAll]
      | cons y ys ih =>
        intro hy
        have h1 := gq_shape k y (hy y List.mem_cons_self)
        have h2 := ih fun z hz => hy z (List.mem_cons_of_mem _ hz)
        simp only [PyData.canLayAll0, PyData.depthAll, h1.1, h2.1, Bool.and_self, true_and]
        omega
    have := a xs h
    simp only [PyData.canLay0, PyData.depth]
    exact ⟨this.1, by omega⟩
  | 0, .dict _, h => by cases h
  | _ + 1, .dict _, h => by cases h
theorem gq_shaped {k : Nat} {d : D} (h : Gq k d) (hk : k ≤ 64) : SeqAt.shaped d = true := by
  have := gq_shape k d h
  simp only [SeqAt.shaped, this.1, Bool.true_and, decide_eq_true_eq]
  omega
theorem nodup_le {α : Type} [DecidableEq α] : ∀ (l m : List α), l.Nodup → (∀ x ∈ l, x ∈ m) → l.length ≤ m.length
  | [], m, _, _ => Nat.zero_le _
  | a :: l, m, h, hm => by
    rw [List.nodup_cons] at h
    have ha := hm a List.mem_cons_self
    have := nodup_le l (m.erase a) h.2 fun x hx => (List.mem_erase_of_ne (fun e => h.1 (by rw [← e]; exact hx))).mpr (hm x (List.mem_cons_of_mem _ hx))
    rw [List.length_erase_of_mem ha] at this
    have := List.length_pos_of_mem ha
    simp only [List.length_cons]
    omega
theorem rsB_cons {a b : Str} {l : List Str} : rsB (a :: b :: l) = (decide (a.cps.toList < b.cps.toList) && rsB (b :: l)) := rfl
theorem rsB_pw : ∀ {l : List Str}, rsB l = true → l.Pairwise fun a b => a.cps.toList < b.cps.toList
  | [], _ => List.Pairwise.nil
  | [a], _ => by simp
  | a :: b :: l, h => by
    rw [rsB_cons, Bool.and_eq_true, decide_eq_true_eq] at h
    have ih := rsB_pw (l := b :: l) h.2
    refine List.pairwise_cons.mpr ⟨fun x hx => ?_, ih⟩
    rcases List.mem_cons.mp hx with rfl | hx
    · exact h.1
    · exact List.lt_trans h.1 ((List.pairwise_cons.mp ih).1 x hx)
theorem rsB_nodup {l : List Str} (h : rsB l = true) : l.Nodup := by
  rw [List.nodup_iff_pairwise_ne]
  exact (rsB_pw h).imp fun {a b} h e => by rw [e] at h; exact List.lt_irrefl _ h
theorem ar_len {ws : List Str} {os : List D} (h1 : os.all (isWd ws) = true) (h2 : rsB (os.map tx) = true) : os.length ≤ ws.length := by
  have := nodup_le (os.map tx) ws (rsB_nodup h2) fun x hx => by
    obtain ⟨d, hd, rfl⟩ := List.mem_map.mp hx
    have := List.all_eq_true.mp h1 d hd
    cases d with
    | str z => exact hasW_iff.mp this
    | _ => cases this
  rwa [List.length_map] at this
theorem l_eqT0 {os : List D} (h : SeqAt.shaped (.tuple os) = true) {QR : R → Prop} : Ok (eqD (.tuple os) (.tuple [])) QR = QR (.val (.bool os.isEmpty)) := by
  have e : eqB (.tuple os) (.tuple []) = some (PyData.eqv (.tuple os) (.tuple [])) := by
    have h1 : SeqAt.shaped (.tuple []) = true := by decide
    simp only [eqB, h, h1]; rfl
  have e2 : PyData.eqv (.tuple os) (.tuple []) = os.isEmpty := by cases os <;> rfl
  simp only [eqD, e, e2, Option.map_some, ok_some]
theorem wof_filter {fs : List (Str × List Str)} (hn : (fs.map (·.1)).Nodup) (z : Str) : (fs.filter fun p => decide (p.1 = z)).map (fun p => tD p.2) = ((wof fs z).map tD).toList := by
  induction fs with
  | nil => rfl
  | cons p fs ih =>
    rw [List.map_cons] at hn
    obtain ⟨h1, h2⟩ := List.nodup_cons.mp hn
    have ih := ih h2
    by_cases h : p.1 = z
    · have e0 : fs.filter (fun p => decide (p.1 = z)) = [] := by
        rw [List.filter_eq_nil_iff]
        intro q hq
        simp only [decide_eq_true_eq]
        intro e
        exact h1 (List.mem_map.mpr ⟨q, hq, by rw [e, h]⟩)
      rw [List.filter_cons_of_pos (by simp [h]), e0]
      simp [wof, List.find?_cons, h]
    · rw [List.filter_cons_of_neg (by simp [h]), ih]
      simp [wof, List.find?_cons, h]
theorem disp_is (w : Str) : (lkD (dkv [(.inr (Str.ofString "always"), .int 1), (.inr (Str.ofString "is"), .int 3), (.inr (Str.ofString "not"), .int 2), (.inr (Str.ofString "both"), .int 3), (.inr (Str.ofString "either"), .int 3)]) (.inr w)).getD (.int 0) = .int (wl w) := by
  unfold lkD dkv wl
  by_cases h1 : w = Str.ofString "always"
  · subst h1; rfl
  by_cases h2 : w = Str.ofString "is"
  · subst h2; rfl
  by_cases h3 : w = Str.ofString "not"
  · subst h3; rfl
  by_cases h4 : w = Str.ofString "both"
  · subst h4; rfl
  by_cases h5 : w = Str.ofString "either"
  · subst h5; rfl
  simp [List.find?_cons, keyD, keqB, Ne.symm h1, Ne.symm h2, Ne.symm h3, Ne.symm h4, Ne.symm h5, h1, h2, h3, h4, h5]
end Lw
end

-- Q8_k04
section
namespace Lw
open PySem Zl Zr
/-- a comprehension with a test, over what is made of a list, that changes nothing -/
theorem ok_lcA {α : Type} {ρ : Rho} {vs : List Nat} {g : MG} {mt : MT} {me : ME} {QL : List D × Rho → Prop} (G : α → D) (F : α → Option D) {as : List α} {acc : List D} (hs : ∀ a ∈ as, Ok (g (G a) ρ) fun ρ1 => Ok (mt ρ1) fun p => if p.1 = true then Ok (me p.2) fun q => Ok (fz q.2 q.1) fun w => F a = some w.1 ∧ wipeR w.2 vs = ρ else F a = none ∧ wipeR p.2 vs = ρ)
    (hl : acc.length + as.length ≤ sizeLine) (hd : QL (acc ++ as.filterMap F, ρ)) : Ok (lcL vs g mt me (as.map G) ρ acc) QL := by
  refine ok_lcL (fun r ρ' a => ρ' = ρ ∧ ∃ r', r = r'.map G ∧ (∀ x ∈ r', x ∈ as) ∧ a.length + r'.length ≤ sizeLine ∧ a ++ r'.filterMap F = acc ++ as.filterMap F) ⟨rfl, as, rfl, fun _ h => h, hl, rfl⟩ (fun d r ρ' a h => ?_) fun ρ' a h => ?_
  · obtain ⟨rfl, r', hr, hm, hl, he⟩ := h
    cases r' with
    | nil => cases hr
    | cons x r' =>
      cases hr
      refine (hs x (hm x List.mem_cons_self)).mono fun ρ1 h1 => h1.mono fun p h2 => ?_
      split
      · rename_i hp
        rw [if_pos hp] at h2
        refine h2.mono fun q h3 => h3.mono fun w h4 => ⟨by simp at hl; omega, h4.2, r', rfl, fun y hy => hm y (List.mem_cons_of_mem _ hy), by simp at hl ⊢; omega, ?_⟩
        rw [← he, List.filterMap_cons_some h4.1, List.append_assoc]; rfl
      · rename_i hp
        rw [if_neg hp] at h2
        refine ⟨h2.2, r', rfl, fun y hy => hm y (List.mem_cons_of_mem _ hy), by simp at hl ⊢; omega, ?_⟩
        rw [← he, List.filterMap_cons_none h2.1]
  · obtain ⟨rfl, r', hr, hm, hl, he⟩ := h
    cases r' with
    | nil =>
      rw [List.filterMap_nil, List.append_nil] at he
      rw [he]; exact hd
    | cons x r' => cases hr
theorem fm_filter (z : Str) : ∀ fs : List (Str × List Str), fs.filterMap (fun p : Str × List Str => if p.1 = z then some (tD p.2) else none) = (fs.filter fun p => decide (p.1 = z)).map (fun p => tD p.2)
  | [] => rfl
  | p :: fs => by
    by_cases h : p.1 = z
    · rw [List.filterMap_cons_some (b := tD p.2) (by simp [h]), List.filter_cons_of_pos (by simp [h]), List.map_cons, fm_filter z fs]
    · rw [List.filterMap_cons_none (by simp [h]), List.filter_cons_of_neg (by simp [h]), fm_filter z fs]
theorem lsize_ok {fs : List (Str × List Str)} (hnf : (fs.map (·.1)).Nodup) (hwf : ∀ p ∈ fs, Wk p.2) (lf : fs.length ≤ 1000) (hsw : ∀ p ∈ fs, ∀ w ∈ p.2, ∀ c ∈ w.cps.toList, c < 128) : ∀ (k f K : Nat) (x : D), k ≤ f → K ≤ 60 → Gw K 1000000 x → Ok (d_L_when_size (f + 1) [.val (fsD fs), .val x, .val (.int k)]) fun q => q = (.val (.int (pw fs k x)), [.val (fsD fs), .val x, .val (.int k)]) := fun k => by
  induction k with
  | zero =>
    intro f K x hf hK hx
    rw [d_L_when_size]
    unfold b_L_when_size
    dsimp?
    exact ⟨by decide +kernel, by simp [pw]⟩
  | succ k ih =>
    intro f K x hf hK hx
    obtain ⟨f, rfl⟩ : ∃ g, f = g + 1 := ⟨f - 1, by omega⟩
    rw [d_L_when_size]
    unfold b_L_when_size
    have hk0 : ¬ (((k + 1 : Nat) : Int) = 0) := by omega
    have hnod : nodK [((Sum.inr (Str.ofString "always") : L2.Key), PyData.int 1), (Sum.inr (Str.ofString "is"), .int 3), (Sum.inr (Str.ofString "not"), .int 2), (Sum.inr (Str.ofString "both"), .int 3), (Sum.inr (Str.ofString "either"), .int 3)] = true := by decide +kernel
    cases x with
    | tuple xs =>
      have hsh : SeqAt.shaped (.tuple xs) = true := gq_shaped hx.1 (by omega)
      dsimp? [hk0, l_eqT0 hsh]
      refine ⟨hnod, ?_⟩
      obtain ⟨hl, hin⟩ := hx.tup
      cases xs with
      | nil => rfl
      | cons y inner =>
        have hin' : ∀ z ∈ inner, Gw (K - 1) 1000000 z := fun z hz => hin z (List.mem_cons_of_mem _ hz)
        rw [List.isEmpty_cons]
        dsimp? [at0]
        refine ⟨gw_nd (hin y List.mem_cons_self), ?_⟩
        cases y with
        | str w =>
          dsimp? [at0, disp_is]
          have hc : ((wl w : Int) = ((inner.length + 1 : Nat) : Int)) ↔ inner.length + 1 = wl w := by omega
          have hk1 : ((k + 1 : Nat) : Int) - 1 = k := by omega
          by_cases hn : inner.length + 1 = wl w
          · have w3 := wl_le w
            simp only [hc, hn, decide_true, Bool.not_true, Bool.false_eq_true, if_false]
            by_cases hkd : w = Str.ofString "is"
            · rw [if_pos hkd]
              have h2 : wl w = 3 := by rw [hkd]; rfl
              obtain ⟨z, z2, rfl⟩ : ∃ z z2, inner = [z, z2] := by
                match inner, (show inner.length = 2 by omega) with
                | [z, z2], _ => exact ⟨z, z2, rfl⟩
              have ep : pw fs (k + 1) (.tuple [.str w, z, z2]) = if tolB fs z z2 = true then 1 else 0 := by
                rw [pw, if_pos hn, if_pos hkd]; rfl
              have hz := hin' z List.mem_cons_self
              have hz2 := hin' z2 (by simp)
              unfold fsD
              have a1 : L2.atI [PyData.str w, z, z2] (1 : Int) = some z := rfl
              have a2 : L2.atI [PyData.str w, z, z2] (2 : Int) = some z2 := rfl
              have sh0 : SeqAt.shaped (.list []) = true := by decide
              have e00 : PyData.eqv (.list []) (.list []) = true := rfl
              have none_case : ∀ (F : Str × List Str → Option D), (∀ p ∈ fs, F p = none) → fs.filterMap F = [] := fun F h => by
                rw [List.filterMap_eq_nil_iff]; exact h
              cases z with
              | str zz =>
                refine ok_lcA fD (fun p : Str × List Str => if p.1 = zz then some (tD p.2) else none) (fun p hp => ?_) (by rw [q_sz]; simp; omega) ?_
                · have b1 : L2.atI [PyData.str p.1, tD p.2] (1 : Int) = some (tD p.2) := rfl
                  dsimp? [a1, fD, at0, b1]
                  by_cases hpz : p.1 = zz
                  · dsimp? [a1, fD, at0, b1, hpz]
                    try simp [hpz]
                  · dsimp? [a1, fD, at0, b1, hpz]
                    try simp [hpz]
                · rw [List.nil_append]
                  have ef : fs.filterMap (fun p : Str × List Str => if p.1 = zz then some (tD p.2) else none) = ((wof fs zz).map tD).toList := by
                    rw [← wof_filter hnf zz, fm_filter]
                  rw [ef]
                  cases hz0 : wof fs zz with
                  | none =>
                    have et : tolB fs (.str zz) z2 = false := by simp [tolB, hz0]
                    rw [et] at ep
                    dsimp? [l_eqL sh0 sh0, e00, Option.map_none, Option.toList]
                    rw [ep]
                    rfl
                  | some ws =>
                    have hws : Wk ws := by
                      unfold wof at hz0
                      obtain ⟨p, hp, e⟩ := Option.map_eq_some_iff.mp hz0
                      rw [← e]
                      exact hwf p (List.mem_of_find?_eq_some hp)
                    have hws4 : ws.length ≤ 4 := hws
                    have et : tolB fs (.str zz) z2 = arW ws z2 := by simp [tolB, hz0]
                    rw [et] at ep
                    have hsww : ∀ w ∈ ws, ∀ c ∈ w.cps.toList, c < 128 := by
                      unfold wof at hz0
                      obtain ⟨p, hp, e⟩ := Option.map_eq_some_iff.mp hz0
                      rw [← e]
                      exact hsw p (List.mem_of_find?_eq_some hp)
                    have sht : SeqAt.shaped (.list [tD ws]) = true := gq_shaped (k := 3) (show ∀ x ∈ [tD ws], Gq 2 x from fun x hx => by
                      rw [List.mem_singleton.mp hx]
                      show ∀ y ∈ ws.map PyData.str, Gq 1 y
                      intro y hy
                      obtain ⟨w', hw', rfl⟩ := List.mem_map.mp hy
                      exact hsww w' hw') (by decide)
                    have e11 : PyData.eqv (.list [tD ws]) (.list []) = false := rfl
                    cases z2 with
                    | tuple os =>
                      have hsh2 : SeqAt.shaped (.tuple os) = true := gq_shaped hz2.1 (by omega)
                      dsimp? [l_eqL sht sh0, e11, Option.map_some, Option.toList, a2, l_eqT0 hsh2]
                      obtain ⟨ol, oin⟩ := hz2.tup
                      cases ho : os.isEmpty with
                      | true =>
                        have : os = [] := List.isEmpty_iff.mp ho
                        subst this
                        rw [if_pos rfl, ep]
                        rfl
                      | false =>
                        rw [if_neg (by simp)]
                        have one : 1 ≤ os.length := by
                          cases os with
                          | nil => cases ho
                          | cons _ _ => simp
                        refine ok_lcP (fun d => some (.bool (isWd ws d))) (fun d hd => ?_) (by rw [q_sz]; simp; omega) ?_
                        · cases d with
                          | str u =>
                            unfold tD
                            dsimp? [at0, l_in, isWd]
                          | dict ks => exact absurd (gw_nd (oin _ hd)) (by simp [isDct])
                          | _ => dsimp? [isWd]; try rfl
                        · rw [List.nil_append, all_fin, ok_some, all_ids]
                          have arE : arW ws (.tuple os) = (os.all (isWd ws) && rsB (os.map tx)) := by
                            cases e4 : os.all (isWd ws) with
                            | false => simp [arW, e4]
                            | true =>
                              cases e6 : rsB (os.map tx) with
                              | false => simp [arW, e4, e6]
                              | true =>
                                have := ar_len e4 e6
                                have i1 : 1 ≤ (os.length : Int) := by omega
                                have i2 : (os.length : Int) ≤ ws.length := by omega
                                simp [arW, e4, e6, i1, i2]
                          rw [arE] at ep
                          cases e4 : os.all (isWd ws) with
                          | false =>
                            rw [e4] at ep
                            dsimp? [ep, e4]
                            rfl
                          | true =>
                            rw [e4] at ep
                            have et := txs (xs := os) (List.all_eq_true.mpr fun x hx => wd_s (List.all_eq_true.mp e4 x hx))
                            dsimp? [e4, a2]
                            have hri := (lrises_ok (ws := os.map tx) (by rw [List.length_map]; exact ol)).1
                            rw [← et] at hri
                            refine hri.mono fun q hq => ?_
                            subst hq
                            cases e6 : rsB (os.map tx) with
                            | false => rw [e6] at ep; dsimp? [ep]; rfl
                            | true => rw [e6] at ep; dsimp? [ep]; rfl
                    | dict ks => exact absurd (gw_nd hz2) (by simp [isDct])
                    | _ =>
                      dsimp? [l_eqL sht sh0, e11, Option.map_some, Option.toList, a2]
                      rw [ep]
                      rfl
              | dict ks => exact absurd (gw_nd hz) (by simp [isDct])
              | _ =>
                refine ok_lcA fD (fun p : Str × List Str => none) (fun p hp => ?_) (by rw [q_sz]; simp; omega) ?_
                · dsimp? [a1, fD, at0]
                · rw [List.nil_append, none_case _ fun _ _ => rfl]
                  dsimp? [l_eqL sh0 sh0, e00]
                  rw [ep]
                  rfl
            · rw [if_neg hkd]
              have ep : pw fs (k + 1) (.tuple (.str w :: inner)) = if 0 ∈ inner.map (pw fs k) then 0 else 1 + (inner.map (pw fs k)).sum := by
                rw [pw, if_pos hn, if_neg hkd]
              rw [tup_cut, List.drop_succ_cons, List.drop_zero]
              refine ok_lcP (fun d => some (.int (pw fs k d))) (fun d hd => ?_) (by rw [q_sz]; simp; omega) ?_
              · dsimp? [hk1]
                refine (ih f (K - 1) d (by omega) (by omega) (hin' d hd)).mono fun q hq => ?_
                subst hq
                try dsimp?
              · rw [List.nil_append, filterMap_some]
                dsimp? [l_in0]
                by_cases h0 : 0 ∈ inner.map (pw fs k)
                · rw [if_pos h0] at ep
                  dsimp? [h0, ep]
                  rfl
                · rw [if_neg h0] at ep
                  dsimp? [h0]
                  rw [ints_map, ok_some]
                  have es : (inner.map fun x => ((pw fs k x : Nat) : Int)).sum = (((inner.map (pw fs k)).sum : Nat) : Int) := by rw [← sum_cast, List.map_map]; rfl
                  rw [es, ep, Int.natCast_add]
                  rfl
          · have ep : pw fs (k + 1) (.tuple (.str w :: inner)) = 0 := by rw [pw, if_neg hn]
            simp only [hc, hn, decide_false, Bool.not_false, if_true, ep]
            rfl
        | dict ks => exact absurd (gw_nd (hin _ List.mem_cons_self)) (by simp [isDct])
        | _ => dsimp?; rfl
    | dict ks => exact absurd (gw_nd hx) (by simp [isDct])
    | _ => dsimp? [hk0]; exact ⟨hnod, rfl⟩
end Lw
end

-- Q9_k04
section
namespace Lw
open PySem Zl Zr
def gqB : Nat → D → Bool
  | _, .none => true
  | _, .bool _ => true
  | _, .int i => i == 0 || i == 1 || i == -1
  | _, .str x => x.cps.toList.all fun c => decide (c < 128)
  | k + 1, .list xs => xs.all (gqB k)
  | k + 1, .tuple xs => xs.all (gqB k)
  | _, _ => false
theorem gqB_ok : ∀ {k : Nat} {d : D}, gqB k d = true → Gq k d
  | k, .none, _ => by cases k <;> trivial
  | k, .bool _, _ => by cases k <;> trivial
  | k, .int i, h => by
    have h' : (i == 0 || i == 1 || i == -1) = true := by cases k <;> exact h
    have : i = 0 ∨ i = 1 ∨ i = -1 := by simp only [Bool.or_eq_true, beq_iff_eq] at h'; omega
    cases k <;> exact this
  | k, .str x, h => by
    have h' : (x.cps.toList.all fun c => decide (c < 128)) = true := by cases k <;> exact h
    have : ∀ c ∈ x.cps.toList, c < 128 := fun c hc => by simpa using List.all_eq_true.mp h' c hc
    cases k <;> exact this
  | 0, .list _, h => by cases h
  | 0, .tuple _, h => by cases h
  | k + 1, .list xs, h => fun x hx => gqB_ok (List.all_eq_true.mp h x hx)
  | k + 1, .tuple xs, h => fun x hx => gqB_ok (List.all_eq_true.mp h x hx)
  | 0, .dict _, h => by cases h
  | _ + 1, .dict _, h => by cases h
theorem Gq.up : ∀ {k : Nat} {d : D}, Gq k d → Gq (k + 1) d
  | k, .none, _ => trivial
  | k, .bool _, _ => trivial
  | k, .int i, h => by cases k <;> exact h
  | k, .str x, h => by cases k <;> exact h
  | 0, .list _, h => by cases h
  | 0, .tuple _, h => by cases h
  | k + 1, .list xs, h => fun x hx => Gq.up (h x hx)
  | k + 1, .tuple xs, h => fun x hx => Gq.up (h x hx)
  | 0, .dict _, h => by cases h
  | _ + 1, .dict _, h => by cases h
theorem Gq.le {a b : Nat} {d : D} (h : Gq a d) (l : a ≤ b) : Gq b d := by
  induction b with
  | zero => have : a = 0 := by omega
            subst this; exact h
  | succ b ih =>
    rcases Nat.eq_or_lt_of_le l with e | l'
    · subst e; exact h
    · exact (ih (by omega)).up
def Sm (x : Str) : Prop := ∀ c ∈ x.cps.toList, c < 128
theorem Gq.str {k : Nat} {x : Str} (h : Gq k (.str x)) : Sm x := by cases k <;> exact h
theorem sm_gq {k : Nat} {x : Str} (h : Sm x) : Gq k (.str x) := by cases k <;> exact h
theorem Sm.app {x y : Str} (h : Sm x) (k : Sm y) : Sm (x ++ y) := fun c hc => by
  have : c ∈ (x.cps ++ y.cps).toList := hc
  rw [Array.toList_append, List.mem_append] at this
  exact this.elim (h c) (k c)
theorem Sm.cut {x : Str} (h : Sm x) (lo hi : Option Int) : Sm (L2.cutS x lo hi) := fun c hc => h c (by
  simp only [L2.cutS] at hc
  exact List.mem_of_mem_drop (List.mem_of_mem_take hc))
theorem Sm.rev {x : Str} (h : Sm x) : Sm (Zi.revS x) ∧ (Zi.revS x).length = x.length := ⟨fun c hc => h c (by
  simpa [Zi.revS] using hc), by simp [Zi.revS, Str.length]⟩
theorem up_small : (List.range 128).all (fun c => (Unicode.upperOf c).length == 1 && (Unicode.upperOf c).all fun d => decide (d < 128)) = true := by decide +kernel
theorem mapIdx_c {α β : Type} (f : α → β) : ∀ l : List α, l.mapIdx (fun _ a => f a) = l.map f
  | [] => rfl
  | a :: l => by rw [List.mapIdx_cons, mapIdx_c f l]; rfl
theorem upper_list (x : Str) : (Txt.upper x).cps.toList = (x.cps.toList.map Unicode.upperOf).flatten := by
  show (Array.flatten (x.cps.mapIdx fun i c => (Unicode.upperOf c).toArray)).toList = _
  rw [Array.toList_flatten, Array.toList_mapIdx, mapIdx_c, List.map_map]
  rfl
theorem up_one {c : Nat} (h : c < 128) : (Unicode.upperOf c).length = 1 ∧ ∀ d ∈ Unicode.upperOf c, d < 128 := by
  have := List.all_eq_true.mp up_small c (List.mem_range.mpr h)
  rw [Bool.and_eq_true] at this
  exact ⟨eq_of_beq this.1, fun d hd => by simpa using List.all_eq_true.mp this.2 d hd⟩
theorem ups_one : ∀ l : List Nat, (∀ c ∈ l, c < 128) → (l.map Unicode.upperOf).flatten.length = l.length ∧ ∀ d ∈ (l.map Unicode.upperOf).flatten, d < 128
  | [], _ => ⟨rfl, fun _ h => nomatch h⟩
  | c :: l, h => by
    have h1 := up_one (h c List.mem_cons_self)
    have h2 := ups_one l fun d hd => h d (List.mem_cons_of_mem _ hd)
    rw [List.map_cons, List.flatten_cons]
    refine ⟨by rw [List.length_append, h1.1, h2.1, List.length_cons]; omega, fun d hd => ?_⟩
    exact (List.mem_append.mp hd).elim (h1.2 d) (h2.2 d)
theorem Sm.upper {x : Str} (h : Sm x) : Sm (Txt.upper x) ∧ (Txt.upper x).length = x.length := by
  have := ups_one x.cps.toList h
  rw [← upper_list] at this
  exact ⟨this.2, by have := this.1; simpa [Str.length] using this⟩
theorem gw_str {k n : Nat} {x : Str} (h : Sm x) (l : x.length ≤ n) : Gw k n (.str x) := ⟨sm_gq h, l⟩
theorem Gw.le {a b n m : Nat} {d : D} (h : Gw a n d) (l : a ≤ b) (l2 : n ≤ m) : Gw b m d := ⟨h.1.le l, Nat.le_trans h.2 l2⟩
theorem gw_b {k n : Nat} {d : D} (h : (gqB k d && decide (d.weight ≤ n)) = true) : Gw k n d := by
  rw [Bool.and_eq_true, decide_eq_true_eq] at h
  exact ⟨gqB_ok h.1, h.2⟩
def odds : List D := [.none, .bool true, .bool false, .int 0, .int 1, .int (-1), .str (Str.ofString ""), .str (Str.ofString "a"), .str (Str.ofString "A"), .str (Str.ofString "a1"), .str (Str.ofString "abcdefghi"), .str (Str.ofString "zzzzzzzz"), .tuple [], .list [], .tuple [.str (Str.ofString "a")], .list [.str (Str.ofString "a")], .str (Str.ofString "a b")]
theorem odds_ok : ∀ d ∈ odds, Gw 1 20 d := fun d hd => gw_b (List.all_eq_true.mp (show (odds.all fun d => gqB 1 d && decide (d.weight ≤ 20)) = true by decide +kernel) d hd)
def odds2 (z : Str) : List D := odds ++ [.str (z ++ Str.ofString "z"), .str (L2.cutS z none (some (-1))), .str (Txt.upper z), .tuple [.str z], .str (Zi.revS z), .str (z ++ Str.ofString " ")]
theorem odds2_len {z : Str} : (odds2 z).length = 23 := rfl
theorem odd_ok {k n m : Nat} {o : O} {b : Bool} {x : D} (h : Tp (m + 1) o) (hn : n ≤ 900000) (hx : Gw k n x) :
    Ok (d_L_odd [.own b o, .val x]) fun q => ∃ y o', q = (.val y, [.own b o', .val x]) ∧ Gw (k + 1) (n + 20) y ∧ Tp m o' := by
  unfold d_L_odd b_L_odd
  cases x with
  | str z =>
    have hz := hx.1.str
    have hl := hx.str
    dsimp?
    have z1 : (Str.ofString "z").length = 1 := rfl
    have z2 : (Str.ofString " ").length = 1 := rfl
    refine ⟨by omega, by omega, by omega, by omega, by omega, ?_⟩
    refine (draw_ok h (by decide) (by decide)).mono fun q hq => ?_
    obtain ⟨r1, o1, rfl, h10, h11, T1⟩ := hq
    dsimp?
    obtain ⟨d, ed, hd⟩ := at_mem (xs := odds2 z) h10 (by rw [odds2_len]; exact h11)
    refine ok_eq ed ?_
    refine ⟨_, _, rfl, ?_, T1⟩
    rcases List.mem_append.mp hd with hd | hd
    · exact (odds_ok d hd).le (by omega) (by omega)
    · have s1 : Sm (Str.ofString "z") := gqB_ok (k := 0) (d := .str (Str.ofString "z")) (by decide +kernel)
      have s2 : Sm (Str.ofString " ") := gqB_ok (k := 0) (d := .str (Str.ofString " ")) (by decide +kernel)
      simp only [List.mem_cons, List.not_mem_nil, or_false] at hd
      rcases hd with rfl | rfl | rfl | rfl | rfl | rfl
      · exact gw_str (hz.app s1) (Nat.le_trans (Nat.le_of_eq (str_len_app ..)) (by omega))
      · exact gw_str (hz.cut _ _) (Nat.le_trans (L2.cutS_length z none (some (-1))) (by omega))
      · exact gw_str hz.upper.1 (Nat.le_trans (Nat.le_of_eq hz.upper.2) (by omega))
      · refine ⟨fun x hx => ?_, ?_⟩
        · rw [List.mem_singleton.mp hx]; exact sm_gq hz
        · have hl' : z.cps.size ≤ n := hl
          simp only [PyData.weight, PyData.weightAll]; omega
      · exact gw_str hz.rev.1 (Nat.le_trans (Nat.le_of_eq hz.rev.2) (by omega))
      · exact gw_str (hz.app s2) (Nat.le_trans (Nat.le_of_eq (str_len_app ..)) (by omega))
  | dict ks => exact absurd (gw_nd hx) (by simp [isDct])
  | _ =>
    dsimp?
    refine (draw_ok h (by decide) (by decide)).mono fun q hq => ?_
    obtain ⟨r1, o1, rfl, h10, h11, T1⟩ := hq
    dsimp?
    obtain ⟨d, ed, hd⟩ := at_mem (xs := odds) h10 h11
    refine ok_eq ed ?_
    exact ⟨_, _, rfl, (odds_ok d hd).le (by omega) (by omega), T1⟩
theorem wAll_app : ∀ xs ys : List D, PyData.weightAll (xs ++ ys) = PyData.weightAll xs + PyData.weightAll ys
  | [], ys => by simp [PyData.weightAll]
  | x :: xs, ys => by simp only [List.cons_append, PyData.weightAll, wAll_app xs ys]; omega
theorem wAll_rev : ∀ xs : List D, PyData.weightAll xs.reverse = PyData.weightAll xs
  | [] => rfl
  | x :: xs => by rw [List.reverse_cons, wAll_app, wAll_rev xs]; simp only [PyData.weightAll]; omega
theorem wAll_erase : ∀ (xs : List D) (k : Nat), PyData.weightAll (xs.eraseIdx k) ≤ PyData.weightAll xs
  | [], _ => by simp
  | x :: xs, 0 => by simp only [List.eraseIdx_cons_zero, PyData.weightAll]; omega
  | x :: xs, k + 1 => by simp only [List.eraseIdx_cons_succ, PyData.weightAll]; have := wAll_erase xs k; omega
theorem wAll_set : ∀ (xs : List D) (k : Nat) (h : k < xs.length) (y : D), PyData.weightAll (xs.set k y) + xs[k].weight = PyData.weightAll xs + y.weight
  | x :: xs, 0, _, y => by simp only [List.set_cons_zero, PyData.weightAll, List.getElem_cons_zero]; omega
  | x :: xs, k + 1, h, y => by
    have := wAll_set xs k (by simpa using h) y
    simp only [List.set_cons_succ, PyData.weightAll, List.getElem_cons_succ]; omega
theorem gq_all {k : Nat} {xs ys : List D} (h : ∀ x ∈ xs, Gq k x) (hm : ∀ y ∈ ys, y ∈ xs) : ∀ y ∈ ys, Gq k y := fun y hy => h y (hm y hy)
/-- what a thing is bent to -/
def Rv (r : R) (y : D) : Prop := r = .val y ∨ ∃ ys, r = .own (.lst ys) ∧ y = .list ys
theorem bent_no {m f k w : Nat} {o : O} {b : Bool} {x : D} (h1 : isB "tuple" x = false) (h2 : isB "list" x = false) (T : Tp (m + 2) o) (hw : w ≤ 400000) (hx : Gw k w x) :
    Ok (d_L_bent (f + 1) [.own b o, .val x]) fun q => ∃ r y o', q = (r, [.own b o', .val x]) ∧ Rv r y ∧ Gw (k + 1) (2 * w + 40) y ∧ Tp m o' := by
  unfold d_L_bent b_L_bent
  dsimp?
  refine (draw_ok T (by decide) (by decide)).mono fun q hq => ?_
  obtain ⟨r1, o1, rfl, h10, h11, T1⟩ := hq
  dsimp? [h1, h2]
  refine ⟨gw_nd hx, ?_⟩
  refine (odd_ok T1 (by omega) hx).mono fun q hq => ?_
  obtain ⟨y, o2, rfl, hy, T2⟩ := hq
  dsimp?
  exact ⟨_, y, _, rfl, .inl rfl, hy.le (by omega) (by omega), T2⟩
theorem tup_gw {k n : Nat} {ys : List D} (h : ∀ y ∈ ys, Gq k y) (hw : PyData.weightAll ys ≤ n) : Gw (k + 1) n (.tuple ys) ∧ Gw (k + 1) n (.list ys) := ⟨⟨h, hw⟩, ⟨h, hw⟩⟩
theorem fin_bent {b : Bool} {k w m : Nat} {ys : List D} {o' : O} {X : D} (h1 : ∀ y ∈ ys, Gq k y) (h2 : PyData.weightAll ys ≤ 2 * w + 40) (T : Tp m o') :
    (∃ r y o'', (R.val (.tuple ys), [Sl.own b o', Sl.val X]) = (r, [Sl.own b o'', Sl.val X]) ∧ Rv r y ∧ Gw (k + 1) (2 * w + 40) y ∧ Tp m o'') ∧
    (∃ r y o'', (R.own (.lst ys), [Sl.own b o', Sl.val X]) = (r, [Sl.own b o'', Sl.val X]) ∧ Rv r y ∧ Gw (k + 1) (2 * w + 40) y ∧ Tp m o'') :=
  ⟨⟨_, .tuple ys, _, rfl, .inl rfl, (tup_gw h1 h2).1, T⟩, ⟨_, .list ys, _, rfl, .inr ⟨ys, rfl, rfl⟩, (tup_gw h1 h2).2, T⟩⟩
theorem bent_ok : ∀ (k f m w : Nat) (b : Bool) (o : O) (x : D), k ≤ f → Tp (m + 4 * k + 4) o → w ≤ 400000 → Gw k w x →
    Ok (d_L_bent (f + 1) [.own b o, .val x]) fun q => ∃ r y o', q = (r, [.own b o', .val x]) ∧ Rv r y ∧ Gw (k + 1) (2 * w + 40) y ∧ Tp m o' := by
  intro k
  induction k with
  | zero =>
    intro f m w b o x hf T hw hx
    refine bent_no ?_ ?_ (T.le (by omega)) hw hx
    · cases x <;> first | rfl | cases hx.1
    · cases x <;> first | rfl | cases hx.1
  | succ k ih =>
    intro f m w b o x hf T hw hx
    have hsx : (∃ xs, x = .tuple xs) ∨ (∃ xs, x = .list xs) ∨ (isB "tuple" x = false ∧ isB "list" x = false) := by
      cases x with
      | tuple xs => exact .inl ⟨xs, rfl⟩
      | list xs => exact .inr (.inl ⟨xs, rfl⟩)
      | _ => exact .inr (.inr ⟨rfl, rfl⟩)
    have hxs : ∀ xs, (x = .tuple xs ∨ x = .list xs) → (∀ y ∈ xs, Gq k y) ∧ PyData.weightAll xs ≤ w := fun xs e => by
      rcases e with rfl | rfl
      · exact ⟨hx.1, hx.2⟩
      · exact ⟨hx.1, hx.2⟩
    rcases hsx with ⟨xs, rfl⟩ | ⟨xs, rfl⟩ | ⟨h1, h2⟩
    case inr.inr => exact bent_no h1 h2 (T.le (by omega)) hw hx
    all_goals
      obtain ⟨hq, hw2⟩ := hxs xs (by first | exact .inl rfl | exact .inr rfl)
      have hxl : xs.length ≤ w := Nat.le_trans (wAll_len xs) hw2
      obtain ⟨f, rfl⟩ : ∃ g, f = g + 1 := ⟨f - 1, by omega⟩
      have T0 : Tp (m + 4 * k + 7 + 1) o := T.le (by omega)
      rw [d_L_bent]
      unfold b_L_bent
      dsimp?
      refine (draw_ok T0 (by decide) (by decide)).mono fun q hq => ?_
      obtain ⟨r1, o1, rfl, h10, h11, T1⟩ := hq
      by_cases hl0 : (xs.length : Int) = 0
      · dsimp? [hl0]
        refine (odd_ok (m := m) (T1.le (by omega)) (by omega) hx).mono fun q hq => ?_
        obtain ⟨y, o2, rfl, hy, T2⟩ := hq
        dsimp?
        exact ⟨_, y, _, rfl, .inl rfl, hy.le (by omega) (by omega), T2⟩
      · by_cases hr0 : r1 = 0
        · dsimp? [hl0, hr0]
          refine (odd_ok (m := m) (T1.le (by omega)) (by omega) hx).mono fun q hq => ?_
          obtain ⟨y, o2, rfl, hy, T2⟩ := hq
          dsimp?
          exact ⟨_, y, _, rfl, .inl rfl, hy.le (by omega) (by omega), T2⟩
        · dsimp? [hl0, hr0]
          refine (draw_ok (T1.le (show m + 4 * k + 5 + 1 ≤ _ by omega)) (by omega) (by omega)).mono fun q hq => ?_
          obtain ⟨r2, o2, rfl, h20, h21, T2⟩ := hq
          dsimp?
          refine (draw_ok (T2.le (show m + 4 * k + 4 + 1 ≤ _ by omega)) (by decide) (by decide)).mono fun q hq => ?_
          obtain ⟨r3, o3, rfl, h30, h31, T3⟩ := hq
          dsimp?
          obtain ⟨d, ed, hd⟩ := at_mem (xs := [PyData.int ((xs.length : Int) - 1), PyData.int r2]) h30 h31
          refine ok_eq ed ?_
          obtain ⟨a, rfl, ha⟩ : ∃ a : Nat, d = .int a ∧ a < xs.length := by
            simp only [List.mem_cons, List.not_mem_nil, or_false] at hd
            rcases hd with rfl | rfl
            · exact ⟨xs.length - 1, by congr 1; omega, by omega⟩
            · exact ⟨r2.toNat, by congr 1; omega, by omega⟩
          have eA : L2.atI xs (a : Int) = some xs[a] := at_nat ha
          have mA : xs[a] ∈ xs := List.getElem_mem ha
          have wA := wAll_mem mA
          have ea : seqIndex? (a : Int) xs.length = some a := by
            have e1 : ¬ (a : Int) < 0 := by omega
            have e2 : (a : Int) < (xs.length : Int) := by omega
            simp only [seqIndex?, e1, if_false]
            simp [e2]
          have Tm := T3.le (show m ≤ _ by omega)
          have up : ∀ y ∈ xs, Gq (k + 1) y := fun y hy => (hq y hy).up
          by_cases e1 : r1 = 1
          · have hwe := wAll_erase xs a
            dsimp? [e1]
            refine ⟨⟨by omega, by omega⟩, ok_eq ea (ok_eq (List.getElem?_eq_getElem ha) ?_)⟩
            have f1 : ∀ y ∈ xs.eraseIdx a, Gq (k + 1) y := gq_all up fun y hy => List.mem_of_mem_eraseIdx hy
            have f2 : PyData.weightAll (xs.eraseIdx a) ≤ 2 * w + 40 := by omega
            first | exact (fin_bent f1 f2 Tm).1 | exact (fin_bent f1 f2 Tm).2
          · by_cases e2 : r1 = 2
            · dsimp? [e1, e2]
              refine ok_eq eA ?_
              (try dsimp?)
              refine ⟨⟨by omega, by omega, by omega⟩, ?_⟩
              have hwi : PyData.weightAll (xs.take a ++ [xs[a]] ++ xs.drop a) = PyData.weightAll xs + (xs[a].weight + 1) := by
                have := wAll_app (xs.take a) (xs.drop a)
                rw [List.take_append_drop] at this
                rw [wAll_app, wAll_app, this]
                simp only [PyData.weightAll]; omega
              have f1 : ∀ y ∈ xs.take a ++ [xs[a]] ++ xs.drop a, Gq (k + 1) y := gq_all up fun y hy => by
                rcases List.mem_append.mp hy with hy | hy
                · rcases List.mem_append.mp hy with hy | hy
                  · exact List.mem_of_mem_take hy
                  · rw [List.mem_singleton.mp hy]; exact mA
                · exact List.mem_of_mem_drop hy
              have f2 : PyData.weightAll (xs.take a ++ [xs[a]] ++ xs.drop a) ≤ 2 * w + 40 := by omega
              first | exact (fin_bent f1 f2 Tm).1 | exact (fin_bent f1 f2 Tm).2
            · by_cases e3 : r1 = 3
              · dsimp? [e1, e2, e3]
                have f1 : ∀ y ∈ xs.reverse, Gq (k + 1) y := gq_all up fun y hy => List.mem_reverse.mp hy
                have f2 : PyData.weightAll xs.reverse ≤ 2 * w + 40 := by rw [wAll_rev]; omega
                first | exact (fin_bent f1 f2 Tm).1 | exact (fin_bent f1 f2 Tm).2
              · by_cases e4 : r1 = 4
                · dsimp? [e1, e2, e3, e4]
                  have f2 : PyData.weightAll xs ≤ 2 * w + 40 := by omega
                  first | exact (fin_bent up f2 Tm).1 | exact (fin_bent up f2 Tm).2
                · dsimp? [e1, e2, e3, e4]
                  refine ok_eq eA ?_
                  (try dsimp?)
                  refine (ih f m xs[a].weight true o3 xs[a] (by omega) T3 (by omega) ⟨hq _ mA, Nat.le_refl _⟩).mono fun q hq => ?_
                  obtain ⟨r, y, o4, rfl, hr, hy, T4⟩ := hq
                  have ix : L2.ixN xs.length (a : Int) = some a := ixN_int (by omega) (by omega)
                  have hws := wAll_set xs a ha y
                  have f1 : ∀ z ∈ xs.set a y, Gq (k + 1) z := fun z hz => by
                    rcases List.mem_or_eq_of_mem_set hz with h | h
                    · exact up z h
                    · rw [h]; exact hy.1
                  have f2 : PyData.weightAll (xs.set a y) ≤ 2 * w + 40 := by have := hy.2; omega
                  rcases hr with rfl | ⟨ys, rfl, rfl⟩
                  · dsimp?
                    refine ok_eq ix ?_
                    first | exact (fin_bent f1 f2 T4).1 | exact (fin_bent f1 f2 T4).2
                  · dsimp?
                    refine ok_eq ix ?_
                    first | exact (fin_bent f1 f2 T4).1 | exact (fin_bent f1 f2 T4).2
end Lw
end

-- QA_k04
section
namespace Lw
open PySem Zl Zr
theorem pw_rsB : ∀ {l : List Str}, l.Pairwise (fun a b => a.cps.toList < b.cps.toList) → rsB l = true
  | [], _ => rfl
  | [a], _ => rfl
  | a :: b :: l, h => by
    obtain ⟨h1, h2⟩ := List.pairwise_cons.mp h
    rw [rsB_cons, pw_rsB h2, Bool.and_true, decide_eq_true_eq]
    exact h1 b List.mem_cons_self
theorem sort_rs {l : List Str} (h : l.Nodup) : rsB (sortS l) = true := by
  refine pw_rsB ?_
  have h2 : (sortS l).Nodup := (sortS_perm l).nodup_iff.mpr h
  rw [List.nodup_iff_pairwise_ne] at h2
  refine (List.Pairwise.and (sortS_pw l) h2).imp fun {a b} hab => ?_
  have : PySem.Spec.ltCps a.cps.toList b.cps.toList = true := by
    cases e : PySem.Spec.ltCps a.cps.toList b.cps.toList with
    | true => rfl
    | false => exact (hab.2 (str_eq (ltC_tri e hab.1))).elim
  rw [PyProof.Rows.ltCps_eq] at this
  simpa using this
theorem az_HS : (List.range 26).all (fun i => HS ⟨#[97 + i]⟩) = true := by decide +kernel
theorem nm_is {w : Str} (h : Nm w) : isNm (.str w) = true := by
  have h1 := h.1
  have h2 := h.2.1
  have e1 : 1 ≤ (w.length : Int) := by omega
  have e2 : (w.length : Int) ≤ 8 := by omega
  simp only [isNm, e1, e2, decide_true, Bool.true_and]
  refine List.all_eq_true.mpr fun c hc => ?_
  have hb := h.2.2 c hc
  have := List.all_eq_true.mp az_HS (c - 97) (List.mem_range.mpr (by omega))
  have e : 97 + (c - 97) = c := by omega
  rw [e] at this
  exact this
theorem nm_sm {w : Str} (h : Nm w) : Sm w := fun c hc => by have := h.2.2 c hc; omega
theorem sortS_len (l : List Str) : (sortS l).length = l.length := (sortS_perm l).length_eq
theorem sortS_mem {l : List Str} {x : Str} : x ∈ sortS l ↔ x ∈ l := (sortS_perm l).mem_iff
theorem l_sorted {ys : List Str} {QR : R → Prop} (h : ys.length < 64) : Ok (sortF2 [.list (ys.map PyData.str)]) QR = QR (.own (.lst ((sortS ys).map PyData.str))) := by
  have e : sortF2 [.list (ys.map PyData.str)] = some (.own (.lst ((sortS ys).map PyData.str))) := by
    simp only [sortF2, sortedF, strs_of, h, if_true]
  rw [e, ok_some]
theorem wAll_le {c : Nat} : ∀ {xs : List D}, (∀ x ∈ xs, x.weight ≤ c) → PyData.weightAll xs ≤ xs.length * (c + 1)
  | [], _ => by simp [PyData.weightAll]
  | x :: xs, h => by
    have h1 := h x List.mem_cons_self
    have h2 := wAll_le (xs := xs) fun y hy => h y (List.mem_cons_of_mem _ hy)
    have e : (xs.length + 1) * (c + 1) = xs.length * (c + 1) + (c + 1) := Nat.succ_mul ..
    simp only [PyData.weightAll, List.length_cons, e]; omega
/-- few things of few weight -/
theorem gw_few {k c m n : Nat} {xs : List D} (h : ∀ x ∈ xs, Gw k c x) (hl : xs.length ≤ m) (hn : m * (c + 1) ≤ n) : Gw (k + 1) n (.tuple xs) ∧ Gw (k + 1) n (.list xs) := by
  have := wAll_le fun x hx => (h x hx).2
  have := Nat.mul_le_mul_right (c + 1) hl
  exact tup_gw (fun x hx => (h x hx).1) (by omega)
def Ws (ws : List Str) : Prop := ws.length ≤ 4 ∧ ∀ w ∈ ws, Nm w
def Fg (p : Str × List Str) : Prop := Nm p.1 ∧ Ws p.2 ∧ 2 ≤ p.2.length ∧ rsB p.2 = true
theorem gw_w {k : Nat} {w : Str} (h : Nm w) : Gw k 8 (.str w) := gw_str (nm_sm h) h.2.1
theorem gw_t {k : Nat} {ws : List Str} (h : Ws ws) : Gw (k + 1) 36 (tD ws) := (gw_few (m := 4) (fun x hx => by obtain ⟨w, hw, rfl⟩ := List.mem_map.mp hx; exact gw_w (h.2 w hw)) (by rw [List.length_map]; exact h.1) (by decide)).1
theorem gw_f {k : Nat} {p : Str × List Str} (h : Fg p) : Gw (k + 2) 74 (fD p) := (gw_few (m := 2) (fun x hx => by
  simp only [List.mem_cons, List.not_mem_nil, or_false] at hx
  rcases hx with rfl | rfl
  · exact (gw_w (k := k + 1) h.1).le (Nat.le_refl _) (show 8 ≤ 36 by decide)
  · exact gw_t h.2.1) (by simp) (by decide)).1
theorem gw_fs {k : Nat} {fs : List (Str × List Str)} (hl : fs.length ≤ 4) (h : ∀ p ∈ fs, Fg p) : Gw (k + 3) 300 (fsD fs) ∧ Gw (k + 3) 300 (.list (fs.map fD)) := gw_few (m := 4) (fun x hx => by obtain ⟨p, hp, rfl⟩ := List.mem_map.mp hx; exact gw_f (h p hp)) (by rw [List.length_map]; exact hl) (by decide)
def Fl (fs : List (Str × List Str)) : Prop := fs.length ≤ 4 ∧ (∀ p ∈ fs, Fg p) ∧ rsB (fs.map (·.1)) = true
theorem fg_is {p : Str × List Str} (h : Fg p) : isFt (fD p) = true := by
  obtain ⟨h1, h2, h3, h4⟩ := h
  have e1 : 2 ≤ ((p.2.map PyData.str).length : Int) := by rw [List.length_map]; omega
  have e2 : ((p.2.map PyData.str).length : Int) ≤ 4 := by rw [List.length_map]; have := h2.1; omega
  have e3 : (p.2.map PyData.str).all isNm = true := List.all_eq_true.mpr fun x hx => by obtain ⟨w, hw, rfl⟩ := List.mem_map.mp hx; exact nm_is (h2.2 w hw)
  have e4 : (p.2.map PyData.str).map tx = p.2 := by rw [List.map_map]; exact List.map_id _
  show (isNm (.str p.1) && (decide (2 ≤ ((p.2.map PyData.str).length : Int)) && decide (((p.2.map PyData.str).length : Int) ≤ 4)) && (p.2.map PyData.str).all isNm && rsB ((p.2.map PyData.str).map tx)) = true
  simp only [nm_is h1, e1, e2, e3, e4, h4, decide_true, Bool.and_self]
theorem fl_is {fs : List (Str × List Str)} (h : Fl fs) (h0 : 1 ≤ fs.length) : isFs (fsD fs) = true := by
  obtain ⟨h1, h2, h3⟩ := h
  have e1 : 1 ≤ ((fs.map fD).length : Int) := by rw [List.length_map]; omega
  have e2 : ((fs.map fD).length : Int) ≤ 4 := by rw [List.length_map]; omega
  have e3 : (fs.map fD).all isFt = true := List.all_eq_true.mpr fun x hx => by obtain ⟨p, hp, rfl⟩ := List.mem_map.mp hx; exact fg_is (h2 p hp)
  have e4 : (fs.map fD).map (fun f => tx (fst0 f)) = fs.map (·.1) := by rw [List.map_map]; rfl
  show ((decide (1 ≤ ((fs.map fD).length : Int)) && decide (((fs.map fD).length : Int) ≤ 4)) && (fs.map fD).all isFt && rsB ((fs.map fD).map fun f => tx (fst0 f))) = true
  simp only [e1, e2, e3, e4, h3, decide_true, Bool.and_self]
theorem at_last {α : Type} {xs : List α} (h : xs ≠ []) : ∃ d, L2.atI xs (-1) = some d ∧ d ∈ xs := by
  have hl : 0 < xs.length := List.length_pos_iff.mpr h
  have e : L2.ixN xs.length (-1) = some (xs.length - 1) := by
    have h1 : -(xs.length : Int) ≤ -1 := by omega
    simp only [L2.ixN, h1, if_true]
    have : ((-1 : Int) + (xs.length : Nat)).toNat = xs.length - 1 := by omega
    simp [this]
  have hk : xs.length - 1 < xs.length := by omega
  exact ⟨xs[xs.length - 1], by simp [L2.atI, e, List.getElem?_eq_getElem hk], List.getElem_mem hk⟩
theorem facets_ok {n : Nat} {o : O} {b : Bool} {m m2 : Int} (h : Tp (n + 400) o) (hm : 1 ≤ m) (hm4 : m ≤ 4) (h2 : 2 ≤ m2) (h4 : m2 ≤ 4) :
    Ok (d_L_facets [.own b o, .val (.int m), .val (.int m2)]) fun q => ∃ (fs : List (Str × List Str)) (o' : O), q = (.val (fsD fs), [.own b o', .val (.int m), .val (.int m2)]) ∧ (fs.length : Int) = m ∧ Fl fs ∧ Tp n o' := by
  unfold d_L_facets b_L_facets
  dsimp?
  refine (names_ok (n := n + 300) (h.le (by omega)) (by omega) (by omega)).mono fun q hq => ?_
  obtain ⟨ws, o1, rfl, hl, hnd, hw, T⟩ := hq
  dsimp? [l_sorted (show ws.length < 64 by omega)]
  have hrs := sort_rs hnd
  have hwS : ∀ x ∈ sortS ws, Nm x := fun x hx => hw x (sortS_mem.mp hx)
  have hlS : ((sortS ws).length : Int) = m := by rw [sortS_len]; exact hl
  refine ok_forL (fun r ρ => ∃ (o' : O) (fs : List (Str × List Str)) (r' : List Str) (a1 a2 : Sl), ρ = [Sl.own true o', Sl.val (.int m), Sl.val (.int m2), Sl.own false (.lst (fs.map fD)), a1, a2] ∧ pS (some a1) = false ∧ pS (some a2) = false ∧ (∀ p ∈ fs, Fg p) ∧ r = r'.map PyData.str ∧ fs.map (·.1) ++ r' = sortS ws ∧ Tp (n + 50 * r.length) o')
    ⟨o1, [], sortS ws, _, _, rfl, rfl, rfl, by simp, rfl, rfl, T.le (by simp; omega)⟩ (fun d r ρ h => ?_) fun ρ h => ?_
  · obtain ⟨o2, fs, r', a1, a2, rfl, e1, e2, hf, hr, hs, T⟩ := h
    cases r' with
    | nil => cases hr
    | cons x r' =>
    cases hr
    have hx : Nm x := hwS x (by rw [← hs]; simp)
    have hlen : fs.length + r'.length + 1 = (sortS ws).length := by rw [← hs]; simp; omega
    rw [List.length_cons] at T
    dsimp? [e1, e2]
    refine (draw_ok (T.le (show n + 50 * (r'.map PyData.str).length + 48 + 1 ≤ _ by omega)) (by omega) (by omega)).mono fun q hq => ?_
    obtain ⟨r3, o3, rfl, h30, h31, T3⟩ := hq
    dsimp? [e1, e2]
    refine (names_ok (n := n + 50 * (r'.map PyData.str).length + 20) (T3.le (by omega)) (by omega) (by omega)).mono fun q hq => ?_
    obtain ⟨vs, o4, rfl, hlv, hndv, hv, T4⟩ := hq
    dsimp? [l_sorted (show vs.length < 64 by omega), e1, e2]
    have hws : Ws (sortS vs) := ⟨by rw [sortS_len]; omega, fun w h => hv w (sortS_mem.mp h)⟩
    have hwl : 2 ≤ (sortS vs).length := by rw [sortS_len]; omega
    have hwr := sort_rs hndv
    have fin : ∀ (o5 : O) (p : List Str), Ws p → 2 ≤ p.length → rsB p = true → Tp (n + 50 * (r'.map PyData.str).length) o5 → ∀ (a3 a4 : Sl), pS (some a3) = false → pS (some a4) = false →
        fs.length < 16777216 ∧ ∃ (o' : O) (fs' : List (Str × List Str)) (r'' : List Str) (a1 a2 : Sl), [Sl.own true o5, Sl.val (PyData.int m), Sl.val (PyData.int m2), Sl.own false (O.lst (fs.map fD ++ [.tuple [.str x, tD p]])), a3, a4] = [Sl.own true o', Sl.val (.int m), Sl.val (.int m2), Sl.own false (.lst (fs'.map fD)), a1, a2] ∧ pS (some a1) = false ∧ pS (some a2) = false ∧ (∀ p ∈ fs', Fg p) ∧ r'.map PyData.str = r''.map PyData.str ∧ fs'.map (·.1) ++ r'' = sortS ws ∧ Tp (n + 50 * (r'.map PyData.str).length) o' := fun o5 p hp1 hp2 hp3 T5 a3 a4 h3 h4 => by
      refine ⟨by omega, o5, fs ++ [(x, p)], r', a3, a4, by simp [fD], h3, h4, fun q hq => ?_, rfl, by rw [← hs]; simp, T5⟩
      rcases List.mem_append.mp hq with h | h
      · exact hf q h
      · rw [List.mem_singleton.mp h]; exact ⟨hx, hp1, hp2, hp3⟩
    have hsh : SeqAt.shaped (.list (fs.map fD)) = true := gq_shaped (k := 3) (gw_fs (k := 0) (by omega) hf).2.1 (by decide)
    have hsh0 : SeqAt.shaped (.list []) = true := by decide
    rw [l_neL hsh hsh0]
    by_cases hfs : fs = []
    · subst hfs
      have e : PyData.eqv (.list []) (.list []) = true := rfl
      dsimp? [e, e1, e2]
      exact (fin o4 _ hws hwl hwr (T4.le (by omega)) _ _ rfl rfl).2
    · have e : PyData.eqv (.list (fs.map fD)) (.list []) = false := by
        cases fs with
        | nil => exact (hfs rfl).elim
        | cons p fs => rfl
      dsimp? [e, e1, e2]
      refine (draw_ok (T4.le (show n + 50 * (r'.map PyData.str).length + 1 ≤ _ by omega)) (by decide) (by decide)).mono fun q hq => ?_
      obtain ⟨r5, o5, rfl, h50, h51, T5⟩ := hq
      dsimp? [e1, e2, List.length_map]
      rw [List.length_map] at T5 fin
      split
      · obtain ⟨d, ed, hd⟩ := at_last (xs := fs.map fD) (by simpa using hfs)
        obtain ⟨p, hp, rfl⟩ := List.mem_map.mp hd
        refine ok_eq ed ?_
        unfold fD
        dsimp? [List.length_map]
        have hp2 := (hf p hp).2
        exact fin o5 p.2 hp2.1 hp2.2.1 hp2.2.2 T5 _ _ rfl rfl
      · exact fin o5 _ hws hwl hwr T5 _ _ rfl rfl
  · obtain ⟨o2, fs, r', a1, a2, rfl, e1, e2, hf, hr, hs, T⟩ := h
    cases r' with
    | cons x r' => cases hr
    | nil =>
    rw [List.append_nil] at hs
    have hl2 : (fs.length : Int) = m := by rw [← hlS, ← hs, List.length_map]
    dsimp?
    exact ⟨fs, o2, rfl, hl2, ⟨by omega, hf, by rw [hs]; exact hrs⟩, T.le (by omega)⟩
end Lw
end

-- QB_k04
section
namespace Lw
open PySem Zl Zr
theorem gq_ints : ∀ (k : Nat) (d : D), Gq k d → d.showable = true ∧ d.intsShort 13 = true
  | k, .none, _ | k, .bool _, _ | k, .str _, _ => by simp [PyData.showable, PyData.intsShort]
  | k, .int i, h => by
    have h' : i = 0 ∨ i = 1 ∨ i = -1 := by cases k <;> exact h
    rcases h' with rfl | rfl | rfl <;> decide +kernel
  | 0, .list _, h | 0, .tuple _, h => by cases h
  | k + 1, .list xs, h | k + 1, .tuple xs, h => by
    have a : ∀ ys : List D, (∀ y ∈ ys, Gq k y) → PyData.showableAll ys = true ∧ PyData.intsShortAll 13 ys = true := fun ys => by
      induction ys with
      | nil => intro _; simp [PyData.showableAll, PyData.intsShortAll]
      | cons y ys ih =>
        intro hy
        have h1 := gq_ints k y (hy y List.mem_cons_self)
        have h2 := ih fun z hz => hy z (List.mem_cons_of_mem _ hz)
        simp only [PyData.showableAll, PyData.intsShortAll, h1.1, h1.2, h2.1, h2.2, Bool.and_self, and_self]
    have := a xs h
    simpa only [PyData.showable, PyData.intsShort] using this
  | 0, .dict _, h => by cases h
  | _ + 1, .dict _, h => by cases h
theorem gq_shown {k : Nat} {d : D} (hk : k ≤ 64) (h : Gw k 1000000 d) : shownOk d = true := by
  have h1 := gq_shaped h.1 hk
  have h2 := gq_ints k d h.1
  have h3 := gq_shape k d h.1
  have hw : d.weight ≤ 2 ^ 20 := Nat.le_trans h.2 (by decide)
  have := PyData.shown_fits (B := 13) (by decide) (by decide) (PyData.leavesShort_of_canLay0 13 d h3.1 h2.2) hw
  simp only [shownOk, h1, h2.1, Bool.true_and, decide_eq_true_eq]
  exact this
theorem to_ws {ws : List Str} : ∀ {es : List D}, (∀ e ∈ es, e ∈ ws.map PyData.str) → ∃ xs : List Str, es = xs.map PyData.str ∧ ∀ x ∈ xs, x ∈ ws
  | [], _ => ⟨[], rfl, by simp⟩
  | e :: es, h => by
    obtain ⟨x, hx, rfl⟩ := List.mem_map.mp (h e List.mem_cons_self)
    obtain ⟨xs, rfl, h2⟩ := to_ws fun e he => h e (List.mem_cons_of_mem _ he)
    exact ⟨x :: xs, rfl, fun y hy => (List.mem_cons.mp hy).elim (fun e => e ▸ hx) (h2 y)⟩
theorem gw_1 {k c n : Nat} {d : D} (h : Gw k c d) (hn : c + 1 ≤ n) : Gw (k + 1) n (.tuple [d]) := (gw_few (m := 1) (c := c) (xs := [d]) (fun x hx => by rw [List.mem_singleton.mp hx]; exact h) (Nat.le_refl 1) (by omega)).1
theorem gw_2 {k c n : Nat} {d e : D} (h : Gw k c d) (h2 : Gw k c e) (hn : 2 * (c + 1) ≤ n) : Gw (k + 1) n (.tuple [d, e]) := (gw_few (m := 2) (c := c) (xs := [d, e]) (fun x hx => by
  simp only [List.mem_cons, List.not_mem_nil, or_false] at hx
  rcases hx with rfl | rfl
  · exact h
  · exact h2) (Nat.le_refl 2) hn).1
theorem gw_3 {k c n : Nat} {d e g : D} (h : Gw k c d) (h2 : Gw k c e) (h3 : Gw k c g) (hn : 3 * (c + 1) ≤ n) : Gw (k + 1) n (.tuple [d, e, g]) := (gw_few (m := 3) (c := c) (xs := [d, e, g]) (fun x hx => by
  simp only [List.mem_cons, List.not_mem_nil, or_false] at hx
  rcases hx with rfl | rfl | rfl
  · exact h
  · exact h2
  · exact h3) (Nat.le_refl 3) hn).1
def Ww : Nat → Nat
  | 0 => 120
  | j + 1 => 3 * Ww j + 3
def Dw : Nat → Nat
  | 0 => 70
  | j + 1 => 3 * Dw j
theorem Ww_ge : ∀ j, 120 ≤ Ww j
  | 0 => by decide
  | j + 1 => by have := Ww_ge j; simp only [Ww]; omega
theorem Dw_ge : ∀ j, 70 ≤ Dw j
  | 0 => by decide
  | j + 1 => by have := Dw_ge j; simp only [Dw]; omega
theorem Ww_mono {i j : Nat} (h : i ≤ j) : Ww i ≤ Ww j := by
  induction j with
  | zero => have : i = 0 := by omega
            subst this; exact Nat.le_refl _
  | succ j ih =>
    rcases Nat.eq_or_lt_of_le h with e | l
    · rw [e]; exact Nat.le_refl _
    · have := ih (by omega); simp only [Ww]; omega
theorem Dw_mono {i j : Nat} (h : i ≤ j) : Dw i ≤ Dw j := by
  induction j with
  | zero => have : i = 0 := by omega
            subst this; exact Nat.le_refl _
  | succ j ih =>
    rcases Nat.eq_or_lt_of_le h with e | l
    · rw [e]; exact Nat.le_refl _
    · have := ih (by omega); simp only [Dw]; omega
theorem clean_strs : ∀ ws : List Str, cleans (ws.map PyData.str) = true
  | [] => rfl
  | w :: ws => by rw [List.map_cons, cleans, clean_strs ws]; rfl
theorem Tp.clean {n : Nat} {o : O} (h : Tp n o) : cleanO o = true := by
  obtain ⟨x, y, c, rfl, _⟩ := h
  rfl
theorem when_ok {fs : List (Str × List Str)} (h0 : 1 ≤ fs.length) (hf : fs.length ≤ 4 ∧ ∀ p ∈ fs, Fg p) : ∀ (J j f m : Nat) (b : Bool) (o : O), j ≤ J → 1 ≤ j → J ≤ f → Tp (m + Dw j) o →
    Ok (d_L_when (f + 1) [.own b o, .val (.tuple (fs.map fD)), .val (.int j)]) fun q => ∃ y o', q = (.val y, [.own b o', .val (.tuple (fs.map fD)), .val (.int j)]) ∧ (Gw (j + 1) (Ww j) y ∧ clean y = true) ∧ Tp m o' := fun J => by
  induction J with
  | zero => intro j f m b o hj hj1; omega
  | succ J ih =>
    intro j f m b o hj hj1 hfl T
    obtain ⟨f, rfl⟩ : ∃ g, f = g + 1 := ⟨f - 1, by omega⟩
    obtain ⟨i, rfl⟩ : ∃ i, j = i + 1 := ⟨j - 1, by omega⟩
    have hD := Dw_ge (i + 1)
    have hW := Ww_ge (i + 1)
    rw [d_L_when]
    unfold b_L_when
    dsimp?
    refine (draw_ok (n := m + Dw (i + 1) - 1) (T.le (by omega)) (by decide) (by decide)).mono fun q hq => ?_
    obtain ⟨r1, o1, rfl, h10, h11, T1⟩ := hq
    dsimp?
    have e1 : ((i + 1 : Nat) : Int) - 1 = i := by omega
    by_cases c : ((i + 1 : Nat) : Int) < 2 ∨ r1 < 2
    · have fin : ∀ (ρ : Rho), ρ = [Sl.own true o1, Sl.val (.tuple (fs.map fD)), Sl.val (.int ((i + 1 : Nat) : Int)), Sl.val (.int r1), Sl.no, Sl.no, Sl.no] → True := fun _ _ => trivial
      by_cases c1 : ((i + 1 : Nat) : Int) < 2
      all_goals
        first
        | have c2 : r1 < 2 := by omega
          dsimp? [c1, c2]
        | dsimp? [c1]
        refine (draw_ok (n := m + Dw (i + 1) - 2) (T1.le (by omega)) (by decide) (by decide)).mono fun q hq => ?_
        obtain ⟨r2, o2, rfl, h20, h21, T2⟩ := hq
        by_cases hr2 : r2 = 0
        · dsimp? [hr2]
          exact ⟨_, _, rfl, ⟨(gw_1 (k := 0) (c := 8) (n := 9) (gw_b (by decide +kernel)) (by decide)).le (by omega) (by omega), rfl⟩, T2.le (by omega)⟩
        · dsimp? [hr2, List.length_map]
          have hf4 := hf.1
          refine (draw_ok (n := m + Dw (i + 1) - 3) (T2.le (by omega)) (by omega) (by omega)).mono fun q hq => ?_
          obtain ⟨r3, o3, rfl, h30, h31, T3⟩ := hq
          dsimp? [List.length_map]
          obtain ⟨d, ed, hd⟩ := at_mem (xs := fs.map fD) h30 (by rw [List.length_map]; exact h31)
          obtain ⟨p, hp, rfl⟩ := List.mem_map.mp hd
          refine ok_eq ed ?_
          have hp2 := hf.2 p hp
          have hpl := hp2.2.1.1
          have hpm := hp2.2.2.1
          unfold fD tD
          dsimp? [List.length_map]
          refine (draw_ok (n := m + Dw (i + 1) - 4) (T3.le (by omega)) (by omega) (by omega)).mono fun q hq => ?_
          obtain ⟨r4, o4, rfl, h40, h41, T4⟩ := hq
          dsimp? [List.length_map]
          refine (part_ok (n := m + Dw (i + 1) - 68) (T4.le (by omega)) (by omega) (by rw [List.length_map]; omega) (by rw [List.length_map]; omega)).mono fun q hq => ?_
          obtain ⟨es, o5, rfl, hes, hm, T5⟩ := hq
          obtain ⟨xs, rfl, hx⟩ := to_ws hm
          rw [List.length_map] at hes
          have hx64 : xs.length < 64 := by omega
          dsimp? [l_sorted hx64, List.length_map]
          have hxs : Ws (sortS xs) := ⟨by rw [sortS_len]; omega, fun w h => hp2.2.1.2 w (hx w (sortS_mem.mp h))⟩
          refine ⟨_, _, rfl, ⟨(gw_3 (k := 1) (c := 36) (n := 120) (gw_b (by decide +kernel)) ((gw_w hp2.1).le (Nat.le_refl _) (by decide)) (gw_t (k := 0) hxs) (by decide)).le (by omega) (by omega), ?_⟩, T5.le (by omega)⟩
          simp only [clean, cleans, clean_strs, Bool.and_self]
    · have c1 : ¬ ((i + 1 : Nat) : Int) < 2 := fun h => c (.inl h)
      have c2 : ¬ r1 < 2 := fun h => c (.inr h)
      have i1 : 1 ≤ i := by omega
      have eD : Dw (i + 1) = 3 * Dw i := rfl
      have eW : Ww (i + 1) = 3 * Ww i + 3 := rfl
      have gD := Dw_ge i
      have gW := Ww_ge i
      by_cases c3 : r1 = 2
      · dsimp? [c1, c2, c3, e1]
        refine (ih i f (m + Dw i) true o1 (by omega) (by omega) (by omega) (T1.le (by omega))).mono fun q hq => ?_
        obtain ⟨y, o2, rfl, hy, T2⟩ := hq
        have cl := T2.clean
        dsimp? [hy.2, cl]
        exact ⟨_, _, rfl, ⟨gw_2 (c := Ww i) (n := Ww (i + 1)) ((gw_b (k := 0) (n := 8) (by decide +kernel)).le (by omega) (by omega)) hy.1 (by omega), by simp [clean, cleans, hy.2]⟩, T2.le (by omega)⟩
      · dsimp? [c1, c2, c3, e1]
        refine (ih i f (m + Dw i) true o1 (by omega) (by omega) (by omega) (T1.le (by omega))).mono fun q hq => ?_
        obtain ⟨y, o2, rfl, hy, T2⟩ := hq
        have cl := T2.clean
        dsimp? [hy.2, cl, e1]
        refine ⟨by decide, ?_⟩
        obtain ⟨d, ed, hd⟩ := at_mem (xs := [PyData.str (Str.ofString "both"), PyData.str (Str.ofString "either")]) (i := r1 % 2) (Int.emod_nonneg _ (by decide)) (Int.emod_lt_of_pos _ (by decide))
        refine ok_eq ed ?_
        have hdk : Gw (i + 1) (Ww i) d ∧ clean d = true := by
          simp only [List.mem_cons, List.not_mem_nil, or_false] at hd
          rcases hd with rfl | rfl
          · exact ⟨(gw_b (k := 0) (n := 8) (by decide +kernel)).le (by omega) (by omega), rfl⟩
          · exact ⟨(gw_b (k := 0) (n := 8) (by decide +kernel)).le (by omega) (by omega), rfl⟩
        obtain ⟨j2, e2, g1, g2, g3⟩ : ∃ j2 : Nat, (if (i : Int) < 2 then (i : Int) else 2) = (j2 : Int) ∧ 1 ≤ j2 ∧ j2 ≤ i ∧ j2 ≤ 2 := by
          by_cases h : (i : Int) < 2
          · exact ⟨i, if_pos h, by omega, by omega, by omega⟩
          · exact ⟨2, if_neg h, by omega, by omega, by omega⟩
        rw [e2]
        have m1 := Dw_mono g2
        have m2 := Ww_mono g2
        refine (ih j2 f m true o2 (by omega) g1 (by omega) (T2.le (by omega))).mono fun q hq => ?_
        obtain ⟨z, o3, rfl, hz, T3⟩ := hq
        have cl3 := T3.clean
        dsimp? [hz.2, cl3]
        exact ⟨_, _, rfl, ⟨gw_3 (c := Ww i) (n := Ww (i + 1)) hdk.1 hy.1 (hz.1.le (by omega) m2) (by omega), by simp [clean, cleans, hdk.2, hy.2, hz.2]⟩, T3.le (by omega)⟩
end Lw
end

-- QC_k04
section
namespace Lw
open PySem Zl Zr
def wIs (f : Str) (ws : List D) : D := .tuple [.str (Str.ofString "is"), .str f, .tuple ws]
def wNot (d : D) : D := .tuple [.str (Str.ofString "not"), d]
def wB (d e : D) : D := .tuple [.str (Str.ofString "both"), d, e]
def wE (d e : D) : D := .tuple [.str (Str.ofString "either"), d, e]
def wT0 (f w : Str) : D := wB (wE (wIs f [.str w]) (wIs f [.str w])) (wE (wNot (wIs f [.str w])) (wIs f [.str w]))
def wT1 (f w : Str) : D := wB (wE (wNot (wIs f [.str w])) (wIs f [.str w])) (wE (wNot (wIs f [.str w])) (wIs f [.str w]))
theorem cut1 {d : D} {r : List D} : cutL (d :: r) none (some (1 : Int)) = [d] := by
  have := cut_to' (xs := d :: r) (k := 1)
  simpa using this
theorem bounds_ok {fs : List (Str × List Str)} (h0 : 1 ≤ fs.length) (hf : fs.length ≤ 4 ∧ ∀ p ∈ fs, Fg p) :
    Ok (d_L_at_bounds [.val (fsD fs)]) fun q => ∃ (p : Str × List Str) (w : Str) (r : List Str) (ts : List D), q = (.own (.lst (wT0 p.1 w :: wT1 p.1 w :: ts)), [.val (fsD fs)]) ∧ fs.head? = some p ∧ p.2 = w :: r ∧ ts.length ≤ 20 ∧ ∀ t ∈ wT0 p.1 w :: wT1 p.1 w :: ts, Gw 10 10000 t := by
  cases fs with
  | nil => simp at h0
  | cons p fs =>
  obtain ⟨hf1, hf2⟩ := hf
  have hp := hf2 p List.mem_cons_self
  obtain ⟨pn, pw⟩ := p
  have hpl := hp.2.2.1
  cases pw with
  | nil => simp at hpl
  | cons w r =>
  obtain ⟨dl, el, hdl⟩ := at_last (xs := (((pn, w :: r) :: fs).map fD)) (by simp)
  obtain ⟨⟨ln, lw⟩, hlm, rfl⟩ := List.mem_map.mp hdl
  have hlg := hf2 _ hlm
  have e0 : L2.atI (((pn, w :: r) :: fs).map fD) (0 : Int) = some (fD (pn, w :: r)) := at0
  unfold d_L_at_bounds b_L_at_bounds fsD
  generalize ((pn, w :: r) :: fs).map fD = xs at e0 el ⊢
  unfold fD tD at e0 el
  simp only [List.map_cons] at e0 el
  have a1 : ∀ {x y : D}, L2.atI [x, y] (1 : Int) = some y := rfl
  dsimp? [e0, el, at0, a1, cut1]
  refine ⟨⟨by decide, by decide⟩, (pn, w :: r), w, r, _, rfl, rfl, rfl, by simp, ?_⟩
  have hw : Nm w := hp.2.1.2 w (by simp)
  have hpn : Nm pn := hp.1
  have hln : Nm ln := hlg.1
  have lit : ∀ {k : Nat} (z : Str), (gqB 0 (.str z) && decide (PyData.weight (.str z) ≤ 8)) = true → Gw k 36 (.str z) := fun z h => (gw_b (k := 0) (n := 8) h).le (Nat.zero_le _) (by decide)
  have s1 : ∀ {k : Nat}, Gw k 36 (.str (Str.ofString "is")) := lit _ (by decide +kernel)
  have s2 : ∀ {k : Nat}, Gw k 36 (.str (Str.ofString "not")) := lit _ (by decide +kernel)
  have s3 : ∀ {k : Nat}, Gw k 36 (.str (Str.ofString "both")) := lit _ (by decide +kernel)
  have s4 : ∀ {k : Nat}, Gw k 36 (.str (Str.ofString "either")) := lit _ (by decide +kernel)
  have s5 : ∀ {k : Nat}, Gw k 36 (.str (Str.ofString "always")) := lit _ (by decide +kernel)
  have gp : ∀ {k : Nat}, Gw k 36 (.str pn) := (gw_w hpn).le (Nat.le_refl _) (by decide)
  have gl : ∀ {k : Nat}, Gw k 36 (.str ln) := (gw_w hln).le (Nat.le_refl _) (by decide)
  have gw0 : ∀ {k : Nat}, Gw k 8 (.str w) := gw_w hw
  have g1 : Gw 1 36 (.tuple [.str w]) := gw_1 gw0 (by decide)
  have gI : Gw 2 120 (wIs pn [.str w]) := gw_3 s1 gp g1 (by decide)
  have gN : Gw 3 250 (wNot (wIs pn [.str w])) := gw_2 (c := 120) (s2.le (Nat.le_refl _) (by decide)) gI (by decide)
  have gN2 : Gw 4 600 (wNot (wNot (wIs pn [.str w]))) := gw_2 (c := 250) (s2.le (Nat.le_refl _) (by decide)) gN (by decide)
  have gN3 : Gw 5 1300 (wNot (wNot (wNot (wIs pn [.str w])))) := gw_2 (c := 600) (s2.le (Nat.le_refl _) (by decide)) gN2 (by decide)
  have gN4 : Gw 6 2700 (wNot (wNot (wNot (wNot (wIs pn [.str w]))))) := gw_2 (c := 1300) (s2.le (Nat.le_refl _) (by decide)) gN3 (by decide)
  have gEa : Gw 4 760 (wE (wIs pn [.str w]) (wIs pn [.str w])) := gw_3 (c := 250) (s4.le (Nat.le_refl _) (by decide)) (gI.le (by decide) (by decide)) (gI.le (by decide) (by decide)) (by decide)
  have gEb : Gw 4 760 (wE (wNot (wIs pn [.str w])) (wIs pn [.str w])) := gw_3 (c := 250) (s4.le (Nat.le_refl _) (by decide)) gN (gI.le (by decide) (by decide)) (by decide)
  have gT0 : Gw 5 2300 (wT0 pn w) := gw_3 (c := 760) (s3.le (Nat.le_refl _) (by decide)) gEa gEb (by decide)
  have gT1 : Gw 5 2300 (wT1 pn w) := gw_3 (c := 760) (s3.le (Nat.le_refl _) (by decide)) gEb gEb (by decide)
  have gL : Gw 1 36 (.tuple (lw.map PyData.str)) := gw_t (k := 0) hlg.2.1
  have gLr : Gw 1 36 (.tuple (lw.map PyData.str).reverse) := ⟨fun x hx => gL.1 x (List.mem_reverse.mp hx), by
      show PyData.weightAll (lw.map PyData.str).reverse ≤ 36
      rw [wAll_rev]; exact gL.2⟩
  have gE : ∀ {k : Nat}, Gw (k + 1) 36 (.tuple []) := ⟨fun x hx => (nomatch hx), by decide⟩
  have gAl : Gw 1 40 (.tuple [.str (Str.ofString "always")]) := gw_1 (k := 0) s5 (by decide)
  intro t ht
  simp only [List.mem_cons, List.not_mem_nil, or_false] at ht
  rcases ht with rfl | rfl | rfl | rfl | rfl | rfl | rfl | rfl | rfl | rfl | rfl | rfl | rfl | rfl | rfl | rfl | rfl
  · exact gT0.le (by decide) (by decide)
  · exact gT1.le (by decide) (by decide)
  · exact gN3.le (by decide) (by decide)
  · exact gN4.le (by decide) (by decide)
  · exact gAl.le (by decide) (by decide)
  · exact (gw_2 (k := 0) (n := 100) s5 s5 (by decide)).le (by decide) (by decide)
  · exact (gw_3 (k := 1) (n := 120) s1 gl gL (by decide)).le (by decide) (by decide)
  · exact (gw_3 (k := 1) (n := 120) s1 gl gLr (by decide)).le (by decide) (by decide)
  · exact (gw_3 (k := 1) (n := 120) s1 gl gE (by decide)).le (by decide) (by decide)
  · exact (gw_3 (k := 1) (n := 120) s1 gp (gw0.le (Nat.le_refl _) (by decide)) (by decide)).le (by decide) (by decide)
  · exact (gw_1 (k := 0) (n := 40) s2 (by decide)).le (by decide) (by decide)
  · exact (gw_2 (k := 2) (n := 300) (s3.le (Nat.le_refl _) (by decide)) gI (by decide)).le (by decide) (by decide)
  · exact (gw_3 (k := 1) (n := 120) s1 gp (gw_2 (k := 0) (c := 8) (n := 36) gw0 gw0 (by decide)) (by decide)).le (by decide) (by decide)
  · refine ((gw_few (k := 2) (c := 120) (m := 4) (n := 600) (xs := [.str (Str.ofString "either"), wIs pn [.str w], wIs pn [.str w], wIs pn [.str w]]) (fun x hx => ?_) (Nat.le_refl 4) (by decide)).1).le (by decide) (by decide)
    simp only [List.mem_cons, List.not_mem_nil, or_false] at hx
    rcases hx with rfl | rfl | rfl | rfl
    · exact s4.le (Nat.le_refl _) (by decide)
    all_goals exact gI
  · exact (gE (k := 0)).le (by decide) (by decide)
  · rw [tup_cut]
    exact (gw_2 (k := 1) (n := 120) gp g1 (by decide)).le (by decide) (by decide)
  · exact ⟨fun x hx => by rw [List.mem_singleton.mp hx]; exact (s5 (k := 9)).1, by decide +kernel⟩
end Lw
end

-- QD_k04
section
namespace Lw
open PySem Zl Zr
def iwB (fs : List (Str × List Str)) (x : D) : Bool := decide (1 ≤ (pw fs 4 x : Int)) && decide ((pw fs 4 x : Int) ≤ 8)
/-- facets fit to be asked of -/
def Fk (fs : List (Str × List Str)) : Prop := fs.length ≤ 4 ∧ (∀ p ∈ fs, Fg p) ∧ (fs.map (·.1)).Nodup
theorem piw_ok {fs : List (Str × List Str)} (h : Fk fs) {K : Nat} {x : D} (hx : Gw K 1000000 x) : Ok (d_P_is_when [.val (fsD fs), .val x]) fun q => q = (.val (.bool (iwB fs x)), [.val (fsD fs), .val x]) := by
  unfold d_P_is_when b_P_is_when
  dsimp?
  refine (pparts_ok h.2.2 (fun p hp => (h.2.1 p hp).2.1.1) 4 39 K x (by decide) hx).mono fun q hq => ?_
  subst hq
  dsimp?
  unfold iwB
  by_cases h1 : 1 ≤ (pw fs 4 x : Int)
  · dsimp? [h1]
  · dsimp? [h1]
    rfl
theorem liw_ok {fs : List (Str × List Str)} (h : Fk fs) {K : Nat} {x : D} (hK : K ≤ 60) (hx : Gw K 1000000 x) : Ok (d_L_is_when [.val (fsD fs), .val x]) fun q => q = (.val (.bool (iwB fs x)), [.val (fsD fs), .val x]) := by
  unfold d_L_is_when b_L_is_when
  dsimp?
  refine (lsize_ok h.2.2 (fun p hp => (h.2.1 p hp).2.1.1) (by have := h.1; omega) (fun p hp w hw => nm_sm ((h.2.1 p hp).2.1.2 w hw)) 4 39 K x (by decide) hK hx).mono fun q hq => ?_
  subst hq
  dsimp?
  unfold iwB
  by_cases h1 : 1 ≤ (pw fs 4 x : Int)
  · dsimp? [h1]
  · dsimp? [h1]
    rfl
theorem tol_is {fs : List (Str × List Str)} {p : Str × List Str} {w : Str} {r : List Str} (hh : fs.head? = some p) (hw : p.2 = w :: r) : tolB fs (.str p.1) (.tuple [.str w]) = true := by
  cases fs with
  | nil => cases hh
  | cons q fs =>
    cases hh
    have e : wof (p :: fs) p.1 = some p.2 := by simp [wof]
    simp only [tolB, e, arW, hw]
    simp [isWd, hasW, rsB]
    omega
theorem pw_is {fs : List (Str × List Str)} {k : Nat} {f w : Str} (h : tolB fs (.str f) (.tuple [.str w]) = true) : pw fs (k + 1) (wIs f [.str w]) = 1 := by
  have e : wl (Str.ofString "is") = 3 := by decide +kernel
  simp [wIs, pw, e, h]
theorem pw_not {fs : List (Str × List Str)} {k n : Nat} {d : D} (h : pw fs k d = n + 1) : pw fs (k + 1) (wNot d) = n + 2 := by
  have e : wl (Str.ofString "not") = 2 := by decide +kernel
  have e2 : ¬ (Str.ofString "not" = Str.ofString "is") := by decide +kernel
  simp [wNot, pw, e, e2, h]
  omega
theorem pw_two {fs : List (Str × List Str)} {k n m : Nat} {d e : D} {z : Str} (hz : z = Str.ofString "both" ∨ z = Str.ofString "either") (h : pw fs k d = n + 1) (h2 : pw fs k e = m + 1) : pw fs (k + 1) (.tuple [.str z, d, e]) = n + m + 3 := by
  have e1 : wl z = 3 := by rcases hz with rfl | rfl <;> decide +kernel
  have e2 : ¬ (z = Str.ofString "is") := by rcases hz with rfl | rfl <;> decide +kernel
  simp [pw, e1, e2, h, h2]
  omega
theorem iw_T {fs : List (Str × List Str)} {p : Str × List Str} {w : Str} {r : List Str} (hh : fs.head? = some p) (hw : p.2 = w :: r) : iwB fs (wT0 p.1 w) = true ∧ iwB fs (wT1 p.1 w) = false := by
  have t := tol_is hh hw
  have i1 : pw fs 1 (wIs p.1 [.str w]) = 0 + 1 := pw_is t
  have i2 : pw fs 2 (wIs p.1 [.str w]) = 0 + 1 := pw_is t
  have n2 : pw fs 2 (wNot (wIs p.1 [.str w])) = 1 + 1 := pw_not i1
  have a3 : pw fs 3 (wE (wIs p.1 [.str w]) (wIs p.1 [.str w])) = 2 + 1 := pw_two (.inr rfl) i2 i2
  have b3 : pw fs 3 (wE (wNot (wIs p.1 [.str w])) (wIs p.1 [.str w])) = 3 + 1 := pw_two (.inr rfl) n2 i2
  have t0 : pw fs 4 (wT0 p.1 w) = 8 := pw_two (.inl rfl) a3 b3
  have t1 : pw fs 4 (wT1 p.1 w) = 9 := pw_two (.inl rfl) b3 b3
  unfold iwB
  rw [t0, t1]
  exact ⟨rfl, rfl⟩
end Lw
end

-- QE_k04
section
namespace Lw
open PySem Zl Zr
theorem nd_fl {fs : List (Str × List Str)} (h : Fl fs) : Fk fs := ⟨h.1, h.2.1, rsB_nodup h.2.2⟩
theorem right_ok {n : Nat} {o : O} {b : Bool} (h : Tp (n + 200000) o) : Ok (d_L_right [.own b o]) fun q => ∃ o', q = (.val (.bool true), [.own b o']) := by
  unfold d_L_right b_L_right
  dsimp?
  refine (draw_ok (n := n + 199999) h (by decide) (by decide)).mono fun q hq => ?_
  obtain ⟨r1, o1, rfl, h10, h11, T1⟩ := hq
  dsimp?
  refine (draw_ok (n := n + 199998) T1 (by decide) (by decide)).mono fun q hq => ?_
  obtain ⟨r2, o2, rfl, h20, h21, T2⟩ := hq
  dsimp?
  refine (facets_ok (n := n + 199000) (T2.le (by omega)) (by omega) (by omega) (by omega) (by omega)).mono fun q hq => ?_
  obtain ⟨fs, o3, rfl, hfl, hfs, T3⟩ := hq
  dsimp?
  refine (facets_ok (n := n + 198000) (T3.le (by omega)) (by omega) (by omega) (by omega) (by omega)).mono fun q hq => ?_
  obtain ⟨gs, o4, rfl, hgl, hgs, T4⟩ := hq
  dsimp?
  refine (bounds_ok (by omega) ⟨hfs.1, hfs.2.1⟩).mono fun q hq => ?_
  obtain ⟨p, w, r, ts, rfl, hh, hw, htl, ht⟩ := hq
  dsimp?
  refine (bounds_ok (by omega) ⟨hgs.1, hgs.2.1⟩).mono fun q hq => ?_
  obtain ⟨p2, w2, r2, ts2, rfl, hh2, hw2, htl2, ht2⟩ := hq
  dsimp?
  have hcut : (cutL (wT0 p2.1 w2 :: wT1 p2.1 w2 :: ts2) none (some 3)) = (wT0 p2.1 w2 :: wT1 p2.1 w2 :: ts2).take 3 := cut_to' (k := 3)
  rw [hcut]
  have htk : ((wT0 p2.1 w2 :: wT1 p2.1 w2 :: ts2).take 3).length ≤ 3 := List.length_take_le _ _
  have htm : ∀ t ∈ (wT0 p2.1 w2 :: wT1 p2.1 w2 :: ts2).take 3, Gw 10 10000 t := fun t h => ht2 t (List.mem_of_mem_take h)
  generalize (wT0 p2.1 w2 :: wT1 p2.1 w2 :: ts2).take 3 = us at htk htm ⊢
  refine ⟨by omega, ⟨by decide, by decide⟩, ?_⟩
  obtain ⟨iT0, iT1⟩ := iw_T hh hw
  generalize wT0 p.1 w = X0 at iT0 ht ⊢
  generalize wT1 p.1 w = X1 at iT1 ht ⊢
  have hF := nd_fl hfs
  have hts : ∀ t ∈ X0 :: X1 :: (ts ++ us), Gw 10 100000 t := fun t h => by
    have h' : t ∈ (X0 :: X1 :: ts) ++ us := h
    rcases List.mem_append.mp h' with h | h
    · exact (ht t h).le (Nat.le_refl _) (by decide)
    · exact (htm t h).le (Nat.le_refl _) (by decide)
  refine ok_forL (fun r ρ => ∃ (o' : O) (ts' : List D) (a4 a5 a6 : Sl), ρ = [Sl.own true o', Sl.val (fsD fs), Sl.val (fsD gs), Sl.own false (.lst (X0 :: X1 :: ts')), a4, a5, a6, Sl.no, Sl.no, Sl.no, Sl.no] ∧ pS (some a4) = false ∧ pS (some a5) = false ∧ pS (some a6) = false ∧ (∀ t ∈ X0 :: X1 :: ts', Gw 10 100000 t) ∧ ts'.length + 6 * r.length ≤ 100 ∧ Tp (n + 6000 * r.length) o')
    ⟨o4, ts ++ us, _, _, _, rfl, rfl, rfl, rfl, hts, by rw [List.length_append, rng_len]; simp; omega, T4.le (by rw [rng_len]; omega)⟩ (fun d r ρ h => ?_) fun ρ h => ?_
  · obtain ⟨o', ts', a4, a5, a6, rfl, e4, e5, e6, hts', hlen, T⟩ := h
    rw [List.length_cons] at hlen T
    dsimp? [e4, e5, e6]
    refine (draw_ok (n := n + 6000 * r.length + 5999) (T.le (by omega)) (by decide) (by decide)).mono fun q hq => ?_
    obtain ⟨r3, o3, rfl, h30, h31, T3⟩ := hq
    dsimp? [e4, e5, e6]
    obtain ⟨j, ej, j1, j4⟩ : ∃ j : Nat, 1 + r3 = (j : Int) ∧ 1 ≤ j ∧ j ≤ 4 := ⟨(1 + r3).toNat, by omega, by omega, by omega⟩
    rw [ej]
    have mD : Dw j ≤ Dw 4 := Dw_mono j4
    have mW : Ww j ≤ Ww 4 := Ww_mono j4
    have eD : Dw 4 = 5670 := rfl
    have eW : Ww 4 = 9840 := rfl
    refine (when_ok (by omega) ⟨hfs.1, hfs.2.1⟩ 4 j 39 (n + 6000 * r.length + 300) true o3 j4 j1 (by decide) (T3.le (by omega))).mono fun q hq => ?_
    obtain ⟨x, o5, rfl, ⟨hx, cx⟩, T5⟩ := hq
    have hx : Gw 5 9840 x := hx.le (by omega) (by omega)
    dsimp? [e4, e5, e6]
    have fin : ∀ (y z u : D), Gw 6 19720 y → Gw 7 39480 z → Gw 6 19720 u → ∀ o8 : O, Tp (n + 6000 * r.length) o8 → ts'.length ≤ 16777208 ∧ ∃ (o' : O) (ts'' : List D) (a4 a5 a6 : Sl), [Sl.own true o8, Sl.val (fsD fs), Sl.val (fsD gs), Sl.own false (O.lst (X0 :: X1 :: (ts' ++ [x, y, z, u, .tuple [.str (Str.ofString "not"), y], .tuple [.str (Str.ofString "both"), y, x]]))), Sl.val d, Sl.val x, Sl.val y, Sl.no, Sl.no, Sl.no, Sl.no] = [Sl.own true o', Sl.val (fsD fs), Sl.val (fsD gs), Sl.own false (.lst (X0 :: X1 :: ts'')), a4, a5, a6, Sl.no, Sl.no, Sl.no, Sl.no] ∧ pS (some a4) = false ∧ pS (some a5) = false ∧ pS (some a6) = false ∧ (∀ t ∈ X0 :: X1 :: ts'', Gw 10 100000 t) ∧ ts''.length + 6 * r.length ≤ 100 ∧ Tp (n + 6000 * r.length) o' := fun y z u hy hz hu o8 T8 => by
      refine ⟨by omega, o8, _, _, _, _, rfl, rfl, rfl, rfl, fun t h => ?_, by simp; omega, T8⟩
      have h' : t ∈ (X0 :: X1 :: ts') ++ [x, y, z, u, .tuple [.str (Str.ofString "not"), y], .tuple [.str (Str.ofString "both"), y, x]] := h
      rcases List.mem_append.mp h' with h | h
      · exact hts' t h
      · simp only [List.mem_cons, List.not_mem_nil, or_false] at h
        rcases h with rfl | rfl | rfl | rfl | rfl | rfl
        · exact hx.le (by decide) (by decide)
        · exact hy.le (by decide) (by decide)
        · exact hz.le (by decide) (by decide)
        · exact hu.le (by decide) (by decide)
        · exact (gw_2 (k := 6) (c := 19720) (n := 100000) ((gw_b (k := 0) (n := 8) (by decide +kernel)).le (by decide) (by decide)) hy (by decide)).le (by decide) (by decide)
        · exact (gw_3 (k := 6) (c := 19720) (n := 100000) ((gw_b (k := 0) (n := 8) (by decide +kernel)).le (by decide) (by decide)) hy (hx.le (by decide) (by decide)) (by decide)).le (by decide) (by decide)
    refine (bent_ok 5 39 (n + 6000 * r.length + 200) 9840 true o5 x (by decide) (T5.le (by omega)) (by decide) hx).mono fun q hq => ?_
    obtain ⟨y', y, o6, rfl, hr, hy, T6⟩ := hq
    rcases hr with rfl | ⟨ys, rfl, rfl⟩
    all_goals
      dsimp? [e4, e5, e6]
      refine (bent_ok 6 39 (n + 6000 * r.length + 100) 19720 true o6 _ (by decide) (T6.le (by omega)) (by decide) hy).mono fun q hq => ?_
      obtain ⟨z', z, o7, rfl, hr, hz, T7⟩ := hq
      rcases hr with rfl | ⟨zs, rfl, rfl⟩
      all_goals
        dsimp? [e4, e5, e6]
        refine (bent_ok 5 39 (n + 6000 * r.length) 9840 true o7 x (by decide) (T7.le (by omega)) (by decide) hx).mono fun q hq => ?_
        obtain ⟨u', u, o8, rfl, hr, hu, T8⟩ := hq
        rcases hr with rfl | ⟨vs, rfl, rfl⟩
        all_goals
          dsimp? [e4, e5, e6]
          exact fin _ _ _ hy hz hu _ T8
  · obtain ⟨o', ts', a4, a5, a6, rfl, e4, e5, e6, hts', hlen, T⟩ := h
    rw [List.length_nil] at hlen T
    dsimp?
    refine ok_forL (fun r ρ => ∃ (a7 a8 a9 a10 : Sl), ρ = [Sl.own true o', Sl.val (fsD fs), Sl.val (fsD gs), Sl.val (PyData.list (X0 :: X1 :: ts')), a4, a5, a6, a7, a8, a9, a10] ∧ pS (some a7) = false ∧ pS (some a8) = false ∧ pS (some a9) = false ∧ pS (some a10) = false ∧ ∀ t ∈ r, t ∈ X0 :: X1 :: ts')
      ⟨_, _, _, _, rfl, rfl, rfl, rfl, rfl, fun _ h => h⟩ (fun d r ρ h => ?_) fun ρ h => ?_
    · obtain ⟨a7, a8, a9, a10, rfl, e7, e8, e9, e10, hm⟩ := h
      have hd : Gw 10 1000000 d := (hts' d (hm d List.mem_cons_self)).le (Nat.le_refl _) (by decide)
      have hsh := gq_shown (by decide) hd
      dsimp? [e7, e8, e9, e10]
      refine ⟨hsh, ?_⟩
      refine (liw_ok hF (by decide) hd).mono fun q hq => ?_
      subst hq
      dsimp? [e7, e8, e9, e10]
      refine (piw_ok hF hd).mono fun q hq => ?_
      subst hq
      dsimp? [e7, e8, e9, e10]
      refine (piw_ok hF hd).mono fun q hq => ?_
      subst hq
      dsimp? [e7, e8, e9, e10]
      refine (same_ok 39 (.list [.bool (iwB fs d), .bool (iwB fs d)]) ⟨by simp, fun z hz => by
        simp only [List.mem_cons, List.not_mem_nil, or_false] at hz
        rcases hz with rfl | rfl <;> trivial⟩).mono fun q hq => ?_
      subst hq
      dsimp? [e7, e8, e9, e10]
      exact ⟨hsh, _, _, _, _, rfl, rfl, rfl, rfl, rfl, fun t h => hm t (List.mem_cons_of_mem _ h)⟩
    · obtain ⟨a7, a8, a9, a10, rfl, e7, e8, e9, e10, hm⟩ := h
      dsimp? [at0]
      refine (piw_ok hF ((hts' X0 List.mem_cons_self).le (Nat.le_refl _) (by decide))).mono fun q hq => ?_
      subst hq
      have a1 : L2.atI (X0 :: X1 :: ts') (1 : Int) = some X1 := at_nat (k := 1) (by simp)
      dsimp? [at0, iT0, a1]
      refine (piw_ok hF ((hts' X1 (by simp)).le (Nat.le_refl _) (by decide))).mono fun q hq => ?_
      subst hq
      dsimp? [iT1]
      exact ⟨_, rfl⟩
end Lw
end

-- QF_k04
section
namespace Lw
open PySem Zl Zr
theorem tape_in {c : Int} {k n : Nat} (hk : k ≤ 100) (hn : n ≤ 90000000000) : mulOk (if c < 0 then -c else c) (if (if c < 0 then -c else c) ≥ 10 ^ Int.toNat 18 then 1 else 0) = true ∧
    Tp n (.lst [.int ((if c < 0 then -c else c) * (if (if c < 0 then -c else c) ≥ 10 ^ Int.toNat 18 then 1 else 0)), .int (c % 2305843009213693951 + 39373 * k + 17), .int 0]) := by
  generalize hx : (if c < 0 then -c else c) = x
  have x0 : 0 ≤ x := by rw [← hx]; split <;> omega
  have m0 : 0 ≤ c % 2305843009213693951 := Int.emod_nonneg _ (by decide)
  have m1 : c % 2305843009213693951 < 2305843009213693951 := Int.emod_lt_of_pos _ (by decide)
  refine ⟨mulOk_r (by split <;> decide), _, _, _, rfl, ?_, by omega, by omega, by omega, by omega⟩
  split
  · omega
  · omega
theorem tape_ok {cs : List Int} {k n : Nat} (hk : k ≤ 100) (hn : n ≤ 90000000000) : Ok (d_L_tape [.val (.list (cs.map PyData.int)), .val (.int k)]) fun q => ∃ o, q = (.own o, [.val (.list (cs.map PyData.int)), .val (.int k)]) ∧ Tp n o := by
  unfold d_L_tape b_L_tape
  dsimp?
  split
  · rename_i h
    have h' : k < (cs.map PyData.int).length := by omega
    refine ok_eq (at_nat h') ?_
    rw [List.getElem_map]
    generalize cs[k]'_ = c
    obtain ⟨t1, t2⟩ := tape_in (c := c) (k := k) (n := n) hk hn
    dsimp?
    exact ⟨⟨by decide, by decide, by decide⟩, t1, by decide, mulOk_l (by decide), _, rfl, t2⟩
  · obtain ⟨t1, t2⟩ := tape_in (c := 0) (k := k) (n := n) hk hn
    exact ⟨⟨by decide, by decide, by decide⟩, t1, by decide, mulOk_l (by decide), _, rfl, t2⟩
theorem folded_ok {ns : List Int} {m : Int} (hm : 1 ≤ m) (hm8 : m ≤ 8) (hn : ns.length ≤ 63) : Ok (d_L_folded [.scr ns, .val (.int m)]) fun q => ∃ cs : List Int, q = (.own (.lst (cs.map PyData.int)), [.scr ns, .val (.int m)]) ∧ (cs.length : Int) ≤ m := by
  unfold d_L_folded b_L_folded
  dsimp?
  obtain ⟨k, rfl⟩ : ∃ k : Nat, m = k := ⟨m.toNat, by omega⟩
  rw [cut_to']
  refine ok_forI (fun i ρ => ∃ (xs : List Int) (a3 a4 : Sl), ρ = [Sl.scr ns, Sl.val (.int k), Sl.own false (.lst (xs.map PyData.int)), a3, a4] ∧ pS (some a3) = false ∧ pS (some a4) = false ∧ xs.length = min k ns.length)
    ⟨ns.take k, _, _, by rw [List.map_take], rfl, rfl, by simp⟩ (fun i hi ρ h => ?_) fun ρ h => ?_
  · obtain ⟨xs, a3, a4, rfl, e3, e4, hl⟩ := h
    obtain ⟨h1, h2⟩ := enumL_get hi
    rw [h2]
    have hm : (cutL (ns.map PyData.int) (some (k : Int)) (some 63))[i] ∈ ns.map PyData.int := cut_mem (List.getElem_mem h1)
    obtain ⟨z, hz, ez⟩ := List.mem_map.mp hm
    rw [← ez]
    have hk : k < ns.length := by
      have := cut_len (xs := ns.map PyData.int) (a := k) (b := 63)
      have h1' : i < min 63 (ns.map PyData.int).length - min k (ns.map PyData.int).length := by rw [← this]; exact h1
      rw [List.length_map] at h1'
      omega
    have hil : i < 63 := by
      have := cut_len (xs := ns.map PyData.int) (a := k) (b := 63)
      have h1' : i < min 63 (ns.map PyData.int).length - min k (ns.map PyData.int).length := by rw [← this]; exact h1
      omega
    have hxl : xs.length = k := by omega
    have i0 : 0 ≤ (i : Int) % k := Int.emod_nonneg _ (by omega)
    have i1 : (i : Int) % k < (xs.map PyData.int).length := by rw [List.length_map, hxl]; exact Int.emod_lt_of_pos _ (by omega)
    obtain ⟨d, ed, hd⟩ := at_mem i0 i1
    obtain ⟨v, hv, rfl⟩ := List.mem_map.mp hd
    dsimp? [e3, e4]
    refine ⟨by omega, ok_eq ed ?_⟩
    dsimp?
    refine ⟨mulOk_r (by omega), ?_⟩
    try refine ⟨by omega, ?_⟩
    refine ok_eq (ixN_int i0 i1) ?_
    exact ⟨_, _, _, by rw [← List.map_set], rfl, rfl, by rw [List.length_set]; exact hl⟩
  · obtain ⟨xs, a3, a4, rfl, e3, e4, hl⟩ := h
    dsimp?
    exact ⟨xs, rfl, by omega⟩
theorem law_true (ns : List Int) (hl : ns.length ≤ 63) : ∃ ρ', d_L_law [.scr ns] = some (.val (.bool true), ρ') := by
  have : Ok (d_L_law [.scr ns]) fun q => q.1 = .val (.bool true) := by
    unfold d_L_law b_L_law
    dsimp?
    refine (folded_ok (by decide) (by decide) hl).mono fun q hq => ?_
    obtain ⟨cs, rfl, hcs⟩ := hq
    dsimp?
    generalize hK : (if ((cs.map PyData.int).length : Int) > 1 then ((cs.map PyData.int).length : Int) else 1) = K
    have K0 : 0 ≤ K := by rw [← hK]; split <;> omega
    have K1 : K ≤ 4 := by rw [← hK, List.length_map]; split <;> omega
    refine ⟨⟨by omega, by omega⟩, ?_⟩
    refine ok_lcP (fun _ => some (.bool true)) (fun d hd => ?_) (by rw [rng_len, q_sz]; simp; omega) ?_
    · obtain ⟨k, hk, rfl⟩ := rng_mem hd
      rw [Int.zero_add]
      dsimp?
      refine (tape_ok (n := 300000) (by omega) (by omega)).mono fun q hq => ?_
      obtain ⟨o, rfl, T⟩ := hq
      have hc := T.clean
      dsimp? [hc]
      refine (right_ok (n := 5000) (T.le (by omega))).mono fun q hq => ?_
      obtain ⟨o', rfl⟩ := hq
      dsimp?
    · rw [List.nil_append, bools_const, ok_some]
      dsimp?
      simp
  obtain ⟨⟨r, ρ'⟩, e, h⟩ := this
  exact ⟨ρ', by rw [e]; simp only at h; rw [h]⟩
end Lw
end

end

open PySem PySem.W PyProof.Rows
set_option maxRecDepth 100000 in
set_option maxHeartbeats 0 in
theorem PySem.Challenge.cw_sheafbooks_k04_whens_or_not_holds : PySem.Challenge.rw_sheafbooks_k04_whens_or_not.Holds := by
  w_on; o_law; k_head; (case hw => w_witness2)
  k_fill
  refine Zl.walk_G (l := PySem.Challenge.rw_sheafbooks_k04_whens_or_not) (n := 63) (k := 47) (x := "_law_script") (sp := fun w => Zl.spD ⟨_, PySem.Challenge.rw_sheafbooks_k04_whens_or_not.prog, w⟩ Lw.d_L_law 1) rfl (by decide) rfl ⟨⟨rfl, by decide, by decide⟩, rfl⟩ (fun w h Y => PySem.W.kIn_of Y) ?F (fun _ H a ns hl hO hS => Zl.law_start hO hS (Lw.law_true ns hl))
  case F =>
    intro w mg fa h KX G hmg
    refine' Lw.all_mk KX G hmg ?a_P_is_tuple ?l_P_is_tuple ?q_P_is_tuple ?k_P_is_tuple ?a_P_rises ?l_P_rises ?q_P_rises ?k_P_rises ?a_P_is_word_of ?l_P_is_word_of ?q_P_is_word_of ?k_P_is_word_of ?a_P_are_words_of ?l_P_are_words_of ?q_P_are_words_of ?k_P_are_words_of ?a_P_is_told ?l_P_is_told ?q_P_is_told ?k_P_is_told ?a_P_parts_of_when ?l_P_parts_of_when ?q_P_parts_of_when ?k_P_parts_of_when ?a_P_is_when ?l_P_is_when ?q_P_is_when ?k_P_is_when ?a_L_tape ?l_L_tape ?q_L_tape ?k_L_tape ?a_L_draw ?l_L_draw ?q_L_draw ?k_L_draw ?a_L_folded ?l_L_folded ?q_L_folded ?k_L_folded ?a_L_names ?l_L_names ?q_L_names ?k_L_names ?a_L_part ?l_L_part ?q_L_part ?k_L_part ?a_L_same ?l_L_same ?q_L_same ?k_L_same ?a_L_facets ?l_L_facets ?q_L_facets ?k_L_facets ?a_L_when ?l_L_when ?q_L_when ?k_L_when ?a_L_rises ?l_L_rises ?q_L_rises ?k_L_rises ?a_L_when_size ?l_L_when_size ?q_L_when_size ?k_L_when_size ?a_L_is_when ?l_L_is_when ?q_L_is_when ?k_L_is_when ?a_L_odd ?l_L_odd ?q_L_odd ?k_L_odd ?a_L_bent ?l_L_bent ?q_L_bent ?k_L_bent ?a_L_at_bounds ?l_L_at_bounds ?q_L_at_bounds ?k_L_at_bounds ?a_L_right ?l_L_right ?q_L_right ?k_L_right ?a_L_law ?l_L_law ?q_L_law ?k_L_law ?z_abs ?z_all ?z_bool ?z_dict ?z_enumerate ?z_int ?z_isinstance ?z_len ?z_list ?z_max ?z_min ?z_range ?z_repr ?z_sorted ?z_str ?z_sum ?z_tuple ?z_zip ?y_LONG_BY ?yl_LONG_BY ?yk_LONG_BY ?ys_LONG_BY ?yt_LONG_BY ?y_IS ?y_MOST_DEEP ?y_MOST_PARTS
    (case a_P_is_tuple => k_is); (case l_P_is_tuple => k_is); (case q_P_is_tuple => k_is); (case k_P_is_tuple => k_is); (case a_P_rises => k_is); (case l_P_rises => k_is); (case q_P_rises => k_is); (case k_P_rises => k_is); (case a_P_is_word_of => k_is); (case l_P_is_word_of => k_is); (case q_P_is_word_of => k_is); (case k_P_is_word_of => k_is); (case a_P_are_words_of => k_is); (case l_P_are_words_of => k_is); (case q_P_are_words_of => k_is); (case k_P_are_words_of => k_is); (case a_P_is_told => k_is); (case l_P_is_told => k_is); (case q_P_is_told => k_is); (case k_P_is_told => k_is); (case a_P_parts_of_when => k_is); (case l_P_parts_of_when => k_is); (case q_P_parts_of_when => k_is); (case k_P_parts_of_when => k_is); (case a_P_is_when => k_is); (case l_P_is_when => k_is); (case q_P_is_when => k_is); (case k_P_is_when => k_is); (case a_L_tape => k_is); (case l_L_tape => k_is); (case q_L_tape => k_is); (case k_L_tape => k_is); (case a_L_draw => k_is); (case l_L_draw => k_is); (case q_L_draw => k_is); (case k_L_draw => k_is); (case a_L_folded => k_is); (case l_L_folded => k_is); (case q_L_folded => k_is); (case k_L_folded => k_is); (case a_L_names => k_is); (case l_L_names => k_is); (case q_L_names => k_is); (case k_L_names => k_is); (case a_L_part => k_is); (case l_L_part => k_is); (case q_L_part => k_is); (case k_L_part => k_is); (case a_L_same => k_is); (case l_L_same => k_is); (case q_L_same => k_is); (case k_L_same => k_is); (case a_L_facets => k_is); (case l_L_facets => k_is); (case q_L_facets => k_is); (case k_L_facets => k_is); (case a_L_when => k_is); (case l_L_when => k_is); (case q_L_when => k_is); (case k_L_when => k_is); (case a_L_rises => k_is); (case l_L_rises => k_is); (case q_L_rises => k_is); (case k_L_rises => k_is); (case a_L_when_size => k_is); (case l_L_when_size => k_is); (case q_L_when_size => k_is); (case k_L_when_size => k_is); (case a_L_is_when => k_is); (case l_L_is_when => k_is); (case q_L_is_when => k_is); (case k_L_is_when => k_is); (case a_L_odd => k_is); (case l_L_odd => k_is); (case q_L_odd => k_is); (case k_L_odd => k_is); (case a_L_bent => k_is); (case l_L_bent => k_is); (case q_L_bent => k_is); (case k_L_bent => k_is); (case a_L_at_bounds => k_is); (case l_L_at_bounds => k_is); (case q_L_at_bounds => k_is); (case k_L_at_bounds => k_is); (case a_L_right => k_is); (case l_L_right => k_is); (case q_L_right => k_is); (case k_L_right => k_is); (case a_L_law => k_is); (case l_L_law => k_is); (case q_L_law => k_is); (case k_L_law => k_is); (case z_abs => k_is); (case z_all => k_is); (case z_bool => k_is); (case z_dict => k_is); (case z_enumerate => k_is); (case z_int => k_is); (case z_isinstance => k_is); (case z_len => k_is); (case z_list => k_is); (case z_max => k_is); (case z_min => k_is); (case z_range => k_is); (case z_repr => k_is); (case z_sorted => k_is); (case z_str => k_is); (case z_sum => k_is); (case z_tuple => k_is); (case z_zip => k_is); (case y_LONG_BY => k_is); (case yl_LONG_BY => k_is); (case yk_LONG_BY => exact ⟨⟨_, _, rfl, rfl⟩, ⟨_, _, rfl, rfl⟩, ⟨_, _, rfl, rfl⟩, ⟨_, _, rfl, rfl⟩, ⟨_, _, rfl, rfl⟩, trivial⟩); (case ys_LONG_BY => decide); (case yt_LONG_BY => exact (.cons ⟨⟨_, rfl⟩, rfl⟩ (.cons ⟨⟨_, rfl⟩, rfl⟩ (.cons ⟨⟨_, rfl⟩, rfl⟩ (.cons ⟨⟨_, rfl⟩, rfl⟩ (.cons ⟨⟨_, rfl⟩, rfl⟩ .nil)))))); (case y_IS => k_is); (case y_MOST_DEEP => k_is); (case y_MOST_PARTS => k_is)
