import PyProof.Rows.All
import Wide.All
import OpenK.AllK
import Wide.FinOn
import HandS.Base
import HandS.Call
import HandS.List
import HandS.Comp
import HandS.Words
import HandS.Exc
import HandS.ExcOwn
import HandS.TryOnly
import HandS.WordsExc
import HandS.EndBits
import HandS.NoneIn
import HandS.Iter
import HandS.IsInst
import HandS.SortRule
import HandS.SortInts
import HandS.Wide
import HandS.Text
import HandS.TupAny
import KE.SortData
import HandS.Set
import HandS.SetFor
import HandS.Strs
import HandS.CallLocal
import HandS.TupLe
import PyProof.SliceList
import HandS.Conv
import HandS.Gcd
import KE.KMathGC
import HandS.Codes
import PyProof.ReprRoads
import PyProof.StrLawsRepr
import PyProof.ReprLen
import HandS.ExcIs
import HandS.ExcField
import HandS.StrMore
import HandS.More
import HandS.HeadHook3
import HandS.Dict
import HandS.WordsDict
import HandS.TupSets
import HandS.SetKeys
import PyProof.DictMoreH
import KE.KDictSum
import HandS.Deep
import KE.DataMinMax
import HandS.Defaults
import HandS.DictComp
import HandS.ExcInit
import PySem.Challenge.RW_pastamended_k64_values_and_their_text
set_option Elab.async false
set_option linter.all false
set_option maxRecDepth 100000
namespace Bv
open PySem PySem.Spec PyProof.Rows L2
structure RoomG (k : Nat) (A : Around) : Prop where
  rm : Room k A
  gd : A.guards = some []
section
variable {k : Nat} {A : Around}
theorem RoomG.mono {j : Nat} (r : RoomG k A) (h : j ≤ k) : RoomG j A := ⟨r.rm.mono h, r.gd⟩
theorem RoomG.deeper (r : RoomG (k + 1) A) (e : Env) : RoomG k (A.deeper e) := ⟨r.rm.deeper e, r.gd⟩
theorem RoomG.units (r : RoomG k A) : A.units + 64 < cLine := r.rm.units
theorem RoomG.depth (r : RoomG k A) : A.depth < recursionLimit := r.rm.depth
end
structure FnG (P : Program) (w : World) (K : PySem.W.Frag) (mg : Str → Option Value) (base : Heap) (k : Nat) (f : Addr) (fd : FuncData) (ps : List Str) (sp : Sp) : Prop where
  many : ∀ vs H Q E, sp vs H Q E → vs.length = ps.length
  go : ∀ (A : Around) (fr : List Env) (s : Shared) (H : Hp) (args : Args) (us : List Value) (vs : List V) (Q : VK) (E : XK), RoomG k A → Env0 P w K mg base A fr s H → BindsTo s fd args (ps.zip us) → Vals vs us → sp vs H Q E →
    codeAny (model P w) A (.call (.ref f) args) (CR (L2.CX P w) fr P w H s Q E) s
section
variable {P : Program} {w : World} {K : PySem.W.Frag} {mg : Str → Option Value} {base : Heap} {k : Nat} {f : Addr} {fd : FuncData} {sp : Sp}
theorem fnG_of {x qual : Str} {st : Stmt} {N ps : List Str} (F : Fun K x qual st f fd) (S : FnScope N ps (defScope st)) (len : ∀ vs H Q E, sp vs H Q E → vs.length = ps.length)
    (body : ∀ (cdv : Value) (A : Around) (fr : List Env) (s : Shared) (H : Hp) (vs : List V) (Q : VK) (E : XK), RoomG k (A.deeper (envOfC qual (defScope st) s.heap.objs.size f cdv)) → sp vs H Q E →
      ∃ t, PSs (cxOf (L2.CX P w) P w K mg base N qual (defScope st) f cdv A fr s H E) (defBody st) t ∧ t { nx := fun _ H1 => Q .non H1, rt := Q } (L2.start N vs) H) : FnG P w K mg base (k + 1) f fd ps sp := by
  obtain ⟨oc, od, kV, doc, pm, an, cdv, ct, osl, rfl, look, code⟩ := F.ex
  refine ⟨len, fun A fr s H args us vs Q E room at0 bnd rv hsp => ?_⟩
  have inH : K.In s.heap := at0.mod.kin.keeps fun b o q => (at0.bs b o q).1
  refine codeAny_call_function room.depth (inH _ _ look) rfl S.co S.gen rfl (PySem.W.codeRec_of inH code) (bnd _ _ _ _ ?_)
  refine wpAny_newFunctionEnv_cells S.kind (fun y hy => ?_) fun env he s1 ent => ?_
  · have hm := (List.of_mem_zip (show (y.1, y.2) ∈ ps.zip us from hy)).1
    exact (S.par y.1 hm).imp_right fun q => ⟨q, PySem.W.cellsFrom_some _ _ _ (.inl q)⟩
  subst he
  refine ⟨(at0.mod.nolimit.keeps fun b o q => (at0.bs b o q).1).keeps ent.toInCall.keep, codeAny_func ?_⟩
  obtain ⟨t, run, hq⟩ := body cdv A fr s H vs Q E (room.deeper _) hsp
  have I := inv_start (CX := L2.CX P w) (E := E) S room.rm.hd at0 (len _ _ _ _ hsp) rv ent
  refine wpAny_mono (run.run [] s1 _ H _ I hq) (fun flow s2 z => ?_) fun _ _ z => z
  cases flow with
  | brk => obtain ⟨_, _, _, z⟩ := z; exact z.elim
  | cont => obtain ⟨_, _, _, z⟩ := z; exact z.elim
  | next => obtain ⟨σ2, H2, J, q⟩ := z; exact ⟨V.non, H2, J.os, J.bare, J.base, J.hok, rfl, q⟩
  | ret u => obtain ⟨v, σ2, H2, J, ru, q⟩ := z; exact ⟨v, H2, J.os, J.bare, J.base, J.hok, ru, q⟩
end
section
variable {X : Cx} {k i : Nat} {f : Addr} {fd : FuncData} {ps : List Str} {sp : Sp} {E : L2.St → XK} {x : Str} {p pos : Pos} {e : Expr} {es : List Expr} {t : TA}
theorem runG {pins : List (Addr × Obj)} {σ : L2.St} {H : Hp} {s : Shared} {Q : VK} {us : List Value} {vs : List V} (F : FnG X.prog X.w X.K X.mg X.base k f fd ps sp) (hr : RoomG k X.A) (hb : Binds X.K fd ps [])
    (hx : PassesAt (L2.CX X.prog X.w) X σ (E σ)) (I : Inv X pins σ H s) (rv : Vals vs us) (h : sp vs H Q (E σ)) : wpAny (model X.prog X.w) X.A (call (.ref f) us) (EP X pins σ Q) X.xe s := by
  have n1 : us.length = ps.length := rv.length ▸ F.many _ _ _ _ h
  have bb := hb s us I.kIn (by simpa using n1)
  rw [List.append_nil] at bb
  refine wpAny_call (codeAny_mono (F.go X.A X.stack s H ⟨us, []⟩ us vs Q (E σ) hr I.env0 bb rv h) fun res s2 z => ?_)
  rcases res with ex | (_ | u | _ | _)
  · exact hx pins H s ex s2 I z
  all_goals first | exact I.after z | exact z.elim
theorem pe_callG (F : FnG X.prog X.w X.K X.mg X.base k f fd ps sp) (hr : RoomG k X.A) (hg : Gl X x) (hm : X.mg x = some (.ref f)) (hk : PySem.W.keepIn X.K (.ref f) = true) (hb : Binds X.K fd ps [])
    (hx : ∀ σ, PassesAt (L2.CX X.prog X.w) X σ (E σ)) (ha : PA X (e :: es) t) (hdb : (x == ("__debug__" : Str)) = false := by decide)
    (he : starEach (e :: es) X.env = (false, eval e X.env) :: starEach es X.env := by rfl) (hpl : (backTo pos (starEach es X.env)).any (·.1) = false := by rfl) : PE X (.Call (.Name x p) (e :: es) [] pos) (tCallS sp E t) :=
  ⟨fun pins s σ H Q I h => wpAny_Call_Name_kw (ld_glob I hg hm (PySem.W.callWith_K (h₀ := X.base) I.ok.mod.kin hk
    (thn (ha.run pos pins s σ H _ I h) fun us s1 ⟨vs, H1, I1, rv, q⟩ => ⟨I1.kIn, runG F hr hb (hx σ) I1 rv q⟩) he hpl) hdb)⟩
end
section
variable {P : Program} {w : World} {K : PySem.W.Frag} {mg mb : Str → Option Value} {a : Addr} {s : Shared} {vs : List Value} {ns : List Int}
theorem law_state (kin : K.In s.heap) (nsm : s.heap.Ns mainGlobals mg) (nsb : s.heap.Ns builtinsNs mb) (boot : ∀ x : Str, x ≠ "__name__" → mb x = bootBuiltins x) (nolim : s.heap.NoLimit) (nog : s.gens = #[])
    (hmod : ∃ mm, s.heap.Ns sysModules mm) (hK : K.lookup sysModules = none)
    (ha : s.heap.get? a = some { cls := .type "list", data := .seq vs.toArray }) (hi : IntsAre vs ns) (hl : ns.length ≤ sizeLine) :
    ∃ (H : Hp) (base : Heap), K.In base ∧ base.Ns mainGlobals mg ∧ SqL K H a (ns.map V.int) ∧ Env0 P w K mg base callerA [] s H ∧ (∃ o u, H sysModules = some (.frz o u)) ∧
      ∀ (Q : VK) (u : Value) (s2 : Shared), CE [] P w H s Q u s2 → OldK s.heap s2.heap ∧ s2.os = s.os ∧ AllBare s2.gens ∧ ∃ v H2, RelV v u ∧ Q v H2 := by
  have rv := vals_ints hi
  obtain ⟨mm, om, em, epm, hom, dm, _⟩ := hmod
  have hne : a ≠ sysModules := fun z => by
    subst z
    rw [ha] at hom; cases hom
    exact Data.noConfusion (show Data.seq vs.toArray _ = Data.dict em epm from dm)
  obtain ⟨base_or, hbo⟩ : ∃ c : Bool, c = (K.lookup a).isSome := ⟨_, rfl⟩
  obtain ⟨H, hH⟩ : ∃ H : Hp, H = fun b => if b = sysModules then some (.frz om (.ext fun h => h.get? sysModules = some om)) else if b = a ∧ base_or = false then some (.frz { cls := .type "list", data := .seq vs.toArray } (.lst (ns.map V.int))) else none := ⟨_, rfl⟩
  have at_m : H sysModules = some (.frz om (.ext fun h => h.get? sysModules = some om)) := by rw [hH]; exact if_pos rfl
  have at_a : base_or = false → H a = some (.frz { cls := .type "list", data := .seq vs.toArray } (.lst (ns.map V.int))) := fun z => by rw [hH]; exact (if_neg hne).trans (if_pos ⟨rfl, z⟩)
  have else_a : ∀ b, b ≠ a → b ≠ sysModules → H b = none := fun b z y => by rw [hH]; exact (if_neg y).trans (if_neg fun q => z q.1)
  have kn_a : base_or = true → H a = none := fun z => by rw [hH]; exact (if_neg hne).trans (if_neg fun q => by rw [z] at q; cases q.2)
  have frzOf : ∀ b o, H b = some o → ∃ ob u, o = .frz ob u ∧ s.heap.get? b = some ob := fun b o q => by
    by_cases y : b = sysModules
    · subst y; rw [at_m] at q; cases q; exact ⟨_, _, rfl, hom⟩
    · by_cases z : b = a
      · subst z
        cases hb : base_or with
        | true => rw [kn_a hb] at q; cases q
        | false => rw [at_a hb] at q; cases q; exact ⟨_, _, rfl, ha⟩
      · rw [else_a b z y] at q; cases q
  have ok : HOk P w H s.heap := fun b o q => by
    by_cases y : b = sysModules
    · subst y
      rw [at_m] at q; cases q
      exact ⟨hom, hom, ⟨_, hom⟩, fun h1 h2 q k => k _ q⟩
    · by_cases z : b = a
      · subst z
        cases hb : base_or with
        | true => rw [kn_a hb] at q; cases q
        | false =>
          rw [at_a hb] at q; cases q
          exact ⟨ha, by simpa using hl, vs, _, rv, ha⟩
      · rw [else_a b z y] at q; cases q
  have free : ∀ {b o}, H b = none → s.heap.get? b = some o → (hidT s.heap H).get? b = some o := fun z q => hidT_get q z
  have free2 : ∀ {b : Addr} {o : Obj}, b ≠ sysModules → (base_or = false → b ≠ a) → H b = none := fun {b o} y z => by
    by_cases e : b = a
    · subst e
      cases hb : base_or with
      | true => exact kn_a hb
      | false => exact absurd rfl (z hb)
    · exact else_a b e y
  have up : ∀ {b : Addr} {m : Str → Option Value}, b ≠ sysModules → s.heap.Ns b m → (hidT s.heap H).Ns b m := fun {b m} y ⟨o, es, ep, q, d, r⟩ => ⟨o, es, ep, free (free2 (o := o) y fun _ z => by
    subst z
    rw [ha] at q; cases q
    exact Data.noConfusion (show Data.seq vs.toArray _ = Data.dict es ep from d)) q, d, r⟩
  have kin2 : K.In (hidT s.heap H) := fun b o q => free (free2 (o := o) (fun z => by subst z; rw [hK] at q; cases q) (fun hb z => by
    subst z
    rw [q] at hbo
    rw [hb] at hbo; cases hbo)) (kin b o q)
  have sq : SqL K H a (ns.map V.int) := by
    cases hb : base_or with
    | false => exact .inl (.inr ⟨_, at_a hb⟩)
    | true =>
      rw [hb] at hbo
      cases known : K.lookup a with
      | none => rw [known] at hbo; cases hbo
      | some o =>
        have e := ha.symm.trans (kin a o known)
        cases e
        exact .inr ⟨_, vs.toArray, _, known, rfl, rfl, rfl, by rw [List.size_toArray, hi.length]; exact hl, by simpa using rv⟩
  refine ⟨H, hidT s.heap H, kin2, up (by decide) nsm, sq, ⟨rfl, ⟨kin2, up (by decide) nsm, ⟨mb, up (by decide) nsb, boot⟩, nolim.imp fun _ z => ⟨up (by decide) z.1, z.2⟩⟩, fun b o q => of_hidT q, Nat.le_of_eq (hidT_size _ _), trivial, (fun _ q => by cases q), ok, .of_eq nog⟩, ⟨_, _, at_m⟩, ?_⟩
  rintro Q u s2 ⟨v, H2, os, bare, un, ok2, r, q⟩
  refine ⟨OldK.of_keep fun b o z => ?_, os, bare, v, H2, r, q⟩
  cases hb : H b with
  | none => exact un.keep b o z hb (by intro m; cases m) (by simp)
  | some ho =>
    obtain ⟨ob, uu, rfl, hg⟩ := frzOf b ho hb
    have z2 := (ok2 _ _ (un.frzs _ _ _ hb)).1
    rw [hg] at z; cases z
    exact z2
end
theorem walk_ofG {l : PySem.W.OpenLaw} {n k : Nat} {q : Program} {loose : List Str} {XP : (Str → Option Value) → Heap → Prop} {YP : World → Heap → Prop} {d : DefRec} {K : Params → PySem.W.Frag} {sp : World → Sp} {x : Str}
    (hn : l.most = some n) (small : n ≤ sizeLine) (nodf : d.params.defaults = []) (room : Room k callerA) (hY : ∀ (w : World) (h : Heap), YP w h → (K w.params).In h)
    (F : ∀ (w : World) (mg : Str → Option Value) (fa : Addr) (h : Heap), (K w.params).In h → h.Ns mainGlobals mg → mg d.name = some (.ref fa) →
      ∃ fd : FuncData, (∀ (s : Shared) (v : Value), BindsTo s fd ⟨[v], []⟩ [(x, v)]) ∧ ∀ base : Heap, (K w.params).In base → base.Ns mainGlobals mg → FnG l.prog w (K w.params) mg base k fa fd [x] (sp w))
    (himp : importsNone q = true) (hK : ∀ w : World, (K w.params).lookup sysModules = none)
    (end_ : ∀ (w : World) (H : Hp) (a : Addr) (ns : List Int), ns.length ≤ n → (∀ z ∈ ns, Builtin.Int.intBits z ≤ 1048576) → SqL (K w.params) H a (ns.map V.int) → (∃ o u, H sysModules = some (.frz o u)) → sp w [.ref a] H (fun v _ => v = .bl true) fun _ _ _ => False) :
    PySem.W.WalkO q loose XP YP l.row.toRowW d [] (fun f vs => PySem.call f vs) := by
  refine Att.attach_callB hn nodf fun w s₀ s mg mb fa o pm cd doc a vs ns G Y ho hd hcd hmg hobj hints hlen hbits hg => ?_
  have kin := hY w _ Y
  obtain ⟨fd, bind, hF⟩ := F w mg fa _ kin G.T.g hmg
  obtain ⟨mm, hmm, _⟩ := (G.T.seer himp).mods
  obtain ⟨H, base, kin2, ns2, sq, e0, hsm, fin⟩ := law_state (P := l.prog) (w := w) kin G.T.g G.T.b G.T.builtins G.T.nolimit hg ⟨mm, hmm⟩ (hK w) hobj hints (Nat.le_trans hlen small)
  refine codeAny_mono ((hF base kin2 ns2).go callerA [] s H ⟨[.ref a], []⟩ [.ref a] [.ref a] _ _ ⟨room, rfl⟩ e0 (bind s (.ref a)) (.cons rfl .nil) (end_ w H a ns hlen hbits sq hsm)) fun r s2 z => ?_
  cases r with
  | error ex =>
    obtain ⟨_, _, _, _, _, _, _, _, _, _, _, _, no⟩ := z
    exact no.elim
  | ok flow =>
    cases flow with
    | next => exact z.elim
    | brk => exact z.elim
    | cont => exact z.elim
    | ret u =>
      obtain ⟨old, os, bare, v, H2, rv, e⟩ := fin _ _ _ z
      subst e
      cases rv
      exact ⟨rfl, old, os, bare⟩
end Bv
namespace Bv
open PySem PySem.Spec PyProof.Rows L2
inductive Kn where
  | dk (ks : List Key) | dt (ks : List (List Key)) | ob (C : Str) (fs : List Str)
  /-- a tuple of the module -/
  | kt
  /-- a caught exception at a, its fields' dict at dd -/
  | xo (a dd : Addr) (fs : List Str)
inductive D where
  | non | bl (b : Bool) | int (i : Int) | str (s : Str) | fn (n : Str) | ty (n : String)
  /-- the exception that an except clause holds -/
  | exn (a : Addr)
  /-- the script -/
  | scr (ns : List Int)
  | tup (ds : List D) | lst (ds : List D)
  | cn (k : Kn) (ds : List D)
inductive T where
  | sh (d : D)
  | ow (io : Bool) (ts : List T)
  | cn (io : Bool) (k : Kn) (ts : List T)
  /-- a tuple with parts that its holder alone knows -/
  | tu (ts : List T)
inductive Sl where
  | un | mv
  | ok (t : T)
abbrev Ev := List Sl
def lentT : T → Bool
  | .sh _ => false
  | .ow b _ => b
  | .cn b _ _ => b
  | .tu _ => false
def lentS : Sl → Bool
  | .ok t => lentT t
  | _ => false
mutual
def fz : T → D
  | .sh d => d
  | .ow _ ts => .lst (fzs ts)
  | .cn _ k ts => .cn k (fzs ts)
  | .tu ts => .tup (fzs ts)
def fzs : List T → List D
  | [] => []
  | t :: ts => fz t :: fzs ts
end
def KnO (K : PySem.W.Frag) : Kn → List V → HO → Prop
  | .dk ks, xs, o => ks.Nodup ∧ ks.length = xs.length ∧ o = .dK (ks.zip xs)
  | .dt ks, xs, o => ks.Nodup ∧ ks.length = xs.length ∧ o = .dT (ks.zip xs)
  | .ob C fs, xs, o => ∃ a dx, PySem.W.nsIn K mainGlobals C = some (some (.ref a)) ∧ fs.length = xs.length ∧ o = .ins a dx (fs.zip xs)
  | .kt, _, _ => False
  | .xo _ _ _, _, _ => False
def KAt (K : PySem.W.Frag) (F : Hp) : Kn → Addr → List V → Prop
  | .kt, a, xs => ∀ H, SqT K H a xs
  | .xo a dd fs, p, xs => p = a ∧ F dd = some (.xd (fs.zip xs)) ∧ fs.length = xs.length
  | k, a, xs => ∃ o, Rd F a o ∧ KnO K k xs o
theorem rd_up {F G : Hp} (s : ∀ a o, F a = some o → G a = some o) {a : Addr} {o : HO} (h : Rd F a o) : Rd G a o := h.imp (s _ _) fun ⟨od, q⟩ => ⟨od, s _ _ q⟩
theorem KAt.mono {K : PySem.W.Frag} {F G : Hp} (s : ∀ a o, F a = some o → G a = some o) {k : Kn} {a : Addr} {xs : List V} (h : KAt K F k a xs) : KAt K G k a xs := by
  cases k with
  | kt => exact h
  | xo a dd fs => exact ⟨h.1, s _ _ h.2.1, h.2.2⟩
  | _ => obtain ⟨o, h1, h2⟩ := h; exact ⟨o, rd_up s h1, h2⟩
theorem KAt.of {K : PySem.W.Frag} {F : Hp} {k : Kn} {a : Addr} {xs : List V} {o : HO} (h1 : F a = some o) (h2 : KnO K k xs o) : KAt K F k a xs := by
  cases k with
  | kt => exact h2.elim
  | xo a dd fs => exact h2.elim
  | _ => exact ⟨o, .inl h1, h2⟩
section
variable (K : PySem.W.Frag) (F : Hp)
mutual
def Rep : D → V → Prop
  | .non, v => v = .non
  | .bl b, v => v = .bl b
  | .int i, v => v = .int i
  | .str s, v => v = .str s
  | .fn n, v => ∃ a, v = .ref a ∧ PySem.W.nsIn K mainGlobals n = some (some (.ref a))
  | .ty n, v => v = .ty n
  | .exn a, v => v = .ref a
  | .tup ds, v => ∃ a xs, v = .ref a ∧ F a = some (.tup xs) ∧ Reps ds xs
  | .scr ns, v => ∃ a, v = .ref a ∧ SqL K F a (ns.map V.int)
  | .lst ds, v => ∃ a xs, v = .ref a ∧ F a = some (.lst xs) ∧ Reps ds xs
  | .cn k ds, v => ∃ a xs, v = .ref a ∧ KAt K F k a xs ∧ Reps ds xs
def Reps : List D → List V → Prop
  | [], xs => xs = []
  | d :: ds, xs => ∃ v r, xs = v :: r ∧ Rep d v ∧ Reps ds r
end
end
def Sub (F G : Hp) : Prop := ∀ a o, F a = some o → G a = some o
theorem Sub.refl (F : Hp) : Sub F F := fun _ _ h => h
theorem Sub.trans {F G H : Hp} (a : Sub F G) (b : Sub G H) : Sub F H := fun c o h => b c o (a c o h)
section
variable {K : PySem.W.Frag} {F G H : Hp}
mutual
theorem Rep.mono (s : Sub F G) : ∀ {d : D} {v : V}, Rep K F d v → Rep K G d v
  | .non, _, h => h
  | .bl _, _, h => h
  | .int _, _, h => h
  | .str _, _, h => h
  | .fn _, _, h => h
  | .ty _, _, h => h
  | .exn _, _, h => h
  | .tup ds, v, h => by
    obtain ⟨a, xs, e, q, r⟩ := h
    exact ⟨a, xs, e, s _ _ q, Reps.mono s r⟩
  | .scr ns, v, h => by
    obtain ⟨a, e, q⟩ := h
    refine ⟨a, e, ?_⟩
    rcases q with (q | ⟨o, q⟩) | q
    · exact .inl (.inl (s _ _ q))
    · exact .inl (.inr ⟨o, s _ _ q⟩)
    · exact .inr q
  | .lst ds, v, h => by
    obtain ⟨a, xs, e, q, r⟩ := h
    exact ⟨a, xs, e, s _ _ q, Reps.mono s r⟩
  | .cn k ds, v, h => by
    obtain ⟨a, xs, e, q, r⟩ := h
    exact ⟨a, xs, e, q.mono s, Reps.mono s r⟩
theorem Reps.mono (s : Sub F G) : ∀ {ds : List D} {xs : List V}, Reps K F ds xs → Reps K G ds xs
  | [], _, h => h
  | d :: ds, xs, h => by
    obtain ⟨v, r, e, h1, h2⟩ := h
    exact ⟨v, r, e, Rep.mono s h1, Reps.mono s h2⟩
end
theorem Reps.length : ∀ {ds : List D} {xs : List V}, Reps K F ds xs → xs.length = ds.length
  | [], _, h => by cases h; rfl
  | d :: ds, xs, h => by
    obtain ⟨v, r, rfl, _, h2⟩ := h
    simp [Reps.length h2]
theorem Reps.get : ∀ {ds : List D} {xs : List V} {i : Nat} {d : D}, Reps K F ds xs → ds[i]? = some d → ∃ v, xs[i]? = some v ∧ Rep K F d v
  | [], _, i, _, _, e => by simp at e
  | d :: ds, xs, 0, d', h, e => by
    obtain ⟨v, r, rfl, h1, _⟩ := h
    simp at e; subst e
    exact ⟨v, rfl, h1⟩
  | d :: ds, xs, i + 1, d', h, e => by
    obtain ⟨v, r, rfl, _, h2⟩ := h
    obtain ⟨u, q1, q2⟩ := Reps.get (i := i) h2 (by simpa using e)
    exact ⟨u, by simpa using q1, q2⟩
theorem Reps.append : ∀ {ds es : List D} {xs ys : List V}, Reps K F ds xs → Reps K F es ys → Reps K F (ds ++ es) (xs ++ ys)
  | [], _, _, _, h, q => by cases h; exact q
  | d :: ds, _, _, _, h, q => by
    obtain ⟨v, r, rfl, h1, h2⟩ := h
    exact ⟨v, r ++ _, rfl, h1, Reps.append h2 q⟩
theorem Reps.take {ds : List D} : ∀ {xs : List V} (n : Nat), Reps K F ds xs → Reps K F (ds.take n) (xs.take n) := by
  induction ds with
  | nil => intro xs n h; cases h; simp; rfl
  | cons d ds ih =>
    intro xs n h
    obtain ⟨v, r, rfl, h1, h2⟩ := h
    cases n with
    | zero => rfl
    | succ n => exact ⟨v, r.take n, rfl, h1, ih n h2⟩
theorem Reps.drop {ds : List D} : ∀ {xs : List V} (n : Nat), Reps K F ds xs → Reps K F (ds.drop n) (xs.drop n) := by
  induction ds with
  | nil => intro xs n h; cases h; simp; rfl
  | cons d ds ih =>
    intro xs n h
    obtain ⟨v, r, rfl, h1, h2⟩ := h
    cases n with
    | zero => exact ⟨v, r, rfl, h1, h2⟩
    | succ n => exact ih n h2
theorem Reps.one {d : D} {v : V} (h : Rep K F d v) : Reps K F [d] [v] := ⟨v, [], rfl, h, rfl⟩
theorem Reps.ofInts : ∀ (ns : List Int), Reps K F (ns.map D.int) (ns.map V.int)
  | [] => rfl
  | n :: ns => ⟨_, _, rfl, rfl, Reps.ofInts ns⟩
end
section
variable (K : PySem.W.Frag) (F H : Hp)
mutual
def Own : T → V → List Addr → Prop
  | .sh d, v, fp => Rep K F d v ∧ fp = []
  | .ow _ ts, v, fp => ∃ p xs fs, v = .ref p ∧ H p = some (.lst xs) ∧ fp = p :: fs ∧ Owns ts xs fs
  | .cn _ k ts, v, fp => ∃ p xs fs, v = .ref p ∧ (∃ o, H p = some o ∧ KnO K k xs o) ∧ fp = p :: fs ∧ Owns ts xs fs
  | .tu ts, v, fp => ∃ p xs, v = .ref p ∧ F p = some (.tup xs) ∧ Owns ts xs fp
def Owns : List T → List V → List Addr → Prop
  | [], xs, fp => xs = [] ∧ fp = []
  | t :: ts, xs, fp => ∃ v r f1 f2, xs = v :: r ∧ fp = f1 ++ f2 ∧ Own t v f1 ∧ Owns ts r f2
end
end
section
variable {K : PySem.W.Frag} {F G H H' : Hp}
mutual
theorem Own.frame (s : Sub F G) : ∀ {t : T} {v : V} {fp : List Addr}, (∀ a ∈ fp, H' a = H a) → Own K F H t v fp → Own K G H' t v fp
  | .sh d, v, fp, _, h => ⟨Rep.mono s h.1, h.2⟩
  | .ow b ts, v, fp, k, h => by
    obtain ⟨p, xs, fs, e, hp, rfl, q⟩ := h
    exact ⟨p, xs, fs, e, by rw [k p (by simp)]; exact hp, rfl, Owns.frame s (fun a ha => k a (by simp [ha])) q⟩
  | .cn b kn ts, v, fp, k, h => by
    obtain ⟨p, xs, fs, e, hp, rfl, q⟩ := h
    exact ⟨p, xs, fs, e, by rw [k p (by simp)]; exact hp, rfl, Owns.frame s (fun a ha => k a (by simp [ha])) q⟩
  | .tu ts, v, fp, k, h => by
    obtain ⟨p, xs, e, hp, q⟩ := h
    exact ⟨p, xs, e, s _ _ hp, Owns.frame s k q⟩
theorem Owns.frame (s : Sub F G) : ∀ {ts : List T} {xs : List V} {fp : List Addr}, (∀ a ∈ fp, H' a = H a) → Owns K F H ts xs fp → Owns K G H' ts xs fp
  | [], _, _, _, h => h
  | t :: ts, xs, fp, k, h => by
    obtain ⟨v, r, f1, f2, e, rfl, q1, q2⟩ := h
    exact ⟨v, r, f1, f2, e, rfl, Own.frame s (fun a ha => k a (by simp [ha])) q1, Owns.frame s (fun a ha => k a (by simp [ha])) q2⟩
end
mutual
theorem Own.fz (s : Sub F G) : ∀ {t : T} {v : V} {fp : List Addr}, (∀ a ∈ fp, G a = H a) → Own K F H t v fp → Rep K G (fz t) v
  | .sh d, v, fp, _, h => Rep.mono s h.1
  | .ow b ts, v, fp, k, h => by
    obtain ⟨p, xs, fs, e, hp, rfl, q⟩ := h
    exact ⟨p, xs, e, by rw [k p (by simp)]; exact hp, Owns.fz s (fun a ha => k a (by simp [ha])) q⟩
  | .cn b kn ts, v, fp, k, h => by
    obtain ⟨p, xs, fs, e, ⟨o, hp, ko⟩, rfl, q⟩ := h
    exact ⟨p, xs, e, KAt.of (by rw [k p (by simp)]; exact hp) ko, Owns.fz s (fun a ha => k a (by simp [ha])) q⟩
  | .tu ts, v, fp, k, h => by
    obtain ⟨p, xs, e, hp, q⟩ := h
    exact ⟨p, xs, e, s _ _ hp, Owns.fz s k q⟩
theorem Owns.fz (s : Sub F G) : ∀ {ts : List T} {xs : List V} {fp : List Addr}, (∀ a ∈ fp, G a = H a) → Owns K F H ts xs fp → Reps K G (fzs ts) xs
  | [], _, _, _, h => h.1
  | t :: ts, xs, fp, k, h => by
    obtain ⟨v, r, f1, f2, e, rfl, q1, q2⟩ := h
    exact ⟨v, r, e, Own.fz s (fun a ha => k a (by simp [ha])) q1, Owns.fz s (fun a ha => k a (by simp [ha])) q2⟩
end
mutual
theorem Own.tracked : ∀ {t : T} {v : V} {fp : List Addr}, Own K F H t v fp → ∀ a ∈ fp, ∃ o, H a = some o
  | .sh d, v, fp, h, a, ha => by rw [h.2] at ha; cases ha
  | .ow b ts, v, fp, h, a, ha => by
    obtain ⟨p, xs, fs, e, hp, rfl, q⟩ := h
    rcases List.mem_cons.mp ha with rfl | ha
    · exact ⟨_, hp⟩
    · exact Owns.tracked q a ha
  | .cn b k ts, v, fp, h, a, ha => by
    obtain ⟨p, xs, fs, e, ⟨o, hp, _⟩, rfl, q⟩ := h
    rcases List.mem_cons.mp ha with rfl | ha
    · exact ⟨_, hp⟩
    · exact Owns.tracked q a ha
  | .tu ts, v, fp, h, a, ha => by
    obtain ⟨p, xs, e, hp, q⟩ := h
    exact Owns.tracked q a ha
theorem Owns.tracked : ∀ {ts : List T} {xs : List V} {fp : List Addr}, Owns K F H ts xs fp → ∀ a ∈ fp, ∃ o, H a = some o
  | [], _, _, h, a, ha => by rw [h.2] at ha; cases ha
  | t :: ts, xs, fp, h, a, ha => by
    obtain ⟨v, r, f1, f2, e, rfl, q1, q2⟩ := h
    rcases List.mem_append.mp ha with ha | ha
    · exact Own.tracked q1 a ha
    · exact Owns.tracked q2 a ha
end
mutual
/-- what is owned is no tuple -/
theorem Own.noTup : ∀ {t : T} {v : V} {fp : List Addr}, Own K F H t v fp → ∀ a ∈ fp, ∀ ys, H a ≠ some (.tup ys)
  | .sh d, v, fp, h, a, ha, ys => by rw [h.2] at ha; cases ha
  | .ow b ts, v, fp, h, a, ha, ys => by
    obtain ⟨p, xs, fs, e, hp, rfl, q⟩ := h
    rcases List.mem_cons.mp ha with rfl | ha
    · rw [hp]; exact fun e => by cases e
    · exact Owns.noTup q a ha ys
  | .cn b k ts, v, fp, h, a, ha, ys => by
    obtain ⟨p, xs, fs, e, ⟨o, hp, ko⟩, rfl, q⟩ := h
    rcases List.mem_cons.mp ha with rfl | ha
    · rw [hp]
      cases k with
      | dk ks => obtain ⟨_, _, rfl⟩ := ko; exact fun e => by cases e
      | dt ks => obtain ⟨_, _, rfl⟩ := ko; exact fun e => by cases e
      | ob C fs => obtain ⟨_, _, _, _, rfl⟩ := ko; exact fun e => by cases e
      | kt => exact ko.elim
      | xo a dd fs => exact ko.elim
    · exact Owns.noTup q a ha ys
  | .tu ts, v, fp, h, a, ha, ys => by
    obtain ⟨p, xs, e, hp, q⟩ := h
    exact Owns.noTup q a ha ys
theorem Owns.noTup : ∀ {ts : List T} {xs : List V} {fp : List Addr}, Owns K F H ts xs fp → ∀ a ∈ fp, ∀ ys, H a ≠ some (.tup ys)
  | [], _, _, h, a, ha, ys => by rw [h.2] at ha; cases ha
  | t :: ts, xs, fp, h, a, ha, ys => by
    obtain ⟨v, r, f1, f2, e, rfl, q1, q2⟩ := h
    rcases List.mem_append.mp ha with ha | ha
    · exact Own.noTup q1 a ha ys
    · exact Owns.noTup q2 a ha ys
end
theorem Owns.length : ∀ {ts : List T} {xs : List V} {fp : List Addr}, Owns K F H ts xs fp → xs.length = ts.length
  | [], _, _, h => by rw [h.1]; rfl
  | t :: ts, xs, fp, h => by
    obtain ⟨v, r, f1, f2, rfl, rfl, q1, q2⟩ := h
    simp [Owns.length q2]
theorem Owns.at : ∀ {ts : List T} {xs : List V} {fp : List Addr} {i : Nat} {t : T}, Owns K F H ts xs fp → ts[i]? = some t →
    ∃ v f1 f2 f3, xs[i]? = some v ∧ fp = f1 ++ (f2 ++ f3) ∧ Own K F H t v f2 ∧ ∀ (t' : T) (v' : V) (f' : List Addr) (F' H' : Hp), Sub F F' → (∀ a ∈ f1 ++ f3, H' a = H a) → Own K F' H' t' v' f' → Owns K F' H' (ts.set i t') (xs.set i v') (f1 ++ (f' ++ f3))
  | [], _, _, _, _, _, e => by simp at e
  | t :: ts, xs, fp, 0, t0, h, e => by
    obtain ⟨v, r, f1, f2, rfl, rfl, q1, q2⟩ := h
    simp at e; subst e
    refine ⟨v, [], f1, f2, rfl, rfl, q1, fun t' v' f' F' H' s k o => ?_⟩
    exact ⟨v', r, f', f2, rfl, rfl, o, Owns.frame s (fun a ha => k a (by simp [ha])) q2⟩
  | t :: ts, xs, fp, i + 1, t0, h, e => by
    obtain ⟨v, r, f1, f2, rfl, rfl, q1, q2⟩ := h
    obtain ⟨w, g1, g2, g3, e1, rfl, o1, up⟩ := Owns.at (i := i) (t := t0) q2 (by simpa using e)
    refine ⟨w, f1 ++ g1, g2, g3, by simpa using e1, by simp, o1, fun t' v' f' F' H' s k o => ?_⟩
    exact ⟨v, r.set i v', f1, g1 ++ (f' ++ g3), rfl, by simp, Own.frame s (fun a ha => k a (by simp [ha])) q1, up t' v' f' F' H' s (fun a ha => k a (by
      rcases List.mem_append.mp ha with h | h <;> simp [h])) o⟩
theorem Owns.snoc : ∀ {ts : List T} {xs : List V} {fp : List Addr} {t : T} {v : V} {f : List Addr}, Owns K F H ts xs fp → Own K F H t v f → Owns K F H (ts ++ [t]) (xs ++ [v]) (fp ++ f)
  | [], _, _, t, v, f, h, o => by
    obtain ⟨rfl, rfl⟩ := h
    exact ⟨v, [], f, [], rfl, by simp, o, rfl, rfl⟩
  | t :: ts, xs, fp, t0, v0, f, h, o => by
    obtain ⟨v, r, f1, f2, rfl, rfl, q1, q2⟩ := h
    exact ⟨v, r ++ [v0], f1, f2 ++ f, rfl, by simp, q1, Owns.snoc q2 o⟩
end
end Bv
namespace Bv
open PySem PySem.Spec PyProof.Rows L2
section
variable (K : PySem.W.Frag) (F H : Hp)
def SlOk : Sl → Option V → List Addr → Prop
  | .un, _, fp => fp = []
  | .mv, _, fp => fp = []
  | .ok t, x, fp => ∃ v, x = some v ∧ Own K F H t v fp
def Slots : Ev → L2.St → List Addr → Prop
  | [], σ, fp => σ = [] ∧ fp = []
  | s :: e, σ, fp => ∃ x r f1 f2, σ = x :: r ∧ fp = f1 ++ f2 ∧ SlOk K F H s x f1 ∧ Slots e r f2
def Live : List (T × V) → List Addr → Prop
  | [], fp => fp = []
  | q :: l, fp => ∃ f1 f2, fp = f1 ++ f2 ∧ Own K F H q.1 q.2 f1 ∧ Live l f2
end
section
variable {K : PySem.W.Frag} {F G H H' : Hp}
theorem SlOk.frame (s : Sub F G) : ∀ {t : Sl} {x : Option V} {fp : List Addr}, (∀ a ∈ fp, H' a = H a) → SlOk K F H t x fp → SlOk K G H' t x fp
  | .un, _, _, _, h => h
  | .mv, _, _, _, h => h
  | .ok t, x, fp, k, ⟨v, e, o⟩ => ⟨v, e, o.frame s k⟩
theorem Slots.frame (s : Sub F G) : ∀ {e : Ev} {σ : L2.St} {fp : List Addr}, (∀ a ∈ fp, H' a = H a) → Slots K F H e σ fp → Slots K G H' e σ fp
  | [], _, _, _, h => h
  | t :: e, σ, fp, k, h => by
    obtain ⟨x, r, f1, f2, e, rfl, q1, q2⟩ := h
    exact ⟨x, r, f1, f2, e, rfl, q1.frame s (fun a ha => k a (by simp [ha])), Slots.frame s (fun a ha => k a (by simp [ha])) q2⟩
theorem Live.frame (s : Sub F G) : ∀ {l : List (T × V)} {fp : List Addr}, (∀ a ∈ fp, H' a = H a) → Live K F H l fp → Live K G H' l fp
  | [], _, _, h => h
  | q :: l, fp, k, h => by
    obtain ⟨f1, f2, rfl, q1, q2⟩ := h
    exact ⟨f1, f2, rfl, q1.frame s (fun a ha => k a (by simp [ha])), Live.frame s (fun a ha => k a (by simp [ha])) q2⟩
theorem Slots.len : ∀ {e : Ev} {σ : L2.St} {fp : List Addr}, Slots K F H e σ fp → σ.length = e.length
  | [], _, _, h => by rw [h.1]; rfl
  | t :: e, σ, fp, h => by
    obtain ⟨x, r, f1, f2, rfl, rfl, q1, q2⟩ := h
    simp [Slots.len q2]
theorem SlOk.tracked {s : Sl} {x : Option V} {fp : List Addr} (h : SlOk K F H s x fp) : ∀ a ∈ fp, ∃ o, H a = some o := by
  cases s with
  | un => intro a ha; rw [show fp = [] from h] at ha; cases ha
  | mv => intro a ha; rw [show fp = [] from h] at ha; cases ha
  | ok t => obtain ⟨v, _, o⟩ := h; exact o.tracked
theorem Slots.tracked : ∀ {e : Ev} {σ : L2.St} {fp : List Addr}, Slots K F H e σ fp → ∀ a ∈ fp, ∃ o, H a = some o
  | [], _, _, h, a, ha => by rw [h.2] at ha; cases ha
  | t :: e, σ, fp, h, a, ha => by
    obtain ⟨x, r, f1, f2, rfl, rfl, q1, q2⟩ := h
    rcases List.mem_append.mp ha with ha | ha
    · exact q1.tracked a ha
    · exact Slots.tracked q2 a ha
theorem Live.tracked : ∀ {l : List (T × V)} {fp : List Addr}, Live K F H l fp → ∀ a ∈ fp, ∃ o, H a = some o
  | [], fp, h, a, ha => by rw [show fp = [] from h] at ha; cases ha
  | q :: l, fp, h, a, ha => by
    obtain ⟨f1, f2, rfl, q1, q2⟩ := h
    rcases List.mem_append.mp ha with ha | ha
    · exact q1.tracked a ha
    · exact Live.tracked q2 a ha
theorem SlOk.noTup {s : Sl} {x : Option V} {fp : List Addr} (h : SlOk K F H s x fp) : ∀ a ∈ fp, ∀ ys, H a ≠ some (.tup ys) := by
  cases s with
  | un => intro a ha; rw [show fp = [] from h] at ha; cases ha
  | mv => intro a ha; rw [show fp = [] from h] at ha; cases ha
  | ok t => obtain ⟨v, _, o⟩ := h; exact o.noTup
theorem Slots.noTup : ∀ {e : Ev} {σ : L2.St} {fp : List Addr}, Slots K F H e σ fp → ∀ a ∈ fp, ∀ ys, H a ≠ some (.tup ys)
  | [], _, _, h, a, ha, ys => by rw [h.2] at ha; cases ha
  | t :: e, σ, fp, h, a, ha, ys => by
    obtain ⟨x, r, f1, f2, rfl, rfl, q1, q2⟩ := h
    rcases List.mem_append.mp ha with ha | ha
    · exact q1.noTup a ha ys
    · exact Slots.noTup q2 a ha ys
theorem Live.noTup : ∀ {l : List (T × V)} {fp : List Addr}, Live K F H l fp → ∀ a ∈ fp, ∀ ys, H a ≠ some (.tup ys)
  | [], fp, h, a, ha, ys => by rw [show fp = [] from h] at ha; cases ha
  | q :: l, fp, h, a, ha, ys => by
    obtain ⟨f1, f2, rfl, q1, q2⟩ := h
    rcases List.mem_append.mp ha with ha | ha
    · exact q1.noTup a ha ys
    · exact Live.noTup q2 a ha ys
theorem Slots.at : ∀ {e : Ev} {σ : L2.St} {fp : List Addr} {i : Nat} {s : Sl}, Slots K F H e σ fp → e[i]? = some s →
    ∃ x f1 f2 f3, σ[i]? = some x ∧ fp = f1 ++ (f2 ++ f3) ∧ SlOk K F H s x f2 ∧ ∀ (s' : Sl) (x' : Option V) (f' : List Addr) (F' H' : Hp), Sub F F' → (∀ a ∈ f1 ++ f3, H' a = H a) → SlOk K F' H' s' x' f' → Slots K F' H' (e.set i s') (σ.set i x') (f1 ++ (f' ++ f3))
  | [], _, _, _, _, _, e => by simp at e
  | t :: ts, xs, fp, 0, t0, h, e => by
    obtain ⟨v, r, f1, f2, rfl, rfl, q1, q2⟩ := h
    simp at e; subst e
    refine ⟨v, [], f1, f2, rfl, rfl, q1, fun t' v' f' F' H' s k o => ?_⟩
    exact ⟨v', r, f', f2, rfl, rfl, o, Slots.frame s (fun a ha => k a (by simp [ha])) q2⟩
  | t :: ts, xs, fp, i + 1, t0, h, e => by
    obtain ⟨v, r, f1, f2, rfl, rfl, q1, q2⟩ := h
    obtain ⟨w, g1, g2, g3, e1, rfl, o1, up⟩ := Slots.at (i := i) (s := t0) q2 (by simpa using e)
    refine ⟨w, f1 ++ g1, g2, g3, by simpa using e1, by simp, o1, fun t' v' f' F' H' s k o => ?_⟩
    exact ⟨v, r.set i v', f1, g1 ++ (f' ++ g3), rfl, by simp, SlOk.frame s (fun a ha => k a (by simp [ha])) q1, up t' v' f' F' H' s (fun a ha => k a (by
      rcases List.mem_append.mp ha with h | h <;> simp [h])) o⟩
theorem Live.perm {l l' : List (T × V)} (p : l.Perm l') : ∀ {fp : List Addr}, Live K F H l fp → ∃ fp', fp.Perm fp' ∧ Live K F H l' fp' := by
  induction p with
  | nil => intro fp h; exact ⟨fp, .refl _, h⟩
  | cons x p ih =>
    intro fp h
    obtain ⟨f1, f2, rfl, q1, q2⟩ := h
    obtain ⟨f', p', q'⟩ := ih q2
    exact ⟨f1 ++ f', p'.append_left f1, f1, f', rfl, q1, q'⟩
  | swap x y l =>
    intro fp h
    obtain ⟨f1, f2, rfl, q1, g1, g2, rfl, q2, q3⟩ := h
    refine ⟨g1 ++ (f1 ++ g2), ?_, g1, _, rfl, q2, f1, g2, rfl, q1, q3⟩
    rw [← List.append_assoc, ← List.append_assoc]
    exact List.perm_append_comm.append_right g2
  | trans _ _ ih1 ih2 =>
    intro fp h
    obtain ⟨f1, p1, q1⟩ := ih1 h
    obtain ⟨f2, p2, q2⟩ := ih2 q1
    exact ⟨f2, p1.trans p2, q2⟩
theorem Live.append : ∀ {l l' : List (T × V)} {fp fp' : List Addr}, Live K F H l fp → Live K F H l' fp' → Live K F H (l ++ l') (fp ++ fp')
  | [], _, fp, _, h, h' => by cases (show fp = [] from h); exact h'
  | q :: l, _, fp, _, h, h' => by
    obtain ⟨f1, f2, rfl, q1, q2⟩ := h
    exact ⟨f1, f2 ++ _, by simp, q1, Live.append q2 h'⟩
theorem Live.split : ∀ {l l' : List (T × V)} {fp : List Addr}, Live K F H (l ++ l') fp → ∃ f1 f2, fp = f1 ++ f2 ∧ Live K F H l f1 ∧ Live K F H l' f2
  | [], _, fp, h => ⟨[], fp, rfl, rfl, h⟩
  | q :: l, _, fp, h => by
    obtain ⟨f1, f2, rfl, q1, q2⟩ := h
    obtain ⟨g1, g2, rfl, q3, q4⟩ := Live.split q2
    exact ⟨f1 ++ g1, g2, by simp, ⟨f1, g1, rfl, q1, q3⟩, q4⟩
theorem Live.owns : ∀ {ts : List T} {vs : List V} {fp : List Addr}, ts.length = vs.length → Live K F H (ts.zip vs) fp → Owns K F H ts vs fp
  | [], [], fp, _, h => ⟨rfl, h⟩
  | t :: ts, v :: vs, fp, e, h => by
    obtain ⟨f1, f2, rfl, q1, q2⟩ := h
    exact ⟨v, vs, f1, f2, rfl, rfl, q1, Live.owns (by simpa using e) q2⟩
end
structure Gh where
  H0 : Hp
  F0 : Hp
  A : List Addr
  P : List (Option Addr)
def Sm (F : Hp) : Prop := ∃ o u, F sysModules = some (.frz o u)
theorem Sm.mono {F G : Hp} (s : Sub F G) (h : Sm F) : Sm G := by
  obtain ⟨o, u, h⟩ := h
  exact ⟨o, u, s _ _ h⟩
structure Rel (K : PySem.W.Frag) (g : Gh) (F : Hp) (env : Ev) (σ : L2.St) (H : Hp) (stk : List (T × V)) : Prop where
  same : ∀ a o, g.H0 a = some o → a ∉ g.A → H a = some o
  dom : ∀ a, g.H0 a ≠ none → H a ≠ none
  sub : Sub F H
  f0 : Sub g.F0 F
  ext : ∀ a, g.H0 a ≠ none → (∀ ys, g.H0 a ≠ some (.tup ys)) → a ∉ g.A → F a = g.F0 a
  own : ∃ fp1 fp2, Slots K F H env σ fp1 ∧ Live K F H stk fp2 ∧ (fp1 ++ fp2).Nodup ∧ ∀ a ∈ fp1 ++ fp2, F a = none ∧ (g.H0 a = none ∨ a ∈ g.A)
  par : ∀ (i : Nat) (p : Addr), g.P[i]? = some (some p) → σ[i]? = some (some (V.ref p)) ∧ (env[i]? = some Sl.mv ∨ ∃ t, lentT t = true ∧ env[i]? = some (Sl.ok t))
  iow : ∀ (i : Nat) (t : T), lentT t = true → env[i]? = some (Sl.ok t) → ∃ p, g.P[i]? = some (some p)
  sm : Sm g.F0
section
variable {K : PySem.W.Frag} {g : Gh} {F : Hp} {env : Ev} {σ : L2.St} {H : Hp} {stk : List (T × V)}
theorem Rel.smF (R : Rel K g F env σ H stk) : Sm F := R.sm.mono R.f0
theorem Rel.perm (R : Rel K g F env σ H stk) {stk' : List (T × V)} (p : stk.Perm stk') : Rel K g F env σ H stk' := by
  obtain ⟨fp1, fp2, s, l, nd, fr⟩ := R.own
  obtain ⟨fp', pp, l'⟩ := l.perm p
  exact { R with own := ⟨fp1, fp', s, l', (pp.append_left fp1).nodup_iff.mp nd, fun a ha => fr a ((pp.append_left fp1).mem_iff.mpr ha)⟩ }
theorem Rel.drop (R : Rel K g F env σ H stk) {l stk' : List (T × V)} (p : stk.Perm (l ++ stk')) : Rel K g F env σ H stk' := by
  have R := R.perm p
  obtain ⟨fp1, fp2, s, q, nd, fr⟩ := R.own
  obtain ⟨f1, f2, rfl, q1, q2⟩ := q.split
  refine { R with own := ⟨fp1, f2, s, q2, ?_, fun a ha => fr a ?_⟩ }
  · exact nd.sublist (List.Sublist.append_left (List.sublist_append_right f1 f2) fp1)
  · rcases List.mem_append.mp ha with h | h <;> simp [h]
theorem Rel.pop {x : T × V} (R : Rel K g F env σ H (x :: stk)) : Rel K g F env σ H stk := R.drop (l := [x]) (.refl _)
theorem Rel.push {d : D} {v : V} (R : Rel K g F env σ H stk) (h : Rep K F d v) : Rel K g F env σ H ((.sh d, v) :: stk) := by
  obtain ⟨fp1, fp2, s, l, nd, fr⟩ := R.own
  exact { R with own := ⟨fp1, fp2, s, ⟨[], fp2, rfl, ⟨h, rfl⟩, l⟩, nd, fr⟩ }
theorem Rel.top {d : D} {v : V} (R : Rel K g F env σ H ((.sh d, v) :: stk)) : Rep K F d v := by
  obtain ⟨fp1, fp2, s, l, nd, fr⟩ := R.own
  obtain ⟨f1, f2, _, o, _⟩ := l
  exact o.1
def lock (F H : Hp) (fp : List Addr) : Hp := fun a => if a ∈ fp then H a else F a
theorem lock_in {F H : Hp} {fp : List Addr} {a : Addr} (h : a ∈ fp) : lock F H fp a = H a := if_pos h
theorem lock_out {F H : Hp} {fp : List Addr} {a : Addr} (h : a ∉ fp) : lock F H fp a = F a := if_neg h
theorem lock_sub {F H : Hp} {fp : List Addr} (h : ∀ a ∈ fp, F a = none) : Sub F (lock F H fp) := fun a o e => by
  by_cases ha : a ∈ fp
  · rw [h a ha] at e; cases e
  · rw [lock_out ha]; exact e
theorem Rel.fz {t : T} {v : V} (R : Rel K g F env σ H ((t, v) :: stk)) : ∃ F', Sub F F' ∧ Rel K g F' env σ H ((.sh (fz t), v) :: stk) := by
  obtain ⟨fp1, fp2, s, l, nd, fr⟩ := R.own
  obtain ⟨f1, f2, rfl, o, l⟩ := l
  have hF : ∀ a ∈ f1, F a = none := fun a ha => (fr a (by simp [ha])).1
  have hs : Sub F (lock F H f1) := lock_sub hF
  have nd' : (fp1 ++ f2).Nodup := nd.sublist (List.Sublist.append_left (List.sublist_append_right f1 f2) fp1)
  have dis : ∀ a, a ∈ fp1 ++ f2 → a ∉ f1 := fun a ha h1 => by
    rw [List.nodup_append] at nd
    obtain ⟨_, n2, n3⟩ := nd
    rw [List.nodup_append] at n2
    rcases List.mem_append.mp ha with h | h
    · exact n3 a h a (by simp [h1]) rfl
    · exact n2.2.2 a h1 a h rfl
  refine ⟨lock F H f1, hs, ⟨R.same, R.dom, ?_, R.f0.trans hs, ?_, ⟨fp1, f2, s.frame hs (fun _ _ => rfl), ⟨[], f2, rfl, ⟨o.fz hs fun a ha => lock_in ha, rfl⟩, l.frame hs (fun _ _ => rfl)⟩, nd', fun a ha => ?_⟩, R.par, R.iow, R.sm⟩⟩
  · intro a x e
    by_cases ha : a ∈ f1
    · rw [lock_in ha] at e; exact e
    · rw [lock_out ha] at e; exact R.sub a x e
  · intro a h0 ht hA
    by_cases ha : a ∈ f1
    · rcases (fr a (by simp [ha])).2 with h | h
      · exact absurd h h0
      · exact absurd h hA
    · rw [lock_out ha]; exact R.ext a h0 ht hA
  · rw [lock_out (dis a ha)]
    exact fr a (by rcases List.mem_append.mp ha with h | h <;> simp [h])
theorem Rel.fzAt {t : T} {v : V} {pre : List (T × V)} (R : Rel K g F env σ H (pre ++ (t, v) :: stk)) : ∃ F', Sub F F' ∧ Rel K g F' env σ H (pre ++ (.sh (Bv.fz t), v) :: stk) := by
  obtain ⟨F', s, R'⟩ := (R.perm (stk' := (t, v) :: (pre ++ stk)) List.perm_middle).fz
  exact ⟨F', s, R'.perm List.perm_middle.symm⟩
theorem Rel.fz2 {t u : T} {v w : V} (R : Rel K g F env σ H ((u, w) :: (t, v) :: stk)) : ∃ F', Sub F F' ∧ Rel K g F' env σ H ((.sh (Bv.fz u), w) :: (.sh (Bv.fz t), v) :: stk) := by
  obtain ⟨F1, s1, R1⟩ := R.fz
  obtain ⟨F2, s2, R2⟩ := Rel.fzAt (pre := [(.sh (Bv.fz u), w)]) R1
  exact ⟨F2, s1.trans s2, R2⟩
theorem Rel.fzs : ∀ {ts : List T} {vs : List V} {F : Hp} {pre : List (T × V)}, ts.length = vs.length → Rel K g F env σ H (pre ++ (ts.zip vs ++ stk)) → ∃ F', Sub F F' ∧ Rel K g F' env σ H (pre ++ (((Bv.fzs ts).map T.sh).zip vs ++ stk))
  | [], [], F, pre, _, R => ⟨F, .refl F, R⟩
  | t :: ts, v :: vs, F, pre, e, R => by
    obtain ⟨F1, s1, R1⟩ := Rel.fzAt (t := t) (v := v) (pre := pre) (stk := ts.zip vs ++ stk) R
    obtain ⟨F2, s2, R2⟩ := Rel.fzs (ts := ts) (vs := vs) (pre := pre ++ [(.sh (Bv.fz t), v)]) (by simpa using e) (by simpa using R1)
    exact ⟨F2, s1.trans s2, by simpa [Bv.fzs] using R2⟩
theorem Rel.reps : ∀ {ds : List D} {vs : List V} {stk : List (T × V)}, ds.length = vs.length → Rel K g F env σ H ((ds.map T.sh).zip vs ++ stk) → Reps K F ds vs
  | [], [], _, _, _ => rfl
  | d :: ds, v :: vs, stk, e, R => ⟨v, vs, rfl, R.top, Rel.reps (by simpa using e) (R.pop : Rel K g F env σ H ((ds.map T.sh).zip vs ++ stk))⟩
theorem Rel.alloc {p : Addr} {o : HO} (R : Rel K g F env σ H stk) (hp : H p = none) : Sub F (upd F p o) ∧ Rel K g (upd F p o) env σ (upd H p o) stk := by
  have hFp : F p = none := by
    cases e : F p with
    | none => rfl
    | some x => rw [R.sub p x e] at hp; cases hp
  have h0 : g.H0 p = none := by
    cases e : g.H0 p with
    | none => rfl
    | some x => exact absurd hp (R.dom p (by rw [e]; simp))
  have hs : Sub F (upd F p o) := fun a x e => by
    rw [upd_ne (fun h => by rw [h, hFp] at e; cases e)]; exact e
  obtain ⟨fp1, fp2, s, l, nd, fr⟩ := R.own
  have nin : ∀ a ∈ fp1 ++ fp2, a ≠ p := fun a ha e => by
    subst e
    rcases List.mem_append.mp ha with h | h
    · obtain ⟨xs, q⟩ := s.tracked a h; rw [hp] at q; cases q
    · obtain ⟨xs, q⟩ := l.tracked a h; rw [hp] at q; cases q
  refine ⟨hs, ⟨fun a x e hA => ?_, fun a e => ?_, fun a x e => ?_, R.f0.trans hs, fun a e ht hA => ?_, ⟨fp1, fp2, s.frame hs fun a ha => upd_ne (nin a (by simp [ha])), l.frame hs fun a ha => upd_ne (nin a (by simp [ha])), nd, fun a ha => ?_⟩, R.par, R.iow, R.sm⟩⟩
  · rw [upd_ne (fun h => by rw [h, h0] at e; cases e)]; exact R.same a x e hA
  · rw [upd_ne (fun h => by rw [h, h0] at e; exact e rfl)]; exact R.dom a e
  · by_cases h : a = p
    · subst h; rw [upd_same] at e ⊢; exact e
    · rw [upd_ne h] at e ⊢; exact R.sub a x e
  · rw [upd_ne (fun h => by rw [h, h0] at e; exact e rfl)]; exact R.ext a e ht hA
  · rw [upd_ne (nin a ha)]; exact fr a ha
theorem Rel.newTup {p : Addr} {ds : List D} {xs : List V} (R : Rel K g F env σ H stk) (hp : H p = none) (r : Reps K F ds xs) : ∃ F', Sub F F' ∧ Rel K g F' env σ (upd H p (.tup xs)) ((.sh (.tup ds), .ref p) :: stk) := by
  obtain ⟨s, R'⟩ := R.alloc (o := .tup xs) hp
  exact ⟨_, s, R'.push ⟨p, xs, rfl, upd_same, r.mono s⟩⟩
theorem Rel.newOw {p : Addr} {ts : List T} {vs : List V} (R : Rel K g F env σ H (ts.zip vs ++ stk)) (e : ts.length = vs.length) (hp : H p = none) : Rel K g F env σ (upd H p (.lst vs)) ((.ow false ts, .ref p) :: stk) := by
  have h0 : g.H0 p = none := by
    cases e : g.H0 p with
    | none => rfl
    | some x => exact absurd hp (R.dom p (by rw [e]; simp))
  have hFp : F p = none := by
    cases e : F p with
    | none => rfl
    | some x => rw [R.sub p x e] at hp; cases hp
  obtain ⟨fp1, fp2, s, l, nd, fr⟩ := R.own
  have nin : ∀ a ∈ fp1 ++ fp2, a ≠ p := fun a ha e => by
    subst e
    rcases List.mem_append.mp ha with h | h
    · obtain ⟨xs, q⟩ := s.tracked a h; rw [hp] at q; cases q
    · obtain ⟨xs, q⟩ := l.tracked a h; rw [hp] at q; cases q
  have l' := l.frame (.refl F) (H' := upd H p (.lst vs)) fun a ha => upd_ne (nin a (by simp [ha]))
  obtain ⟨f1, f2, rfl, q1, q2⟩ := l'.split
  refine ⟨fun a x e hA => ?_, fun a e => ?_, fun a x e => ?_, R.f0, R.ext, ⟨fp1, p :: f1 ++ f2, s.frame (.refl F) fun a ha => upd_ne (nin a (by simp [ha])), ⟨p :: f1, f2, rfl, ⟨p, vs, f1, rfl, upd_same, rfl, Live.owns e q1⟩, q2⟩, ?_, fun a ha => ?_⟩, R.par, R.iow, R.sm⟩
  · rw [upd_ne (fun h => by rw [h, h0] at e; cases e)]; exact R.same a x e hA
  · rw [upd_ne (fun h => by rw [h, h0] at e; exact e rfl)]; exact R.dom a e
  · rw [upd_ne (fun h => by rw [h, hFp] at e; cases e)]; exact R.sub a x e
  · refine (List.perm_middle (l₁ := fp1) (a := p) (l₂ := f1 ++ f2)).nodup_iff.mpr (List.nodup_cons.mpr ⟨fun h => nin p h rfl, nd⟩)
  · have ha' : a ∈ p :: (fp1 ++ (f1 ++ f2)) := (List.perm_middle (l₁ := fp1) (a := p) (l₂ := f1 ++ f2)).mem_iff.mp ha
    rcases List.mem_cons.mp ha' with rfl | h
    · exact ⟨hFp, .inl h0⟩
    · exact fr a h
theorem Rel.store {i : Nat} {s : Sl} {t : T} {v : V} (R : Rel K g F env σ H ((t, v) :: stk)) (hi : env[i]? = some s) (h1 : s ≠ .mv) (h2 : lentS s = false) (h3 : lentT t = false) : Rel K g F (env.set i (.ok t)) (σ.set i (some v)) H stk := by
  obtain ⟨fp1, fp2, sl, l, nd, fr⟩ := R.own
  obtain ⟨f1, f2, rfl, o, l⟩ := l
  obtain ⟨x, g1, g2, g3, e1, rfl, _, up⟩ := sl.at hi
  have hi' : i < env.length := (List.getElem?_eq_some_iff.mp hi).1
  have sub : (g1 ++ (f1 ++ g3) ++ f2).Perm ((g1 ++ g3) ++ (f1 ++ f2)) := by
    simp only [List.append_assoc]
    refine List.Perm.append_left g1 ?_
    rw [← List.append_assoc, ← List.append_assoc g3]
    exact List.perm_append_comm.append_right f2
  have small : List.Sublist ((g1 ++ g3) ++ (f1 ++ f2)) ((g1 ++ (g2 ++ g3)) ++ (f1 ++ f2)) :=
    List.Sublist.append_right (List.Sublist.append_left (List.sublist_append_right g2 g3) g1) _
  refine { R with own := ⟨g1 ++ (f1 ++ g3), f2, up _ _ f1 F H (.refl F) (fun _ _ => rfl) ⟨v, rfl, o⟩, l, sub.nodup_iff.mpr (nd.sublist small), fun a ha => fr a (small.subset (sub.mem_iff.mp ha))⟩, par := fun j p hj => ?_, iow := fun j ts hl hj => ?_ }
  · have hp := R.par j p hj
    have ne : i ≠ j := fun e => by
      subst e
      rcases hp.2 with h | ⟨ts, hl, h⟩
      · rw [hi] at h; exact h1 (Option.some.inj h)
      · rw [hi] at h
        rw [Option.some.inj h] at h2
        rw [show lentS (.ok ts) = lentT ts from rfl, hl] at h2
        cases h2
    rw [List.getElem?_set_ne ne, List.getElem?_set_ne ne]
    exact hp
  · by_cases e : i = j
    · subst e
      rw [List.getElem?_set_self hi'] at hj
      rw [← Sl.ok.inj (Option.some.inj hj), h3] at hl
      cases hl
    · rw [List.getElem?_set_ne e] at hj
      exact R.iow j ts hl hj
theorem Rel.move {i : Nat} {t : T} {s' : Sl} (R : Rel K g F env σ H stk) (hi : env[i]? = some (Sl.ok t)) (hs : s' = .mv ∨ (s' = .un ∧ lentT t = false)) : ∃ v, σ[i]? = some (some v) ∧ Rel K g F (env.set i s') σ H ((t, v) :: stk) := by
  obtain ⟨fp1, fp2, sl, l, nd, fr⟩ := R.own
  obtain ⟨x, g1, g2, g3, e1, rfl, ok, up⟩ := sl.at hi
  obtain ⟨v, rfl, o⟩ := ok
  have hi' : i < env.length := (List.getElem?_eq_some_iff.mp hi).1
  have ez : σ.set i (some v) = σ := by
    refine List.ext_getElem? fun j => ?_
    by_cases e : i = j
    · subst e
      rw [List.getElem?_set_self (List.getElem?_eq_some_iff.mp e1).1, e1]
    · rw [List.getElem?_set_ne e]
  have emp : SlOk K F H s' (some v) [] := by rcases hs with rfl | ⟨rfl, _⟩ <;> rfl
  have st := up s' (some v) [] F H (.refl F) (fun _ _ => rfl) emp
  rw [ez] at st
  have pp : (g1 ++ ([] ++ g3) ++ (g2 ++ fp2)).Perm (g1 ++ (g2 ++ g3) ++ fp2) := by
    simp only [List.append_assoc, List.nil_append]
    refine List.Perm.append_left g1 ?_
    rw [← List.append_assoc, ← List.append_assoc g2]
    exact List.perm_append_comm.append_right fp2
  refine ⟨v, e1, { R with own := ⟨_, g2 ++ fp2, st, ⟨g2, fp2, rfl, o, l⟩, pp.nodup_iff.mpr nd, fun a ha => fr a (pp.mem_iff.mp ha)⟩, par := fun j p hj => ?_, iow := fun j ts hl hj => ?_ }⟩
  · obtain ⟨hp, hq⟩ := R.par j p hj
    refine ⟨hp, ?_⟩
    by_cases e : i = j
    · subst e
      rcases hs with rfl | ⟨rfl, ht⟩
      · left; rw [List.getElem?_set_self hi']
      · rcases hq with h | ⟨ts, hl, h⟩
        · rw [hi] at h; cases h
        · rw [hi] at h
          rw [← Sl.ok.inj (Option.some.inj h), ht] at hl
          cases hl
    · rw [List.getElem?_set_ne e]; exact hq
  · by_cases e : i = j
    · subst e
      rw [List.getElem?_set_self hi'] at hj
      rcases hs with rfl | ⟨rfl, _⟩ <;> cases hj
    · rw [List.getElem?_set_ne e] at hj
      exact R.iow j ts hl hj
theorem Rel.back {i : Nat} {t : T} {v : V} {s : Sl} (R : Rel K g F env σ H ((t, v) :: stk)) (hi : env[i]? = some s) (hs : s = .mv ∨ s = .un) (hv : σ[i]? = some (some v)) (ht : lentT t = true ↔ ∃ p, g.P[i]? = some (some p)) : Rel K g F (env.set i (.ok t)) σ H stk := by
  obtain ⟨fp1, fp2, sl, l, nd, fr⟩ := R.own
  obtain ⟨f1, f2, rfl, o, l⟩ := l
  obtain ⟨x, g1, g2, g3, e1, rfl, ok, up⟩ := sl.at hi
  have hg2 : g2 = [] := by rcases hs with rfl | rfl <;> exact ok
  subst hg2
  have hi' : i < env.length := (List.getElem?_eq_some_iff.mp hi).1
  have ez : σ.set i (some v) = σ := by
    refine List.ext_getElem? fun j => ?_
    by_cases e : i = j
    · subst e
      rw [List.getElem?_set_self (List.getElem?_eq_some_iff.mp e1).1, hv]
    · rw [List.getElem?_set_ne e]
  have st := up (.ok t) (some v) f1 F H (.refl F) (fun _ _ => rfl) ⟨v, rfl, o⟩
  rw [ez] at st
  have pp : (g1 ++ (f1 ++ g3) ++ f2).Perm (g1 ++ ([] ++ g3) ++ (f1 ++ f2)) := by
    simp only [List.append_assoc, List.nil_append]
    refine List.Perm.append_left g1 ?_
    rw [← List.append_assoc, ← List.append_assoc g3]
    exact List.perm_append_comm.append_right f2
  refine { R with own := ⟨_, f2, st, l, pp.nodup_iff.mpr nd, fun a ha => fr a (pp.mem_iff.mp ha)⟩, par := fun j p hj => ?_, iow := fun j ts hl hj => ?_ }
  · obtain ⟨hp, hq⟩ := R.par j p hj
    refine ⟨hp, ?_⟩
    by_cases e : i = j
    · subst e
      exact .inr ⟨t, ht.mpr ⟨p, hj⟩, List.getElem?_set_self hi'⟩
    · rw [List.getElem?_set_ne e]; exact hq
  · by_cases e : i = j
    · subst e
      rw [List.getElem?_set_self hi'] at hj
      exact ht.mp (by rw [Sl.ok.inj (Option.some.inj hj)]; exact hl)
    · rw [List.getElem?_set_ne e] at hj
      exact R.iow j ts hl hj
theorem Rel.change {b : Bool} {ts ts' : List T} {v : V} {l : List (T × V)} (R : Rel K g F env σ H ((.ow b ts, v) :: (l ++ stk))) :
    ∃ p xs, v = .ref p ∧ H p = some (.lst xs) ∧ xs.length = ts.length ∧ ∀ xs', (∀ fs fl, Owns K F H ts xs fs → Live K F H l fl → ∃ fs', List.Sublist fs' (fs ++ fl) ∧ Owns K F H ts' xs' fs') → Rel K g F env σ (upd H p (.lst xs')) ((.ow b ts', v) :: stk) := by
  obtain ⟨fp1, fp2, sl, q, nd, fr⟩ := R.own
  obtain ⟨f1, f2, rfl, o, q⟩ := q
  obtain ⟨fl, f3, rfl, q1, q2⟩ := q.split
  obtain ⟨p, xs, fs, rfl, hp, rfl, os⟩ := o
  refine ⟨p, xs, rfl, hp, os.length, fun xs' h => ?_⟩
  obtain ⟨fs', hsub, os'⟩ := h fs fl os q1
  have nd2 : ((p :: fs) ++ (fl ++ f3)).Nodup := (List.nodup_append.mp nd).2.1
  have np : p ∉ fs ++ (fl ++ f3) := (List.nodup_cons.mp nd2).1
  have np1 : p ∉ fp1 := fun h => (List.nodup_append.mp nd).2.2 p h p (by simp) rfl
  have frp := fr p (by simp)
  have hFp : F p = none := frp.1
  have np' : p ∉ fs' := fun h => np (by
    have := hsub.subset h
    rcases List.mem_append.mp this with h | h <;> simp [h])
  have np3 : p ∉ f3 := fun h => np (by simp [h])
  have small : List.Sublist (p :: fs' ++ f3) (p :: fs ++ (fl ++ f3)) := by
    rw [List.cons_append, List.cons_append]
    refine List.Sublist.cons_cons p ?_
    rw [← List.append_assoc]
    exact hsub.append_right f3
  refine ⟨fun a x e hA => ?_, fun a e => ?_, fun a x e => ?_, R.f0, R.ext, ⟨fp1, p :: fs' ++ f3, sl.frame (.refl F) fun a ha => upd_ne (fun e => np1 (e ▸ ha)), ⟨p :: fs', f3, rfl, ⟨p, xs', fs', rfl, upd_same, rfl, os'.frame (.refl F) fun a ha => upd_ne (fun e => np' (e ▸ ha))⟩, q2.frame (.refl F) fun a ha => upd_ne (fun e => np3 (e ▸ ha))⟩, ?_, fun a ha => ?_⟩, R.par, R.iow, R.sm⟩
  · have ne : a ≠ p := fun h => by
      subst h
      rcases frp.2 with h | h
      · rw [h] at e; cases e
      · exact hA h
    rw [upd_ne ne]; exact R.same a x e hA
  · by_cases h : a = p
    · subst h; rw [upd_same]; simp
    · rw [upd_ne h]; exact R.dom a e
  · rw [upd_ne (fun h => by rw [h, hFp] at e; cases e)]; exact R.sub a x e
  · exact nd.sublist (List.Sublist.append_left small fp1)
  · refine fr a ?_
    rcases List.mem_append.mp ha with h | h
    · exact List.mem_append_left _ h
    · exact List.mem_append_right _ (small.subset h)
end
end Bv
namespace Bv
open PySem PySem.Spec PyProof.Rows L2
abbrev EV := Ev → Option (Ev × T)
abbrev BV := Ev → Option (Ev × Bool)
abbrev AV := Ev → Option (Ev × List T)
inductive Xn where
  | own (n : Str) | blt (n : String)
  /-- .. with fields -/
  | ownF (n : Str) (fs : List Str) (ds : List D)
inductive Fl where
  | nx | bk | ct
  | rt (t : T)
  | ex (x : Xn)
def XRep (K : PySem.W.Frag) : Xn → Value → Option Addr → Prop
  | .own n, c, d => d = none ∧ ∃ C, c = .ref C ∧ PySem.W.nsIn K mainGlobals n = some (some (.ref C))
  | .blt n, c, d => d = none ∧ c = .type n
  | .ownF n _ _, c, d => ∃ C dd, d = some dd ∧ c = .ref C ∧ PySem.W.nsIn K mainGlobals n = some (some (.ref C))
def XDyn (K : PySem.W.Frag) (F : Hp) : Xn → Option Addr → Prop
  | .ownF _ fs ds, d => ∃ dd xs, d = some dd ∧ F dd = some (.xd (fs.zip xs)) ∧ fs.length = xs.length ∧ Reps K F ds xs
  | .own _, _ => True
  | .blt _, _ => True
abbrev SV := Ev → Option (Ev × Fl)
def Modes (g : Gh) (σ : L2.St) : List (Option (Nat × Bool)) → List V → Prop
  | [], vs => vs = []
  | none :: ms, vs => ∃ v r, vs = v :: r ∧ Modes g σ ms r
  | some (i, b) :: ms, vs => ∃ v r, vs = v :: r ∧ σ[i]? = some (some v) ∧ (b = true ↔ ∃ p, g.P[i]? = some (some p)) ∧ Modes g σ ms r
def xE (K : PySem.W.Frag) (f : EV) : TE := fun σ H Q => ∃ g F env stk env' r, Rel K g F env σ H stk ∧ f env = some (env', r) ∧ ∀ v H' F', Rel K g F' env' σ H' ((r, v) :: stk) → Q v H'
def xT (K : PySem.W.Frag) (f : BV) : TT := fun σ H Q => ∃ g F env stk env' r, Rel K g F env σ H stk ∧ f env = some (env', r) ∧ ∀ H' F', Rel K g F' env' σ H' stk → Q r H'
def xA (K : PySem.W.Frag) (ms : List (Option (Nat × Bool))) (f : AV) : TA := fun σ H Q => ∃ g F env stk env' rs, Rel K g F env σ H stk ∧ f env = some (env', rs) ∧
  ∀ vs H' F', rs.length = vs.length → Modes g σ ms vs → Rel K g F' env' σ H' (rs.zip vs ++ stk) → Q vs H'
abbrev XE (X : Cx) (e : Expr) (f : EV) : Prop := PE X e (xE X.K f)
abbrev XT (X : Cx) (e : Expr) (f : BV) : Prop := PT X e (xT X.K f)
abbrev XW (X : Cx) (e : Expr) (f : BV) : Prop := PW X e (xT X.K f)
abbrev XA (X : Cx) (ms : List (Option (Nat × Bool))) (es : List Expr) (f : AV) : Prop := PA X es (xA X.K ms f)
section
variable {X : Cx}
theorem pe_imp {e : Expr} {t t' : TE} (h : PE X e t) (w : ∀ σ H Q, t' σ H Q → t σ H Q) : PE X e t' := ⟨fun pins s σ H Q I q => h.run pins s σ H Q I (w σ H Q q)⟩
theorem pt_imp {e : Expr} {t t' : TT} (h : PT X e t) (w : ∀ σ H Q, t' σ H Q → t σ H Q) : PT X e t' := ⟨fun pins s σ H Q I q => h.run pins s σ H Q I (w σ H Q q)⟩
theorem pw_imp {e : Expr} {t t' : TT} (h : PW X e t) (w : ∀ σ H Q, t' σ H Q → t σ H Q) : PW X e t' := ⟨fun wh pins s σ H Q I q => h.run wh pins s σ H Q I (w σ H Q q)⟩
theorem pa_imp {es : List Expr} {t t' : TA} (h : PA X es t) (w : ∀ σ H Q, t' σ H Q → t σ H Q) : PA X es t' := ⟨fun pos pins s σ H Q I q => h.run pos pins s σ H Q I (w σ H Q q)⟩
theorem ps_imp {st : Stmt} {t t' : TS} (h : PS X st t) (w : ∀ D σ H, t' D σ H → t D σ H) : PS X st t' := ⟨fun pins s σ H D I q => h.run pins s σ H D I (w D σ H q)⟩
theorem pss_imp {st : List Stmt} {t t' : TS} (h : PSs X st t) (w : ∀ D σ H, t' D σ H → t D σ H) : PSs X st t' := ⟨fun pins s σ H D I q => h.run pins s σ H D I (w D σ H q)⟩
end
theorem bind_some {α β : Type} {o : Option α} {f : α → Option β} {b : β} (h : o.bind f = some b) : ∃ a, o = some a ∧ f a = some b := Option.bind_eq_some_iff.mp h
section
variable {K : PySem.W.Frag} {g : Gh} {F : Hp} {env : Ev} {σ : L2.St} {H : Hp} {stk : List (T × V)}
theorem Rel.sh {i : Nat} {d : D} (R : Rel K g F env σ H stk) (hi : env[i]? = some (Sl.ok (.sh d))) : ∃ v, σ[i]? = some (some v) ∧ Rep K F d v := by
  obtain ⟨fp1, fp2, sl, l, nd, fr⟩ := R.own
  obtain ⟨x, g1, g2, g3, e1, rfl, ok, _⟩ := sl.at hi
  obtain ⟨v, rfl, o⟩ := ok
  exact ⟨v, e1, o.1⟩
theorem Rel.flag {b b' : Bool} {ts : List T} {v : V} (R : Rel K g F env σ H ((.ow b ts, v) :: stk)) : Rel K g F env σ H ((.ow b' ts, v) :: stk) := by
  obtain ⟨fp1, fp2, sl, l, nd, fr⟩ := R.own
  obtain ⟨f1, f2, rfl, o, l⟩ := l
  exact { R with own := ⟨fp1, f1 ++ f2, sl, ⟨f1, f2, rfl, o, l⟩, nd, fr⟩ }
theorem Rel.flagC {b b' : Bool} {kn : Kn} {ts : List T} {v : V} (R : Rel K g F env σ H ((.cn b kn ts, v) :: stk)) : Rel K g F env σ H ((.cn b' kn ts, v) :: stk) := by
  obtain ⟨fp1, fp2, sl, l, nd, fr⟩ := R.own
  obtain ⟨f1, f2, rfl, o, l⟩ := l
  exact { R with own := ⟨fp1, f1 ++ f2, sl, ⟨f1, f2, rfl, o, l⟩, nd, fr⟩ }
theorem Rel.nopar {i : Nat} {s : Sl} (R : Rel K g F env σ H stk) (hi : env[i]? = some s) (h1 : s ≠ .mv) (h2 : lentS s = false) : ¬ ∃ p, g.P[i]? = some (some p) := fun ⟨p, hp⟩ => by
  rcases (R.par i p hp).2 with h | ⟨ts, hl, h⟩
  · rw [hi] at h; exact h1 (Option.some.inj h)
  · rw [hi] at h
    rw [Option.some.inj h] at h2
    rw [show lentS (.ok ts) = lentT ts from rfl, hl] at h2
    cases h2
end
def eC (d : D) : EV := fun env => some (env, .sh d)
def eV (i : Nat) : EV := fun env => match env[i]? with
  | some (.ok (.sh d)) => some (env, .sh d)
  | some (.ok (.ow false ts)) => some (env.set i (.ok (.sh (.lst (fzs ts)))), .sh (.lst (fzs ts)))
  | some (.ok (.cn false k ts)) => some (env.set i (.ok (.sh (.cn k (fzs ts)))), .sh (.cn k (fzs ts)))
  | _ => none
def eM (i : Nat) : EV := fun env => match env[i]? with
  | some (.ok (.sh d)) => some (env, .sh d)
  | some (.ok (.ow false ts)) => some (env.set i .un, .ow false ts)
  | some (.ok (.cn false k ts)) => some (env.set i .un, .cn false k ts)
  | _ => none
section
variable {X : Cx} {pos : Pos}
theorem x_int {i j} : XE X (.Constant (.int i) j pos) (eC (.int i)) := pe_imp pe_int fun σ H Q ⟨g, F, env, stk, env', r, R, e, k⟩ => by
  cases e; exact k _ _ _ (R.push rfl)
theorem x_bl {b j} : XE X (.Constant (.bool b) j pos) (eC (.bl b)) := pe_imp pe_bl fun σ H Q ⟨g, F, env, stk, env', r, R, e, k⟩ => by
  cases e; exact k _ _ _ (R.push rfl)
theorem x_str {x j} : XE X (.Constant (.str x) j pos) (eC (.str x)) := pe_imp pe_str fun σ H Q ⟨g, F, env, stk, env', r, R, e, k⟩ => by
  cases e; exact k _ _ _ (R.push rfl)
theorem x_glob {x : Str} {u : Value} {v : V} {d : D} (hg : Gl X x) (hm : X.mg x = some u) (r : RelV v u) (hd : ∀ F, Rep X.K F d v) (hdb : (x == ("__debug__" : Str)) = false := by decide) : XE X (.Name x pos) (eC d) :=
  pe_imp (pe_glob hg hm r hdb) fun σ H Q ⟨g, F, env, stk, env', r, R, e, k⟩ => by
    cases e; exact k _ _ _ (R.push (hd F))
theorem x_var (i : Nat) {x : Str} (hN : X.N[i]? = some x := by rfl) (hv : Vis X.env.scope x := by first | exact Or.inl rfl | exact Or.inr (Or.inl rfl) | exact Or.inr (Or.inr rfl)) (hd : (x == ("__debug__" : Str)) = false := by decide)
    (hcd : (x == ("__classdict__" : Str)) = false := by decide) : XE X (.Name x pos) (eV i) := pe_imp (pe_var hN hv hd hcd) fun σ H Q ⟨g, F, env, stk, env', r, R, e, k⟩ => by
  unfold eV at e
  split at e
  · rename_i d hi
    cases e
    obtain ⟨v, hv, hr⟩ := R.sh hi
    exact ⟨v, hv, k v H F (R.push hr)⟩
  · rename_i ts hi
    cases e
    obtain ⟨v, hv, R1⟩ := R.move (s' := .un) hi (.inr ⟨rfl, rfl⟩)
    obtain ⟨F', s, R2⟩ := R1.fz
    have R3 := R2.push R2.top
    have hi' : i < env.length := (List.getElem?_eq_some_iff.mp hi).1
    have np := R.nopar hi (by simp) rfl
    have R4 := R3.back (i := i) (s := .un) (List.getElem?_set_self hi') (.inr rfl) hv ⟨(fun h => by cases h), fun h => absurd h np⟩
    rw [List.set_set] at R4
    exact ⟨v, hv, k v H F' R4⟩
  · rename_i kn ts hi
    cases e
    obtain ⟨v, hv, R1⟩ := R.move (s' := .un) hi (.inr ⟨rfl, rfl⟩)
    obtain ⟨F', s, R2⟩ := R1.fz
    have R3 := R2.push R2.top
    have hi' : i < env.length := (List.getElem?_eq_some_iff.mp hi).1
    have np := R.nopar hi (by simp) rfl
    have R4 := R3.back (i := i) (s := .un) (List.getElem?_set_self hi') (.inr rfl) hv ⟨(fun h => by cases h), fun h => absurd h np⟩
    rw [List.set_set] at R4
    exact ⟨v, hv, k v H F' R4⟩
  · cases e
theorem x_mov (i : Nat) {x : Str} (hN : X.N[i]? = some x := by rfl) (hv : Vis X.env.scope x := by first | exact Or.inl rfl | exact Or.inr (Or.inl rfl) | exact Or.inr (Or.inr rfl)) (hd : (x == ("__debug__" : Str)) = false := by decide)
    (hcd : (x == ("__classdict__" : Str)) = false := by decide) : XE X (.Name x pos) (eM i) := pe_imp (pe_var hN hv hd hcd) fun σ H Q ⟨g, F, env, stk, env', r, R, e, k⟩ => by
  unfold eM at e
  split at e
  · rename_i d hi
    cases e
    obtain ⟨v, hv, hr⟩ := R.sh hi
    exact ⟨v, hv, k v H F (R.push hr)⟩
  · rename_i ts hi
    cases e
    obtain ⟨v, hv, R1⟩ := R.move (s' := .un) hi (.inr ⟨rfl, rfl⟩)
    exact ⟨v, hv, k v H F R1⟩
  · rename_i kn ts hi
    cases e
    obtain ⟨v, hv, R1⟩ := R.move (s' := .un) hi (.inr ⟨rfl, rfl⟩)
    exact ⟨v, hv, k v H F R1⟩
  · cases e
end
def eBin (p : D → D → Option T) (f g : EV) : EV := fun env => (f env).bind fun q => (g q.1).bind fun s => (p (fz q.2) (fz s.2)).bind fun t => some (s.1, t)
def At2 (K : PySem.W.Frag) (r : R2) (d1 d2 : D) (t : T) : Prop := ∀ (g : Gh) (F : Hp) (env : Ev) (σ : L2.St) (H : Hp) (stk : List (T × V)) (x y : V) (Q : VK),
  Rel K g F env σ H ((.sh d2, y) :: (.sh d1, x) :: stk) → Rep K F d1 x → Rep K F d2 y → (∀ v H' F', Rel K g F' env σ H' ((t, v) :: stk) → Q v H') → r x y H Q
def AtN (K : PySem.W.Frag) (r : List V → Hp → VK → Prop) (ds : List D) (t : T) : Prop := ∀ (g : Gh) (F : Hp) (env : Ev) (σ : L2.St) (H : Hp) (stk : List (T × V)) (xs : List V) (Q : VK),
  Rel K g F env σ H stk → Reps K F ds xs → (∀ v H' F', Rel K g F' env σ H' ((t, v) :: stk) → Q v H') → r xs H Q
def Op2 (X : Cx) (f : Value → Value → Sem Value) (p : D → D → Option T) : Prop := ∀ d1 d2 t, p d1 d2 = some t → ∃ r, OpR X f r ∧ At2 X.K r d1 d2 t
def Ix2 (X : Cx) (p : D → D → Option T) : Prop := ∀ d1 d2 t, p d1 d2 = some t → ∃ r, IxR X r ∧ At2 X.K r d1 d2 t
def CallN (X : Cx) (f : Value) (p : List D → Option T) : Prop := ∀ ds t, p ds = some t → ∃ r, CallR X f r ∧ AtN X.K r ds t
section
variable {X : Cx} {pos : Pos} {a b c : Expr} {f h : EV}
theorem pe_any {e : Expr} {t' : TE} (w : ∀ σ H Q, t' σ H Q → ∃ t, PE X e t ∧ t σ H Q) : PE X e t' := ⟨fun pins s σ H Q I q => by
  obtain ⟨t, p, k⟩ := w σ H Q q
  exact p.run pins s σ H Q I k⟩
theorem xop_at {K : PySem.W.Frag} {p : D → D → Option T} {σ H Q} (h0 : xE K (eBin p f h) σ H Q) : ∃ d1 d2 t, p d1 d2 = some t ∧ ∀ r, At2 K r d1 d2 t → tOp r (xE K f) (xE K h) σ H Q := by
  obtain ⟨g, F, env, stk, env', t, R, e, k⟩ := h0
  obtain ⟨⟨e1, r1⟩, q1, e⟩ := bind_some e
  obtain ⟨⟨e2, r2⟩, q2, e⟩ := bind_some e
  obtain ⟨t', q3, e⟩ := bind_some e
  cases e
  refine ⟨fz r1, fz r2, t, q3, fun r ok => ⟨g, F, env, stk, e1, r1, R, q1, fun v H1 F1 R1 => ⟨g, F1, e1, _, e2, r2, R1, q2, fun w H2 F2 R2 => ?_⟩⟩⟩
  obtain ⟨F3, s, R3⟩ := R2.fz2
  exact ok _ _ _ _ _ _ _ _ _ R3 (R3.pop.top) R3.top k
theorem x_op {op : Operator} {p : D → D → Option T} (ho : Op2 X (binaryOp op) p) (ha : XE X a f) (hb : XE X b h) : XE X (.BinOp a op b pos) (eBin p f h) :=
  pe_any fun σ H Q h0 => by
    obtain ⟨d1, d2, t, e, k⟩ := xop_at h0
    obtain ⟨r, hr, ok⟩ := ho d1 d2 t e
    exact ⟨_, pe_op hr ha hb, k r ok⟩
theorem x_cmp {op : CmpOp} {p : D → D → Option T} (ho : Op2 X (compareOp op) p) (ha : XE X a f) (hb : XE X b h) (hm : behindInMarks op b = false) : XE X (.Compare a [op] [b] pos) (eBin p f h) :=
  pe_any fun σ H Q h0 => by
    obtain ⟨d1, d2, t, e, k⟩ := xop_at h0
    obtain ⟨r, hr, ok⟩ := ho d1 d2 t e
    exact ⟨_, pe_cmpR hr ha hb hm, k r ok⟩
end
def aNil : AV := fun env => some (env, [])
def aV (f : EV) (g : AV) : AV := fun env => (f env).bind fun q => (g q.1).bind fun s => some (s.1, .sh (fz q.2) :: s.2)
def aO (f : EV) (g : AV) : AV := fun env => (f env).bind fun q => (g q.1).bind fun s => some (s.1, q.2 :: s.2)
section
variable {X : Cx} {pos : Pos} {e : Expr} {es : List Expr} {f : EV} {h : AV} {ms : List (Option (Nat × Bool))}
theorem xa_nil : XA X [] [] aNil := pa_imp pa_nil fun σ H Q ⟨g, F, env, stk, env', rs, R, e, k⟩ => by
  cases e; exact k [] H F rfl rfl R
theorem xa_v (ha : XE X e f) (hr : XA X ms es h) (hs : starEach (e :: es) X.env = (false, eval e X.env) :: starEach es X.env := by rfl) : XA X (none :: ms) (e :: es) (aV f h) := pa_imp (pa_cons ha hr hs) fun σ H Q ⟨g, F, env, stk, env', rs, R, e, k⟩ => by
  obtain ⟨⟨e1, r1⟩, q1, e⟩ := bind_some e
  obtain ⟨⟨e2, r2⟩, q2, e⟩ := bind_some e
  cases e
  refine ⟨g, F, env, stk, e1, r1, R, q1, fun v H1 F1 R1 => ?_⟩
  obtain ⟨F2, s, R2⟩ := R1.fz
  refine ⟨g, F2, e1, _, _, r2, R2, q2, fun vs H2 F3 hl hm R3 => k (v :: vs) H2 F3 (by simp [hl]) ⟨v, vs, rfl, hm⟩ (R3.perm ?_)⟩
  exact List.perm_middle
end
def eTup (f : AV) : EV := fun env => (f env).bind fun q => if q.2.length ≤ sizeLine then some (q.1, .sh (.tup (fzs q.2))) else none
def eLst (f : AV) : EV := fun env => (f env).bind fun q => if q.2.length ≤ sizeLine then some (q.1, .ow false q.2) else none
section
variable {X : Cx} {pos : Pos} {es : List Expr} {h : AV} {ms : List (Option (Nat × Bool))}
theorem fzs_length : ∀ ts : List T, (fzs ts).length = ts.length
  | [] => rfl
  | t :: ts => by simp [fzs, fzs_length ts]
theorem x_tup {x1} (ha : XA X ms es h) : XE X (.Tuple es x1 pos) (eTup h) := pe_imp (pe_tup ha) fun σ H Q ⟨g, F, env, stk, env', r, R, e, k⟩ => by
  obtain ⟨⟨e1, rs⟩, q1, e⟩ := bind_some e
  split at e
  · rename_i hz
    cases e
    refine ⟨g, F, env, stk, e1, rs, R, q1, fun vs H1 F1 hl _ R1 => ⟨by rw [← hl]; exact hz, fun p hp => ?_⟩⟩
    obtain ⟨F2, s, R2⟩ := Rel.fzs (pre := []) hl R1
    have rp : Reps X.K F2 (fzs rs) vs := Rel.reps (by rw [fzs_length]; exact hl) R2
    obtain ⟨F3, s3, R3⟩ := (Rel.drop (l := ((fzs rs).map T.sh).zip vs) R2 (.refl _)).newTup hp rp
    exact k _ _ F3 R3
  · cases e
theorem x_lst (ha : XA X ms es h) : XE X (.List es pos) (eLst h) := pe_imp (pe_lst ha) fun σ H Q ⟨g, F, env, stk, env', r, R, e, k⟩ => by
  obtain ⟨⟨e1, rs⟩, q1, e⟩ := bind_some e
  split at e
  · rename_i hz
    cases e
    refine ⟨g, F, env, stk, e1, rs, R, q1, fun vs H1 F1 hl _ R1 => ⟨by rw [← hl]; exact hz, fun p hp => ?_⟩⟩
    exact k _ _ F1 (R1.newOw hl hp)
  · cases e
end
def bE (tr : D → Option Bool) (f : EV) : BV := fun env => (f env).bind fun q => (tr (fz q.2)).bind fun b => some (q.1, b)
def bAnd (f g : BV) : BV := fun env => (f env).bind fun q => if q.2 = true then g q.1 else some (q.1, false)
def bOr (f g : BV) : BV := fun env => (f env).bind fun q => if q.2 = true then some (q.1, true) else g q.1
def bNot (f : BV) : BV := fun env => (f env).bind fun q => some (q.1, !q.2)
def tru : D → Option Bool
  | .non => some false
  | .bl b => some b
  | .int i => some (i != 0)
  | .str s => if s.length ≤ sizeLine then some ((s.length : Int) != 0) else none
  | .tup ds => some (!ds.isEmpty)
  | .lst ds => some (!ds.isEmpty)
  | .scr ns => some (!ns.isEmpty)
  | .fn _ => none
  | .ty _ => none
  | .exn _ => none
  | .cn _ _ => none
theorem tru_ok' {K : PySem.W.Frag} {F H : Hp} (s : Sub F H) : ∀ {d : D} {v : V} {b : Bool}, Rep K F d v → tru d = some b → TruV K v H b
  | .non, v, b, h, e => by cases h; cases e; rfl
  | .bl c, v, b, h, e => by cases h; cases e; rfl
  | .int i, v, b, h, e => by cases h; cases e; rfl
  | .str z, v, b, h, e => by
    cases h
    have e : (if z.length ≤ sizeLine then some ((z.length : Int) != 0) else none) = some b := e
    by_cases hz : z.length ≤ sizeLine
    · rw [if_pos hz] at e; cases e; exact ⟨hz, rfl⟩
    · rw [if_neg hz] at e; cases e
  | .tup ds, v, b, h, e => by
    obtain ⟨a, xs, rfl, q, r⟩ := Rep.mono s h
    cases e
    refine .inr (.inl ⟨xs, .inl (.inl q), ?_⟩)
    cases ds with
    | nil => cases r; rfl
    | cons d ds => obtain ⟨_, _, rfl, _⟩ := r; rfl
  | .scr ns, v, b, h, e => by
    obtain ⟨a, rfl, q⟩ := Rep.mono s h
    cases e
    refine .inl ⟨ns.map V.int, q, ?_⟩
    cases ns <;> rfl
  | .lst ds, v, b, h, e => by
    obtain ⟨a, xs, rfl, q, r⟩ := Rep.mono s h
    cases e
    refine .inl ⟨xs, .inl (.inl q), ?_⟩
    cases ds with
    | nil => cases r; rfl
    | cons d ds => obtain ⟨_, _, rfl, _⟩ := r; rfl
  | .cn _ _, v, b, h, e => by cases e
section
variable {X : Cx} {pos : Pos} {a b : Expr} {rest : List Expr} {f : EV} {t u : BV}
theorem xt_e (ha : XE X a f) (he : ∀ whole, isTrue a X.env whole = (do let v ← whole; standAt a.pos; holding [v] (truthy v)) := by intro _; rfl) : XT X a (bE tru f) :=
  pt_imp (pt_truth ha he) fun σ H Q ⟨g, F, env, stk, env', r, R, e, k⟩ => by
    obtain ⟨⟨e1, r1⟩, q1, e⟩ := bind_some e
    obtain ⟨b, q3, e⟩ := bind_some e
    cases e
    refine ⟨g, F, env, stk, e1, r1, R, q1, fun v H1 F1 R1 => ?_⟩
    obtain ⟨F3, s, R3⟩ := R1.fz
    exact ⟨_, tru_ok' R3.sub R3.top q3, k _ _ R3.pop⟩
theorem xt_and1 (ha : XT X a t) : XW X (.BoolOp .And [a] pos) t := pw_and1 ha
theorem xt_or1 (ha : XT X a t) : XW X (.BoolOp .Or [a] pos) t := pw_or1 ha
theorem xt_and (ha : XT X a t) (hb : XW X (.BoolOp .And (b :: rest) pos) u) : XW X (.BoolOp .And (a :: b :: rest) pos) (bAnd t u) :=
  pw_imp (pw_and ha hb) fun σ H Q ⟨g, F, env, stk, env', r, R, e, k⟩ => by
    obtain ⟨⟨e1, r1⟩, q1, e⟩ := bind_some e
    refine ⟨g, F, env, stk, e1, r1, R, q1, fun H1 F1 R1 => ?_⟩
    cases r1 with
    | true => rw [if_pos rfl] at e ⊢; exact ⟨g, F1, e1, stk, env', r, R1, e, k⟩
    | false => rw [if_neg Bool.false_ne_true] at e ⊢; cases e; exact k _ _ R1
theorem xt_or (ha : XT X a t) (hb : XW X (.BoolOp .Or (b :: rest) pos) u) : XW X (.BoolOp .Or (a :: b :: rest) pos) (bOr t u) :=
  pw_imp (pw_or ha hb) fun σ H Q ⟨g, F, env, stk, env', r, R, e, k⟩ => by
    obtain ⟨⟨e1, r1⟩, q1, e⟩ := bind_some e
    refine ⟨g, F, env, stk, e1, r1, R, q1, fun H1 F1 R1 => ?_⟩
    cases r1 with
    | true => rw [if_pos rfl] at e ⊢; cases e; exact k _ _ R1
    | false => rw [if_neg Bool.false_ne_true] at e ⊢; exact ⟨g, F1, e1, stk, env', r, R1, e, k⟩
theorem xt_not (ha : XT X a t) : XT X (.UnaryOp .Not a pos) (bNot t) := pt_imp (pt_not ha) fun σ H Q ⟨g, F, env, stk, env', r, R, e, k⟩ => by
  obtain ⟨⟨e1, r1⟩, q1, e⟩ := bind_some e
  cases e
  exact ⟨g, F, env, stk, e1, r1, R, q1, fun H1 F1 R1 => k _ _ R1⟩
def eAnd (f g : EV) : EV := fun env => (f env).bind fun q => match q.2 with
  | .sh (.bl true) => g q.1
  | .sh (.bl false) => some (q.1, .sh (.bl false))
  | _ => none
variable {h : EV} {c : Expr}
theorem x_one {op} (ha : XE X a f) : XE X (.BoolOp op [a] pos) f := pe_one ha
theorem x_and (ha : XE X a f) (hb : XE X (.BoolOp .And (b :: rest) pos) h) : XE X (.BoolOp .And (a :: b :: rest) pos) (eAnd f h) := pe_imp (pe_and ha hb) fun σ H Q ⟨g, F, env, stk, env', r, R, e, k⟩ => by
  obtain ⟨⟨e1, r1⟩, q1, e⟩ := bind_some e
  refine ⟨g, F, env, stk, e1, r1, R, q1, fun v H1 F1 R1 => ?_⟩
  split at e
  · rename_i _ q; dsimp only at q; subst q
    refine ⟨true, R1.top, ?_⟩
    rw [if_pos rfl]
    exact ⟨g, F1, e1, stk, env', r, R1.pop, e, k⟩
  · rename_i _ q; dsimp only at q; subst q
    refine ⟨false, R1.top, ?_⟩
    rw [if_neg Bool.false_ne_true]
    cases e
    exact k _ _ F1 (R1.pop.push rfl)
  · cases e
end
def eCB (p : List D → Option T) (f : AV) : EV := fun env => (f env).bind fun q => (p (fzs q.2)).bind fun t => some (q.1, t)
section
variable {X : Cx} {pos ps : Pos} {x : Str} {e : Expr} {es : List Expr} {h : AV} {ms : List (Option (Nat × Bool))}
theorem xcb_at {K : PySem.W.Frag} {p : List D → Option T} {σ H Q} (h0 : xE K (eCB p h) σ H Q) : ∃ ds t, p ds = some t ∧ ∀ r, AtN K r ds t → xA K ms h σ H (fun vs H1 => r vs H1 Q) := by
  obtain ⟨g, F, env, stk, env', t, R, e, k⟩ := h0
  obtain ⟨⟨e1, rs⟩, q1, e⟩ := bind_some e
  obtain ⟨t', q3, e⟩ := bind_some e
  cases e
  refine ⟨fzs rs, t, q3, fun r ok => ⟨g, F, env, stk, e1, rs, R, q1, fun vs H1 F1 hl _ R1 => ?_⟩⟩
  obtain ⟨F2, s, R2⟩ := Rel.fzs (pre := []) hl R1
  have rp : Reps K F2 (fzs rs) vs := Rel.reps (by rw [fzs_length]; exact hl) R2
  exact ok _ _ _ _ _ _ _ _ (Rel.drop (l := ((fzs rs).map T.sh).zip vs) R2 (.refl _)) rp k
theorem x_cb {id : String} {p : List D → Option T} (hc : CallN X (.builtin id) p) (hg : Gl X x) (hm : X.mg x = none) (hv : bootBuiltins x = some (.builtin id)) (ha : XA X ms (e :: es) h) (hn : x ≠ "__name__" := by decide) (hdb : (x == ("__debug__" : Str)) = false := by decide)
    (hs : starEach (e :: es) X.env = (false, eval e X.env) :: starEach es X.env := by rfl) (hpl : (backTo pos (starEach es X.env)).any (·.1) = false := by rfl) : XE X (.Call (.Name x ps) (e :: es) [] pos) (eCB p h) :=
  pe_any fun σ H Q h0 => by
    obtain ⟨ds, t, e, k⟩ := xcb_at (ms := ms) h0
    obtain ⟨r, hr, ok⟩ := hc ds t e
    exact ⟨_, pe_callB hr hg hm hv ha hn hdb hs hpl, k r ok⟩
theorem x_ct {T : String} {p : List D → Option Bv.T} (hc : CallN X (.type T) p) (hg : Gl X x) (hm : X.mg x = none) (hv : bootBuiltins x = some (.type T)) (ha : XA X ms (e :: es) h) (hn : x ≠ "__name__" := by decide) (hdb : (x == ("__debug__" : Str)) = false := by decide)
    (hs : starEach (e :: es) X.env = (false, eval e X.env) :: starEach es X.env := by rfl) (hpl : (backTo pos (starEach es X.env)).any (·.1) = false := by rfl) : XE X (.Call (.Name x ps) (e :: es) [] pos) (eCB p h) :=
  pe_any fun σ H Q h0 => by
    obtain ⟨ds, t, e, k⟩ := xcb_at (ms := ms) h0
    obtain ⟨r, hr, ok⟩ := hc ds t e
    exact ⟨_, pe_callTy hr hg hm hv ha hn hdb hs hpl, k r ok⟩
end
end Bv
namespace Bv
open PySem PySem.Spec PyProof.Rows L2
def stk? (s : Sl) : Bool := match s with
  | .un => true
  | .ok (.sh _) => true
  | .ok (.ow false _) => true
  | .ok (.cn false _ _) => true
  | _ => false
theorem stk_lent {s : Sl} (h : stk? s = true) : lentS s = false := by
  cases s with
  | un => rfl
  | mv => rfl
  | ok t => cases t with
    | sh d => rfl
    | ow b ts => cases b with
      | true => cases h
      | false => rfl
    | cn b k ts => cases b with
      | true => cases h
      | false => rfl
    | tu ts => rfl
def gV (i : Nat) : T → Ev → Option Ev := fun t env => match t with
  | .ow true _ => none
  | .cn true _ _ => none
  | t => (env[i]?).bind fun s => if stk? s = true then some (env.set i (.ok t)) else none
def gsNil : List D → Ev → Option Ev := fun ds env => if ds.isEmpty then some env else none
def gsCons (γ : T → Ev → Option Ev) (γs : List D → Ev → Option Ev) : List D → Ev → Option Ev := fun ds env => match ds with
  | d :: ds => (γ (.sh d) env).bind fun e => γs ds e
  | [] => none
def gUnp (n : Nat) (γs : List D → Ev → Option Ev) : T → Ev → Option Ev := fun t env => match fz t with
  | .tup ds => if ds.length = n then γs ds env else none
  | .lst ds => if ds.length = n then γs ds env else none
  | _ => none
def xG (K : PySem.W.Frag) (is : List Nat) (γ : T → Ev → Option Ev) : TG := fun v σ H Q => ∃ g F env stk t env', Rel K g F env σ H ((t, v) :: stk) ∧ γ t env = some env' ∧
  ∀ σ' H' F', σ'.length = σ.length → (∀ j, j ∉ is → σ'[j]? = σ[j]?) → Rel K g F' env' σ' H' stk → Q σ' H'
def xGs (K : PySem.W.Frag) (is : List Nat) (γ : List D → Ev → Option Ev) : TGs := fun vs σ H Q => ∃ g F env stk ds env', Rel K g F env σ H ((ds.map T.sh).zip vs ++ stk) ∧ ds.length = vs.length ∧ γ ds env = some env' ∧
  ∀ σ' H' F', σ'.length = σ.length → (∀ j, j ∉ is → σ'[j]? = σ[j]?) → Rel K g F' env' σ' H' stk → Q σ' H'
abbrev XG (X : Cx) (is : List Nat) (e : Expr) (γ : T → Ev → Option Ev) : Prop := PG X e (xG X.K is γ)
abbrev XGs (X : Cx) (is : List Nat) (es : List Expr) (γ : List D → Ev → Option Ev) : Prop := PGs X es (xGs X.K is γ)
section
variable {K : PySem.W.Frag} {g : Gh} {F : Hp} {env : Ev} {σ : L2.St} {H : Hp} {stk : List (T × V)}
theorem Rel.pushs : ∀ {ds : List D} {xs : List V}, Rel K g F env σ H stk → Reps K F ds xs → Rel K g F env σ H ((ds.map T.sh).zip xs ++ stk)
  | [], _, R, h => by cases h; exact R
  | d :: ds, _, R, h => by
    obtain ⟨v, r, rfl, h1, h2⟩ := h
    exact (Rel.pushs R h2).push h1
end
section
variable {X : Cx} {pos : Pos} {x : Str}
theorem pg_imp {e : Expr} {t t' : TG} (h : PG X e t) (w : ∀ v σ H Q, t' v σ H Q → t v σ H Q) : PG X e t' := ⟨fun pins s σ H v u Q I r q => h.run pins s σ H v u Q I r (w v σ H Q q)⟩
theorem pgs_imp {es : List Expr} {t t' : TGs} (h : PGs X es t) (w : ∀ v σ H Q, t' v σ H Q → t v σ H Q) : PGs X es t' := ⟨fun pins s σ H v u Q I r q => h.run pins s σ H v u Q I r (w v σ H Q q)⟩
theorem gV_store {K : PySem.W.Frag} {g : Gh} {F : Hp} {env env' : Ev} {σ : L2.St} {H : Hp} {stk : List (T × V)} {i : Nat} {t : T} {v : V} (R : Rel K g F env σ H ((t, v) :: stk)) (e : gV i t env = some env') : Rel K g F env' (σ.set i (some v)) H stk := by
  have nt : lentT t = false := by
    cases t with
    | sh d => rfl
    | ow b ts => cases b with
      | true => cases e
      | false => rfl
    | cn b k ts => cases b with
      | true => cases e
      | false => rfl
    | tu ts => rfl
  have e' : ((env[i]?).bind fun s => if stk? s = true then some (env.set i (.ok t)) else none) = some env' := by
    cases t with
    | sh d => exact e
    | ow b ts =>
      cases b with
      | true => cases nt
      | false => exact e
    | cn b k ts =>
      cases b with
      | true => cases nt
      | false => exact e
    | tu ts => exact e
  obtain ⟨s, hi, e2⟩ := bind_some e'
  split at e2
  · rename_i hs
    cases e2
    refine R.store hi (fun z => by subst z; cases hs) (stk_lent hs) nt
  · cases e2
theorem xg_name (i : Nat) (hN : X.N.Nodup) (hi : X.N[i]? = some x := by rfl) (hx : Loc X.env.scope x := by first | exact Or.inl rfl | exact Or.inr rfl) (hf : X.fn x = true ∨ X.env.scope.names.lookup x = some .local := by first | exact .inl rfl | exact .inr rfl | assumption) : XG X [i] (.Name x pos) (gV i) :=
  pg_imp (pg_name hN hi hx hf) fun v σ H Q ⟨g, F, env, stk, t, env', R, e, k⟩ => by
    refine k (σ.set i (some v)) H F (by simp) (fun j hj => List.getElem?_set_ne (fun z => hj (by simp [z]))) (gV_store R e)
theorem xgs_nil : XGs X [] [] gsNil := pgs_imp pgs_nil fun vs σ H Q ⟨g, F, env, stk, ds, env', R, el, e, k⟩ => by
  unfold gsNil at e
  split at e
  · rename_i h
    cases e
    have : ds = [] := by simpa using h
    subst this
    have : vs = [] := by simpa using el.symm
    subst this
    exact ⟨rfl, k σ H F rfl (fun _ _ => rfl) R⟩
  · cases e
theorem xgs_cons {is js : List Nat} {e : Expr} {es : List Expr} {γ : T → Ev → Option Ev} {γs : List D → Ev → Option Ev} (h1 : XG X is e γ) (h2 : XGs X js es γs)
    (hs : (assignEach (e :: es) X.env).map (·.2) = assign e X.env :: (assignEach es X.env).map (·.2) := by rfl) : XGs X (is ++ js) (e :: es) (gsCons γ γs) :=
  pgs_imp (pgs_cons h1 h2 hs) fun vs σ H Q ⟨g, F, env, stk, ds, env', R, el, e, k⟩ => by
    cases ds with
    | nil => cases e
    | cons d ds =>
      cases vs with
      | nil => cases el
      | cons v vs =>
        obtain ⟨e1, q1, q2⟩ := bind_some e
        refine ⟨v, vs, rfl, g, F, env, (ds.map T.sh).zip vs ++ stk, .sh d, e1, R, q1, fun σ1 H1 F1 l1 s1 R1 => ?_⟩
        refine ⟨g, F1, e1, stk, ds, env', R1, by simpa using el, q2, fun σ2 H2 F2 l2 s2 R2 => ?_⟩
        refine k σ2 H2 F2 (l2.trans l1) (fun j hj => ?_) R2
        rw [List.mem_append, not_or] at hj
        rw [s2 j hj.2, s1 j hj.1]
theorem xg_unp {is : List Nat} {es : List Expr} {k : Nat} {γs : List D → Ev → Option Ev} {n : Nat} (hc : X.calm = true) (h : XGs X is es γs)
    (hn : (assignEach es X.env).length = n := by rfl) (hst : (assignEach es X.env).findIdx? (·.1) = none := by rfl) : XG X is (.Tuple es k pos) (gUnp n γs) := by
  have h1 := pg_tup (pos := pos) (k := k) hc h hn hst
  have h2 := pg_unl (pos := pos) (k := k) hc h hn hst
  refine ⟨fun pins s σ H v u Q I r ⟨g, F, env, stk, t, env', R, e, kk⟩ => ?_⟩
  obtain ⟨F1, s1, R1⟩ := R.fz
  unfold gUnp at e
  split at e
  · rename_i ds hd
    split at e
    · rename_i hl
      rw [hd] at R1
      obtain ⟨a, xs', rfl, q', rp'⟩ := R1.top
      exact h1.run pins s σ H _ u Q I r ⟨a, xs', rfl, .inl (.inl (R1.sub _ _ q')), by rw [rp'.length, hl], g, F1, env, stk, ds, env', R1.pop.pushs rp', rp'.length.symm, e, kk⟩
    · cases e
  · rename_i ds hd
    split at e
    · rename_i hl
      rw [hd] at R1
      obtain ⟨a', xs', e', q', rp'⟩ := R1.top
      cases e'
      exact h2.run pins s σ H _ u Q I r ⟨a', xs', rfl, .inl (.inl (R1.sub _ _ q')), by rw [rp'.length, hl], g, F1, env, stk, ds, env', R1.pop.pushs rp', rp'.length.symm, e, kk⟩
    · cases e
  · cases e
end
def End (K : PySem.W.Frag) (W : WX) (g : Gh) (stk : List (T × V)) (D : Ends) (env' : Ev) : Fl → Prop
  | .nx => ∀ σ' H' F', Rel K g F' env' σ' H' stk → D.nx σ' H'
  | .bk => ∀ σ' H' F', Rel K g F' env' σ' H' stk → D.bk σ' H'
  | .ct => ∀ σ' H' F', Rel K g F' env' σ' H' stk → D.ct σ' H'
  | .rt r => ∀ v σ' H' F', Rel K g F' env' σ' H' ((r, v) :: stk) → D.rt v H'
  | .ex x => ∀ c d σ' H' F', XRep K x c d → XDyn K F' x d → Rel K g F' env' σ' H' stk → W c d σ' H'
def yS (K : PySem.W.Frag) (W : WX) (f : SV) : TS := fun D σ H => ∃ g F env stk env' fl, Rel K g F env σ H stk ∧ f env = some (env', fl) ∧ End K W g stk D env' fl
abbrev YS (X : Cx) (W : WX) (st : Stmt) (f : SV) : Prop := PS X st (yS X.K W f)
abbrev YSs (X : Cx) (W : WX) (st : List Stmt) (f : SV) : Prop := PSs X st (yS X.K W f)
def sRet (f : EV) : SV := fun env => (f env).bind fun q => some (q.1, .rt q.2)
def sAsg (γ : T → Ev → Option Ev) (f : EV) : SV := fun env => (f env).bind fun q => (γ q.2 q.1).bind fun e => some (e, .nx)
def sIf (c : BV) (f g : SV) : SV := fun env => (c env).bind fun q => if q.2 = true then f q.1 else g q.1
def sNil : SV := fun env => some (env, .nx)
def sCont : SV := fun env => some (env, .ct)
def sSeq (f g : SV) : SV := fun env => (f env).bind fun q => match q.2 with
  | .nx => g q.1
  | fl => some (q.1, fl)
section
variable {X : Cx} {W : WX} {pos : Pos} {e c : Expr} {f : EV} {st : Stmt} {rest : List Stmt} {s u : SV}
theorem ys_ret (he : XE X e f) : YS X W (.Return (some e) pos) (sRet f) := ps_imp (ps_ret he) fun D σ H ⟨g, F, env, stk, env', fl, R, e, k⟩ => by
  obtain ⟨⟨e1, r1⟩, q1, e⟩ := bind_some e
  cases e
  exact ⟨g, F, env, stk, e1, r1, R, q1, fun v H1 F1 R1 => k v σ H1 F1 R1⟩
theorem ys_cont : YS X W (.Continue pos) sCont := ps_imp ps_continue fun D σ H ⟨g, F, env, stk, env', fl, R, e, k⟩ => by
  cases e; exact k σ H F R
theorem ys_asg {is : List Nat} {tg : Expr} {γ : T → Ev → Option Ev} (he : XE X e f) (hg : XG X is tg γ) (hs : swapsWithSole [tg] e pos.line X.env = pure false := by rfl) (hw : swappedStores [tg] e X.env = pure none := by rfl)
    (h1 : (assignEach [tg] X.env).map (·.2) = [assign tg X.env] := by rfl) : YS X W (.Assign [tg] e pos) (sAsg γ f) := ps_imp (ps_asg he hg hs hw h1) fun D σ H ⟨g, F, env, stk, env', fl, R, e, k⟩ => by
  obtain ⟨⟨e1, r1⟩, q1, e⟩ := bind_some e
  obtain ⟨e2, q2, e⟩ := bind_some e
  injection e with e
  injection e with ea eb
  subst ea; subst eb
  exact ⟨g, F, env, stk, e1, r1, R, q1, fun v H1 F1 R1 => ⟨g, F1, e1, stk, r1, e2, R1, q2, fun σ' H' F' _ _ R' => k σ' H' F' R'⟩⟩
theorem ys_set (i : Nat) {x : Str} {pos' : Pos} (he : XE X e f) (hN : X.N.Nodup) (hi : X.N[i]? = some x := by rfl) (hx : Loc X.env.scope x := by first | exact Or.inl rfl | exact Or.inr rfl) (hs : swapsWith e (some (.Name x pos')) pos.line X.env = pure false := by rfl)
    (hf : X.fn x = true ∨ X.env.scope.names.lookup x = some .local := by first | exact .inl rfl | exact .inr rfl | assumption) : YS X W (.Assign [.Name x pos'] e pos) (sAsg (gV i) f) := ps_imp (ps_set hN hi hx he hs hf) fun D σ H ⟨g, F, env, stk, env', fl, R, e, k⟩ => by
  obtain ⟨⟨e1, r1⟩, q1, e⟩ := bind_some e
  obtain ⟨e2, q2, e⟩ := bind_some e
  cases e
  exact ⟨g, F, env, stk, e1, r1, R, q1, fun v H1 F1 R1 => k _ H1 F1 (gV_store R1 q2)⟩
theorem ys_if {a b : List Stmt} {t : BV} (hc : XT X c t) (ha : YSs X W a s) (hb : YSs X W b u) : YS X W (.If c a b pos) (sIf t s u) := ps_imp (ps_if hc ha hb) fun D σ H ⟨g, F, env, stk, env', fl, R, e, k⟩ => by
  obtain ⟨⟨e1, r1⟩, q1, e⟩ := bind_some e
  refine ⟨g, F, env, stk, e1, r1, R, q1, fun H1 F1 R1 => ?_⟩
  cases r1 with
  | true => rw [if_pos rfl] at e ⊢; exact ⟨g, F1, e1, stk, env', fl, R1, e, k⟩
  | false => rw [if_neg Bool.false_ne_true] at e ⊢; exact ⟨g, F1, e1, stk, env', fl, R1, e, k⟩
theorem yss_nil : YSs X W [] sNil := pss_imp pss_nil fun D σ H ⟨g, F, env, stk, env', fl, R, e, k⟩ => by
  cases e; exact k σ H F R
theorem yss_one (h : YS X W st s) : YSs X W [st] s := pss_one h
theorem yss_cons (h1 : YS X W st s) (h2 : YSs X W rest u) : YSs X W (st :: rest) (sSeq s u) := pss_imp (pss_cons h1 h2) fun D σ H ⟨g, F, env, stk, env', fl, R, e, k⟩ => by
  obtain ⟨⟨e1, r1⟩, q1, e⟩ := bind_some e
  refine ⟨g, F, env, stk, e1, r1, R, q1, ?_⟩
  cases r1 with
  | nx => exact fun σ1 H1 F1 R1 => ⟨g, F1, e1, stk, env', fl, R1, e, k⟩
  | bk => cases e; exact k
  | ct => cases e; exact k
  | rt t => cases e; exact k
  | ex x => cases e; exact k
end
abbrev IV := Ev → Option (Ev × List D)
def ItOk (K : PySem.W.Frag) (J : It) (ds : List D) (stk : List (T × V)) : Prop := ∀ (i : Nat) (g : Gh) (F : Hp) (env : Ev) (σ : L2.St) (H : Hp), Rel K g F env σ H stk →
  (∀ d, ds[i]? = some d → J.go i H ∧ ∀ x H', J.yld i H x H' → ∃ F', Rel K g F' env σ H' ((.sh d, x) :: stk)) ∧ (ds.length ≤ i → J.stop i H)
def xI (K : PySem.W.Frag) (ι : IV) : TI := fun σ H R => ∃ g F env stk env' ds, Rel K g F env σ H stk ∧ ι env = some (env', ds) ∧
  ∀ J H' F' more, (∀ st2, ItOk K J ds (more ++ st2)) → Rel K g F' env' σ H' (more ++ stk) → R J H'
abbrev XI (X : Cx) (tg e : Expr) (ι : IV) : Prop := PI X tg e (xI X.K ι)
def forL (γ : T → Ev → Option Ev) (β : SV) : List D → Ev → Option (Ev × Fl)
  | [], env => some (env, .nx)
  | d :: ds, env => (γ (.sh d) env).bind fun e1 => (β e1).bind fun q => match q.2 with
    | .nx => forL γ β ds q.1
    | .ct => forL γ β ds q.1
    | .bk => some (q.1, .nx)
    | .rt t => some (q.1, .rt t)
    | .ex x => some (q.1, .ex x)
def sFor (ι : IV) (γ : T → Ev → Option Ev) (β : SV) : SV := fun env => (ι env).bind fun q => forL γ β q.2 q.1
def whileN (c : BV) (β : SV) : Nat → Ev → Option (Ev × Fl)
  | 0, _ => none
  | n + 1, env => (c env).bind fun q => if q.2 = true then (β q.1).bind fun s => match s.2 with
      | .nx => whileN c β n s.1
      | .ct => whileN c β n s.1
      | .bk => some (s.1, .nx)
      | .rt t => some (s.1, .rt t)
      | .ex x => some (s.1, .ex x)
    else some (q.1, .nx)
open Classical in
noncomputable def sWhile (c : BV) (β : SV) : SV := fun env => if h : ∃ n, (whileN c β n env).isSome = true then whileN c β (Classical.choose h) env else none
theorem whileN_succ {c : BV} {β : SV} : ∀ {n : Nat} {env : Ev} {r : Ev × Fl}, whileN c β n env = some r → whileN c β (n + 1) env = some r
  | 0, _, _, h => by cases h
  | n + 1, env, r, h => by
    obtain ⟨q, q1, h⟩ := bind_some h
    have goal : ((c env).bind fun q => if q.2 = true then (β q.1).bind fun s => match s.2 with
      | .nx => whileN c β (n + 1) s.1
      | .ct => whileN c β (n + 1) s.1
      | .bk => some (s.1, .nx)
      | .rt t => some (s.1, .rt t)
      | .ex x => some (s.1, .ex x)
      else some (q.1, .nx)) = some r := by
      rw [q1]
      show (if q.2 = true then _ else _) = _
      split at h
      · rename_i hb
        rw [if_pos hb]
        obtain ⟨s, q2, h⟩ := bind_some h
        rw [q2]
        obtain ⟨s1, s2⟩ := s
        cases s2 with
        | nx => exact whileN_succ h
        | ct => exact whileN_succ h
        | bk => exact h
        | rt t => exact h
        | ex x => exact h
      · rename_i hb
        rw [if_neg hb]; exact h
    exact goal
theorem whileN_mono {c : BV} {β : SV} {n m : Nat} {env : Ev} {r : Ev × Fl} (h : whileN c β n env = some r) (l : n ≤ m) : whileN c β m env = some r := by
  induction l with
  | refl => exact h
  | step _ ih => exact whileN_succ ih
theorem sWhile_eq {c : BV} {β : SV} {n : Nat} {env : Ev} {r : Ev × Fl} (h : whileN c β n env = some r) : sWhile c β env = some r := by
  have hx : ∃ n, (whileN c β n env).isSome = true := ⟨n, by rw [h]; rfl⟩
  unfold sWhile
  rw [dif_pos hx]
  obtain ⟨r', hr⟩ := Option.isSome_iff_exists.mp (Classical.choose_spec hx)
  rw [hr]
  have a := whileN_mono hr (Nat.le_max_left _ n)
  have b := whileN_mono h (Nat.le_max_right (Classical.choose hx) n)
  rw [a] at b
  exact b
section
variable {X : Cx} {W : WX} {pos : Pos} {tg it c : Expr} {body : List Stmt} {ι : IV} {γ : T → Ev → Option Ev} {β : SV} {t : BV} {is : List Nat}
theorem ys_for (hp : PassesOwn (model X.prog X.w) X.A X.env X.xe) (hc : X.calm = true) (hi : XI X tg it ι) (hg : XG X is tg γ) (hb : YSs X W body β)
    (hs : ∀ x, foldedSetIterable it X.env x = pure x := by intro _; rfl) : YS X W (.For tg it body [] pos) (sFor ι γ β) := ps_imp (ps_for hp hc hi hg hb hs) fun D σ H ⟨g, F, env, stk, env', fl, R, e, k⟩ => by
  obtain ⟨⟨e1, ds⟩, q1, e⟩ := bind_some e
  refine ⟨g, F, env, stk, e1, ds, R, q1, fun J H1 F1 more ok R1 => ?_⟩
  refine ⟨fun i m σ H => m = ds.length - i ∧ i ≤ ds.length ∧ ∃ F e, Rel X.K g F e σ H (more ++ stk) ∧ forL γ β (ds.drop i) e = some (env', fl), ⟨ds.length, rfl, Nat.zero_le _, F1, e1, R1, e⟩, ?_⟩
  rintro i m σ2 H2 ⟨rfl, hi, F2, e2, R2, q2⟩
  by_cases hlt : i < ds.length
  · right
    obtain ⟨d, hd⟩ : ∃ d, ds[i]? = some d := ⟨ds[i], List.getElem?_eq_getElem hlt⟩
    obtain ⟨go, yl⟩ := (ok stk i g F2 e2 σ2 H2 R2).1 d hd
    have ed : ds.drop i = d :: ds.drop (i + 1) := by
      rw [List.drop_eq_getElem_cons hlt]
      rw [List.getElem?_eq_getElem hlt] at hd
      rw [Option.some.inj hd]
    rw [ed] at q2
    obtain ⟨e3, q3, q2⟩ := bind_some q2
    obtain ⟨⟨e4, fl4⟩, q4, q2⟩ := bind_some q2
    refine ⟨go, fun σ' H' => ∃ F e, Rel X.K g F e σ' H' (more ++ stk) ∧ forL γ β (ds.drop (i + 1)) e = some (env', fl), fun σ' H' hN => ⟨ds.length - (i + 1), by omega, rfl, hlt, hN⟩, fun x H' y => ?_⟩
    obtain ⟨F3, R3⟩ := yl x H' y
    refine ⟨g, F3, e2, more ++ stk, .sh d, e3, R3, q3, fun σ4 H4 F4 _ _ R4 => ?_⟩
    refine ⟨g, F4, e3, more ++ stk, e4, fl4, R4, q4, ?_⟩
    cases fl4 with
    | nx => exact fun σ5 H5 F5 R5 => ⟨F5, e4, R5, q2⟩
    | ct => exact fun σ5 H5 F5 R5 => ⟨F5, e4, R5, q2⟩
    | bk => cases q2; exact fun σ5 H5 F5 R5 => k σ5 H5 F5 (R5.drop (.refl _))
    | rt r => cases q2; exact fun v σ5 H5 F5 R5 => k v σ5 H5 F5 (R5.drop (l := more) (by
        exact (List.perm_middle (a := (r, v)) (l₁ := more) (l₂ := stk)).symm))
    | ex x => cases q2; exact fun c d σ5 H5 F5 xr xd R5 => k c d σ5 H5 F5 xr xd (R5.drop (.refl _))
  · left
    have ei : i = ds.length := by omega
    subst ei
    rw [List.drop_length] at q2
    have st := (ok stk ds.length g F2 e2 σ2 H2 R2).2 (Nat.le_refl _)
    cases q2
    exact ⟨st, k σ2 H2 F2 (R2.drop (.refl _))⟩
theorem ys_while (hp : PassesOwn (model X.prog X.w) X.A X.env X.xe) (hc : XT X c t) (hb : YSs X W body β) : YS X W (.While c body [] pos) (sWhile t β) := ps_imp (ps_while hp hc hb) fun D σ H ⟨g, F, env, stk, env', fl, R, e, k⟩ => by
  unfold sWhile at e
  split at e
  · rename_i hx
    generalize Classical.choose hx = n at e
    refine ⟨fun m σ H => ∃ F e, Rel X.K g F e σ H stk ∧ whileN t β m e = some (env', fl), ⟨n, F, env, R, e⟩, ?_⟩
    rintro m σ1 H1 ⟨F1, e1, R1, q1⟩
    cases m with
    | zero => cases q1
    | succ m =>
      obtain ⟨⟨e2, b⟩, q2, q1⟩ := bind_some q1
      refine ⟨g, F1, e1, stk, e2, b, R1, q2, fun H2 F2 R2 => ?_⟩
      cases b with
      | true =>
        rw [if_pos rfl] at q1 ⊢
        obtain ⟨⟨e3, fl3⟩, q3, q1⟩ := bind_some q1
        refine ⟨fun σ' H' => ∃ F e, Rel X.K g F e σ' H' stk ∧ whileN t β m e = some (env', fl), fun σ' H' h => ⟨m, by omega, h⟩, g, F2, e2, stk, e3, fl3, R2, q3, ?_⟩
        cases fl3 with
        | nx => exact fun σ5 H5 F5 R5 => ⟨F5, e3, R5, q1⟩
        | ct => exact fun σ5 H5 F5 R5 => ⟨F5, e3, R5, q1⟩
        | bk => cases q1; exact fun σ5 H5 F5 R5 => k σ5 H5 F5 R5
        | rt r => cases q1; exact fun v σ5 H5 F5 R5 => k v σ5 H5 F5 R5
        | ex x => cases q1; exact fun c d σ5 H5 F5 xr xd R5 => k c d σ5 H5 F5 xr xd R5
      | false =>
        rw [if_neg Bool.false_ne_true] at q1 ⊢
        cases q1
        exact k σ1 H2 F2 R2
  · cases e
end
def outs : List T → Ev → Option (List T)
  | [], _ => some []
  | .sh d :: ts, _ :: e => (outs ts e).bind fun r => some (.sh d :: r)
  | .ow true _ :: ts, .ok (.ow true us) :: e => (outs ts e).bind fun r => some (.ow true us :: r)
  | .cn true _ _ :: ts, .ok (.cn true k us) :: e => (outs ts e).bind fun r => some (.cn true k us :: r)
  | _, _ => none
def runEnd (ts : List T) (q : Ev × Fl) : Option (List T × T) := match q.2 with
  | .nx => (outs ts q.1).bind fun o => some (o, .sh .non)
  | .rt r => (outs ts q.1).bind fun o => some (o, r)
  | _ => none
def run (N : Nat) (β : SV) : List T → Option (List T × T) := fun ts => (β (ts.map Sl.ok ++ List.replicate (N - ts.length) .un)).bind (runEnd ts)
structure CallEnd (K : PySem.W.Frag) (F H : Hp) (fp : List Addr) (ts' : List T) (vs : List V) (r : T) (v : V) (H' F' : Hp) (fp' : List Addr) : Prop where
  same : ∀ a o, H a = some o → a ∉ fp → H' a = some o
  dom : ∀ a, H a ≠ none → H' a ≠ none
  sub : Sub F' H'
  f0 : Sub F F'
  ext : ∀ a, H a ≠ none → (∀ ys, H a ≠ some (.tup ys)) → a ∉ fp → F' a = F a
  live : Live K F' H' ((r, v) :: ts'.zip vs) fp'
  nd : fp'.Nodup
  fr : ∀ a ∈ fp', F' a = none ∧ (H a = none ∨ a ∈ fp)
  len : ts'.length = vs.length
def SubS (F H : Hp) : Prop := Sub F H ∧ Sm F
theorem Rel.subS {K : PySem.W.Frag} {g : Gh} {F : Hp} {env : Ev} {σ : L2.St} {H : Hp} {stk : List (T × V)} (R : Rel K g F env σ H stk) : SubS F H := ⟨R.sub, R.smF⟩
def spB (K : PySem.W.Frag) (n : Nat) (φ : List T → Option (List T × T)) : Sp := fun vs H Q _ => vs.length = n ∧ ∃ F ts fp ts' r, SubS F H ∧ ts.length = n ∧ Live K F H (ts.zip vs) fp ∧ fp.Nodup ∧ (∀ a ∈ fp, F a = none) ∧ φ ts = some (ts', r) ∧
  ∀ v H' F' fp', CallEnd K F H fp ts' vs r v H' F' fp' → Q v H'
section
variable {K : PySem.W.Frag} {F F' H H' : Hp}
theorem outs_cons {t : T} (ht : lentT t = true) {ts ts' : List T} {env' : Ev} (e : outs (t :: ts) env' = some ts') : ∃ t' e2 r, lentT t' = true ∧ env' = .ok t' :: e2 ∧ outs ts e2 = some r ∧ ts' = t' :: r := by
  cases t with
  | sh d => cases ht
  | ow b us =>
    cases (show b = true from ht)
    cases env' with
    | nil => cases e
    | cons s e2 => cases s with
      | un => cases e
      | mv => cases e
      | ok t => cases t with
        | sh d => cases e
        | cn b k us => cases e
        | tu us => cases e
        | ow b ws => cases b with
          | false => cases e
          | true =>
            obtain ⟨r, q, e⟩ := bind_some e
            cases e
            exact ⟨_, e2, r, rfl, rfl, q, rfl⟩
  | tu us => cases ht
  | cn b k us =>
    cases (show b = true from ht)
    cases env' with
    | nil => cases e
    | cons s e2 => cases s with
      | un => cases e
      | mv => cases e
      | ok t => cases t with
        | sh d => cases e
        | ow b us => cases e
        | tu us => cases e
        | cn b k ws => cases b with
          | false => cases e
          | true =>
            obtain ⟨r, q, e⟩ := bind_some e
            cases e
            exact ⟨_, e2, r, rfl, rfl, q, rfl⟩
theorem outs_live : ∀ {ts ts' : List T} {vs : List V} {env' : Ev} {σ' : L2.St} {fp fp1 : List Addr}, outs ts env' = some ts' → ts.length = vs.length → Live K F H (ts.zip vs) fp → Slots K F' H' env' σ' fp1 → Sub F F' →
    (∀ (i : Nat) (t : T), lentT t = true → ts[i]? = some t → ∃ v, vs[i]? = some v ∧ σ'[i]? = some (some v)) → ts'.length = vs.length ∧ ∃ fp', List.Sublist fp' fp1 ∧ Live K F' H' (ts'.zip vs) fp'
  | [], ts', vs, env', σ', fp, fp1, e, el, l, s, sf, hv => by
    cases e
    exact ⟨el, [], List.nil_sublist _, rfl⟩
  | t :: ts, ts', [], _, _, _, _, e, el, _, _, _, _ => by cases el
  | t :: ts, ts', v :: vs, env0, σ', fp, fp1, e, el, l, s, sf, hv => by
    cases ht : lentT t with
    | false =>
      cases t with
      | sh d =>
        cases env0 with
        | nil => cases e
        | cons x env' =>
          obtain ⟨r, q, e⟩ := bind_some e
          cases e
          obtain ⟨f1, f2, rfl, o, l⟩ := l
          obtain ⟨y, σr, g1, g2, rfl, rfl, ok, s⟩ := s
          obtain ⟨hl, fp', hs, hL⟩ := outs_live q (by simpa using el) l s sf fun i us hu h => by
            obtain ⟨w, h1, h2⟩ := hv (i + 1) us hu (by simpa using h)
            exact ⟨w, by simpa using h1, by simpa using h2⟩
          exact ⟨by simp [hl], fp', hs.trans (List.sublist_append_right _ _), [], fp', rfl, ⟨o.1.mono sf, rfl⟩, hL⟩
      | ow b us =>
        cases (show b = false from ht)
        cases env0 <;> cases e
      | cn b k us =>
        cases (show b = false from ht)
        cases env0 <;> cases e
      | tu us => cases env0 <;> cases e
    | true =>
      obtain ⟨t', env', r, ht', rfl, q, rfl⟩ := outs_cons ht e
      obtain ⟨f1, f2, rfl, o, l⟩ := l
      obtain ⟨y, σr, g1, g2, rfl, rfl, ok, s⟩ := s
      obtain ⟨hl, fp', hs, hL⟩ := outs_live q (by simpa using el) l s sf fun i us hu h => by
        obtain ⟨w, h1, h2⟩ := hv (i + 1) us hu (by simpa using h)
        exact ⟨w, by simpa using h1, by simpa using h2⟩
      obtain ⟨w, h1, h2⟩ := hv 0 t ht rfl
      obtain ⟨w', rfl, ok⟩ := ok
      have e1 : v = w := by simpa using h1
      have e2 : w' = w := by simpa using h2
      subst e1; subst e2
      exact ⟨by simp [hl], g1 ++ fp', hs.append_left g1, g1, fp', rfl, ok, hL⟩
theorem slots_of_live : ∀ {ts : List T} {vs : List V} {fp : List Addr} (n : Nat), ts.length = vs.length → Live K F H (ts.zip vs) fp → Slots K F H (ts.map Sl.ok ++ List.replicate n .un) (vs.map some ++ List.replicate n none) fp
  | [], [], fp, n, _, l => by
    cases (show fp = [] from l)
    show Slots K F H (List.replicate n .un) (List.replicate n none) []
    induction n with
    | zero => exact ⟨rfl, rfl⟩
    | succ n ih => exact ⟨none, _, [], [], rfl, rfl, rfl, ih⟩
  | t :: ts, v :: vs, fp, n, el, l => by
    obtain ⟨f1, f2, rfl, o, l⟩ := l
    exact ⟨some v, _, f1, f2, rfl, rfl, ⟨v, rfl, o⟩, slots_of_live n (by simpa using el) l⟩
theorem own_ref {t : T} {v : V} {f : List Addr} (h : lentT t = true) (o : Own K F H t v f) : ∃ p, v = .ref p := by
  cases t with
  | sh d => cases h
  | ow b us => obtain ⟨p, xs, fs, e, _⟩ := o; exact ⟨p, e⟩
  | cn b k us => obtain ⟨p, xs, fs, e, _⟩ := o; exact ⟨p, e⟩
  | tu us => cases h
theorem live_lent : ∀ {ts : List T} {vs : List V} {fp : List Addr} {i : Nat} {t : T}, ts.length = vs.length → Live K F H (ts.zip vs) fp → lentT t = true → ts[i]? = some t → ∃ p, vs[i]? = some (V.ref p)
  | [], _, _, _, _, _, _, _, h => by simp at h
  | t :: ts, [], _, _, _, el, _, _, _ => by cases el
  | t :: ts, v :: vs, fp, 0, us, el, l, hu, h => by
    obtain ⟨f1, f2, rfl, o, l⟩ := l
    have h : t = us := by simpa using h
    subst h
    obtain ⟨p, e⟩ := own_ref hu o
    exact ⟨p, by simp [show v = _ from e]⟩
  | t :: ts, v :: vs, fp, i + 1, us, el, l, hu, h => by
    obtain ⟨f1, f2, rfl, o, l⟩ := l
    obtain ⟨p, hp⟩ := live_lent (i := i) (t := us) (by simpa using el) l hu (by simpa using h)
    exact ⟨p, by simpa using hp⟩
end
def lentP : List T → List V → List (Option Addr)
  | t :: ts, v :: vs => (match lentT t, v with
    | true, .ref p => some p
    | _, _ => none) :: lentP ts vs
  | _, _ => []
theorem lentP_some : ∀ {ts : List T} {vs : List V} {i : Nat} {p : Addr}, (lentP ts vs)[i]? = some (some p) → vs[i]? = some (V.ref p) ∧ ∃ t, lentT t = true ∧ ts[i]? = some t
  | [], vs, i, p, h => by cases vs <;> simp [lentP] at h
  | t :: ts, [], i, p, h => by simp [lentP] at h
  | t :: ts, v :: vs, 0, p, h => by
    cases ht : lentT t with
    | false => simp [lentP, ht] at h
    | true =>
      cases v with
      | ref q => simp [lentP, ht] at h; subst h; exact ⟨rfl, t, ht, rfl⟩
      | _ => simp [lentP, ht] at h
  | t :: ts, v :: vs, i + 1, p, h => by
    obtain ⟨h1, us, hu, h2⟩ := lentP_some (ts := ts) (vs := vs) (i := i) (p := p) (by simpa [lentP] using h)
    exact ⟨by simpa using h1, us, hu, by simpa using h2⟩
theorem lentP_of : ∀ {ts : List T} {vs : List V} {i : Nat} {p : Addr} {t : T}, vs[i]? = some (V.ref p) → lentT t = true → ts[i]? = some t → (lentP ts vs)[i]? = some (some p)
  | [], vs, i, p, us, h, _, h' => by simp at h'
  | t :: ts, [], i, p, us, h, _, _ => by simp at h
  | t :: ts, v :: vs, 0, p, us, h, hu, h' => by
    have h : v = .ref p := by simpa using h
    have h' : t = us := by simpa using h'
    subst h; subst h'
    simp [lentP, hu]
  | t :: ts, v :: vs, i + 1, p, us, h, hu, h' => by
    have q := lentP_of (ts := ts) (vs := vs) (i := i) (p := p) (t := us) (by simpa using h) hu (by simpa using h')
    simpa [lentP] using q
section
variable {P : Program} {w : World} {K : PySem.W.Frag} {mg : Str → Option Value} {base : Heap}
theorem callEnd_of {g : Gh} {F F' H H' : Hp} {ts ts' : List T} {vs : List V} {fp : List Addr} {env' : Ev} {σ' : L2.St} {r : T} {v : V} (hg : g = ⟨H, F, fp, lentP ts vs⟩) (el : ts.length = vs.length) (l : Live K F H (ts.zip vs) fp)
    (R : Rel K g F' env' σ' H' [(r, v)]) (e : outs ts env' = some ts') : ∃ fp', CallEnd K F H fp ts' vs r v H' F' fp' := by
  subst hg
  obtain ⟨fp1, fp2, s, q, nd, fr⟩ := R.own
  obtain ⟨hl, fp', hs, hL⟩ := outs_live e el l s R.f0 fun i us hu h => by
    obtain ⟨p, hp⟩ := live_lent el l hu h
    exact ⟨.ref p, hp, (R.par i p (lentP_of hp hu h)).1⟩
  refine ⟨fp2 ++ fp', ⟨R.same, R.dom, R.sub, R.f0, R.ext, ?_, ?_, fun a ha => ?_, hl⟩⟩
  · exact q.append hL
  · have := nd.sublist (hs.append_right fp2)
    exact (List.perm_append_comm.nodup_iff).mp this
  · refine fr a ?_
    rcases List.mem_append.mp ha with h | h
    · exact List.mem_append_right _ h
    · exact List.mem_append_left _ (hs.subset h)
def runEndX (ts : List T) (q : Ev × Fl) : Option (List T × (T ⊕ Xn)) := match q.2 with
  | .nx => (outs ts q.1).bind fun o => some (o, .inl (.sh .non))
  | .rt r => (outs ts q.1).bind fun o => some (o, .inl r)
  | .ex x => (outs ts q.1).bind fun o => some (o, .inr x)
  | _ => none
def runX (N : Nat) (β : SV) : List T → Option (List T × (T ⊕ Xn)) := fun ts => (β (ts.map Sl.ok ++ List.replicate (N - ts.length) .un)).bind (runEndX ts)
def spX (K : PySem.W.Frag) (n : Nat) (φ : List T → Option (List T × (T ⊕ Xn))) : Sp := fun vs H Q E => vs.length = n ∧ ∃ F ts fp ts' o, SubS F H ∧ ts.length = n ∧ Live K F H (ts.zip vs) fp ∧ fp.Nodup ∧ (∀ a ∈ fp, F a = none) ∧ φ ts = some (ts', o) ∧
  match o with
  | .inl r => ∀ v H' F' fp', CallEnd K F H fp ts' vs r v H' F' fp' → Q v H'
  | .inr x => ∀ c d H' F' fp', XRep K x c d → XDyn K F' x d → CallEnd K F H fp ts' vs (.sh .non) .non H' F' fp' → E c d H'
theorem start_rel {H F : Hp} {N : List Str} {ts : List T} {vs : List V} {fp : List Addr} (hsub : SubS F H) (el : ts.length = vs.length) (l : Live K F H (ts.zip vs) fp) (nd : fp.Nodup) (hF : ∀ a ∈ fp, F a = none) :
    Rel K ⟨H, F, fp, lentP ts vs⟩ F (ts.map Sl.ok ++ List.replicate (N.length - ts.length) .un) (start N vs) H [] := by
  have sl := slots_of_live (N.length - ts.length) el l
  refine ⟨fun _ _ h _ => h, fun _ h => h, hsub.1, .refl F, fun _ _ _ _ => rfl, ⟨fp, [], ?_, rfl, by simpa using nd, fun a ha => ⟨hF a (by simpa using ha), .inr (by simpa using ha)⟩⟩, fun i p hp => ?_, fun i us hu hi => ?_, hsub.2⟩
  · show Slots K F H _ (vs.map some ++ List.replicate (N.length - vs.length) none) fp
    rw [← el]; exact sl
  · obtain ⟨h1, us, hu, h2⟩ := lentP_some hp
    have i1 : i < vs.length := (List.getElem?_eq_some_iff.mp h1).1
    have i2 : i < ts.length := (List.getElem?_eq_some_iff.mp h2).1
    refine ⟨?_, .inr ⟨us, hu, ?_⟩⟩
    · show (vs.map some ++ _)[i]? = _
      rw [List.getElem?_append_left (by simpa using i1), List.getElem?_map, h1]; rfl
    · rw [List.getElem?_append_left (by simpa using i2), List.getElem?_map, h2]; rfl
  · by_cases hi2 : i < ts.length
    · rw [List.getElem?_append_left (by simpa using hi2), List.getElem?_map] at hi
      obtain ⟨t, ht, hi⟩ := Option.map_eq_some_iff.mp hi
      injection hi with hi
      subst hi
      obtain ⟨p, hp⟩ := live_lent el l hu ht
      exact ⟨p, lentP_of hp hu ht⟩
    · rw [List.getElem?_append_right (by simpa using hi2)] at hi
      have := List.mem_of_getElem? hi
      rw [List.mem_replicate] at this
      cases this.2
abbrev WU (E : XK) : WX := fun c d _ H => E c d H
theorem fn_okX {x qual : Str} {st : Stmt} {f : Addr} {fd : FuncData} {N ps : List Str} {k : Nat} {β : SV} (Fu : Fun K x qual st f fd) (S : FnScope N ps (defScope st)) (hps : ps.length ≤ N.length)
    (hbody : ∀ (cdv : Value) (A : Around) (outer : List Env) (s : Shared) (H : Hp) (E : XK), RoomG k (A.deeper (envOfC qual (defScope st) s.heap.objs.size f cdv)) → Takes (cxOf (L2.CX P w) P w K mg base N qual (defScope st) f cdv A outer s H E) (WU E) → PassesOwn (model P w) (cxOf (L2.CX P w) P w K mg base N qual (defScope st) f cdv A outer s H E).A (cxOf (L2.CX P w) P w K mg base N qual (defScope st) f cdv A outer s H E).env (cxOf (L2.CX P w) P w K mg base N qual (defScope st) f cdv A outer s H E).xe →
      YSs (cxOf (L2.CX P w) P w K mg base N qual (defScope st) f cdv A outer s H E) (WU E) (defBody st) β) :
    FnG P w K mg base (k + 1) f fd ps (spX K ps.length (runX N.length β)) := by
  refine fnG_of Fu S (fun vs H Q E h => h.1) (fun cdv A outer s H vs Q E hr h => ?_)
  obtain ⟨hn, F, ts, fp, ts', r, hsub, hl, l, nd, hF, hφ, kont⟩ := h
  have el : ts.length = vs.length := by rw [hl, hn]
  refine ⟨_, hbody cdv A outer s H E hr (takes_of rfl rfl rfl rfl) (passes_of (X := cxOf (L2.CX P w) P w K mg base N qual (defScope st) f cdv A outer s H E) rfl), ?_⟩
  obtain ⟨⟨env', fl⟩, q1, q2⟩ := bind_some hφ
  refine ⟨_, F, _, [], env', fl, start_rel hsub el l nd hF, q1, ?_⟩
  cases fl with
  | nx =>
    intro σ' H' F' R'
    obtain ⟨o, q3, q2⟩ := bind_some q2
    cases q2
    obtain ⟨fp', ce⟩ := callEnd_of (r := .sh .non) (v := .non) rfl el l (R'.push rfl) q3
    exact kont _ H' F' fp' ce
  | rt r' =>
    intro v σ' H' F' R'
    obtain ⟨o, q3, q2⟩ := bind_some q2
    cases q2
    obtain ⟨fp', ce⟩ := callEnd_of rfl el l R' q3
    exact kont _ H' F' fp' ce
  | ex x =>
    intro c d σ' H' F' xr xd R'
    obtain ⟨o, q3, q2⟩ := bind_some q2
    cases q2
    obtain ⟨fp', ce⟩ := callEnd_of (r := .sh .non) (v := .non) rfl el l (R'.push rfl) q3
    exact kont c d H' F' fp' xr xd ce
  | bk => cases q2
  | ct => cases q2
theorem fn_ok {x qual : Str} {st : Stmt} {f : Addr} {fd : FuncData} {N ps : List Str} {k : Nat} {β : SV} (Fu : Fun K x qual st f fd) (S : FnScope N ps (defScope st)) (hps : ps.length ≤ N.length)
    (hbody : ∀ (cdv : Value) (A : Around) (outer : List Env) (s : Shared) (H : Hp) (E : XK), RoomG k (A.deeper (envOfC qual (defScope st) s.heap.objs.size f cdv)) → Takes (cxOf (L2.CX P w) P w K mg base N qual (defScope st) f cdv A outer s H E) (WU E) → PassesOwn (model P w) (cxOf (L2.CX P w) P w K mg base N qual (defScope st) f cdv A outer s H E).A (cxOf (L2.CX P w) P w K mg base N qual (defScope st) f cdv A outer s H E).env (cxOf (L2.CX P w) P w K mg base N qual (defScope st) f cdv A outer s H E).xe →
      YSs (cxOf (L2.CX P w) P w K mg base N qual (defScope st) f cdv A outer s H E) (WU E) (defBody st) β) :
    FnG P w K mg base (k + 1) f fd ps (spB K ps.length (run N.length β)) := by
  have G := fn_okX (mg := mg) (base := base) Fu S hps hbody
  refine ⟨fun vs H Q E h => h.1, fun A fr s H args us vs Q E hr he hb hv h => G.go A fr s H args us vs Q E hr he hb hv ?_⟩
  obtain ⟨hn, F, ts, fp, ts', r, hsub, hl, l, nd, hF, hφ, kont⟩ := h
  refine ⟨hn, F, ts, fp, ts', .inl r, hsub, hl, l, nd, hF, ?_, kont⟩
  obtain ⟨⟨env', fl⟩, q1, q2⟩ := bind_some hφ
  unfold runX
  rw [q1]
  cases fl with
  | nx => obtain ⟨o, q3, q2⟩ := bind_some q2; cases q2; show (outs ts env').bind _ = _; rw [q3]; rfl
  | rt r' => obtain ⟨o, q3, q2⟩ := bind_some q2; cases q2; show (outs ts env').bind _ = _; rw [q3]; rfl
  | ex x => cases q2
  | bk => cases q2
  | ct => cases q2
end
def putBack : List (Option (Nat × Bool)) → List T → Ev → Option Ev
  | [], _, e => some e
  | none :: ms, _ :: ts, e => putBack ms ts e
  | some (i, b) :: ms, .ow true us :: ts, e => match e[i]? with
    | some .mv => putBack ms ts (e.set i (.ok (.ow b us)))
    | _ => none
  | some (i, b) :: ms, .cn true k us :: ts, e => match e[i]? with
    | some .mv => putBack ms ts (e.set i (.ok (.cn b k us)))
    | _ => none
  | _, _, _ => none
def eCall (n : Nat) (φ : List T → Option (List T × T)) (ms : List (Option (Nat × Bool))) (f : AV) : EV := fun env => (f env).bind fun q => if q.2.length = n then (φ q.2).bind fun s => (putBack ms s.1 q.1).bind fun e => some (e, s.2) else none
section
variable {K : PySem.W.Frag} {g : Gh} {F : Hp} {σ : L2.St} {H : Hp}
theorem putBack_ok : ∀ {ms : List (Option (Nat × Bool))} {ts : List T} {vs : List V} {e e2 : Ev} {stk : List (T × V)}, Rel K g F e σ H (ts.zip vs ++ stk) → putBack ms ts e = some e2 → Modes g σ ms vs → ts.length = vs.length → Rel K g F e2 σ H stk
  | [], ts, vs, e, e2, stk, R, q, m, el => by
    cases (show vs = [] from m)
    cases q
    cases ts with
    | nil => exact R
    | cons t ts => cases el
  | none :: ms, [], vs, e, e2, stk, R, q, m, el => by cases q
  | none :: ms, t :: ts, vs, e, e2, stk, R, q, m, el => by
    obtain ⟨v, r, rfl, m⟩ := m
    exact putBack_ok (ms := ms) (R.pop : Rel K g F e σ H (ts.zip r ++ stk)) q m (by simpa using el)
  | some (i, b) :: ms, [], vs, e, e2, stk, R, q, m, el => by cases q
  | some (i, b) :: ms, .sh d :: ts, vs, e, e2, stk, R, q, m, el => by cases q
  | some (i, b) :: ms, .ow false us :: ts, vs, e, e2, stk, R, q, m, el => by cases q
  | some (i, b) :: ms, .ow true us :: ts, vs, e, e2, stk, R, q, m, el => by
    obtain ⟨v, r, rfl, hv, hb, m⟩ := m
    unfold putBack at q
    split at q
    · rename_i hi
      have R1 : Rel K g F e σ H ((.ow b us, v) :: (ts.zip r ++ stk)) := Rel.flag (b := true) R
      have R2 := R1.back hi (.inl rfl) hv hb
      exact putBack_ok (ms := ms) R2 q m (by simpa using el)
    · cases q
  | some (i, b) :: ms, .tu us :: ts, vs, e, e2, stk, R, q, m, el => by cases q
  | some (i, b) :: ms, .cn false k us :: ts, vs, e, e2, stk, R, q, m, el => by cases q
  | some (i, b) :: ms, .cn true k us :: ts, vs, e, e2, stk, R, q, m, el => by
    obtain ⟨v, r, rfl, hv, hb, m⟩ := m
    unfold putBack at q
    split at q
    · rename_i hi
      have R1 : Rel K g F e σ H ((.cn b k us, v) :: (ts.zip r ++ stk)) := Rel.flagC (b := true) R
      have R2 := R1.back hi (.inl rfl) hv hb
      exact putBack_ok (ms := ms) R2 q m (by simpa using el)
    · cases q
theorem Rel.after {F' H' : Hp} {env : Ev} {stk : List (T × V)} {ts ts' : List T} {vs : List V} {r : T} {v : V} {fa fb fp1 fp' : List Addr} (R : Rel K g F env σ H (ts.zip vs ++ stk)) (s : Slots K F H env σ fp1) (la : Live K F H (ts.zip vs) fa) (lb : Live K F H stk fb)
    (nd : (fp1 ++ (fa ++ fb)).Nodup) (fr : ∀ a ∈ fp1 ++ (fa ++ fb), F a = none ∧ (g.H0 a = none ∨ a ∈ g.A)) (ce : CallEnd K F H fa ts' vs r v H' F' fp') : Rel K g F' env σ H' ((r, v) :: (ts'.zip vs ++ stk)) := by
  have nin : ∀ a, g.H0 a ≠ none → a ∉ g.A → a ∉ fa := fun a h0 hA ha => by
    rcases (fr a (by simp [ha])).2 with h | h
    · exact h0 h
    · exact hA h
  have nd3 := List.nodup_append.mp nd
  have nd4 := List.nodup_append.mp nd3.2.1
  have d1 : ∀ a ∈ fp1, a ∉ fa := fun a h1 h2 => nd3.2.2 a h1 a (by simp [h2]) rfl
  have d2 : ∀ a ∈ fb, a ∉ fa := fun a h1 h2 => nd4.2.2 a h2 a h1 rfl
  have t1 : ∀ a ∈ fp1, H' a = H a := fun a ha => by
    obtain ⟨xs, e⟩ := s.tracked a ha
    rw [ce.same a _ e (d1 a ha), e]
  have t2 : ∀ a ∈ fb, H' a = H a := fun a ha => by
    obtain ⟨xs, e⟩ := lb.tracked a ha
    rw [ce.same a _ e (d2 a ha), e]
  have n1 : ∀ a ∈ fp1, H a ≠ none := fun a ha => by
    obtain ⟨xs, e⟩ := s.tracked a ha
    rw [e]; simp
  have n2 : ∀ a ∈ fb, H a ≠ none := fun a ha => by
    obtain ⟨xs, e⟩ := lb.tracked a ha
    rw [e]; simp
  have lv := (ce.live : Live K F' H' ((r, v) :: ts'.zip vs) fp').append (lb.frame ce.f0 t2)
  refine ⟨fun a o h hA => ce.same a o (R.same a o h hA) (nin a (by rw [h]; simp) hA), fun a h => ce.dom a (R.dom a h), ce.sub, R.f0.trans ce.f0, fun a h0 ht hA => ?_, ⟨fp1, fp' ++ fb, s.frame ce.f0 t1, lv, ?_, fun a ha => ?_⟩, R.par, R.iow, R.sm⟩
  · rw [ce.ext a (R.dom a h0) (fun ys e => by
      obtain ⟨o, eo⟩ := Option.ne_none_iff_exists'.mp h0
      have := R.same a o eo hA
      rw [e] at this
      cases this
      exact ht ys eo) (nin a h0 hA)]
    exact R.ext a h0 ht hA
  · rw [List.nodup_append]
    refine ⟨nd3.1, List.nodup_append.mpr ⟨ce.nd, nd4.2.1, fun a ha b hb e => ?_⟩, fun a ha b hb e => ?_⟩
    · subst e
      rcases (ce.fr a ha).2 with h | h
      · exact n2 a hb h
      · exact d2 a hb h
    · subst e
      rcases List.mem_append.mp hb with hb | hb
      · rcases (ce.fr a hb).2 with h | h
        · exact n1 a ha h
        · exact d1 a ha h
      · exact nd3.2.2 a ha a (by simp [hb]) rfl
  · have old : a ∈ fp1 ++ fb → F' a = none ∧ (g.H0 a = none ∨ a ∈ g.A) := fun h => by
      have hn : H a ≠ none := (List.mem_append.mp h).elim (n1 a) (n2 a)
      have hd : a ∉ fa := (List.mem_append.mp h).elim (d1 a) (d2 a)
      have := fr a (by rcases List.mem_append.mp h with h | h <;> simp [h])
      exact ⟨by rw [ce.ext a hn ((List.mem_append.mp h).elim (s.noTup a) (lb.noTup a)) hd]; exact this.1, this.2⟩
    rcases List.mem_append.mp ha with h | h
    · exact old (by simp [h])
    · rcases List.mem_append.mp h with h | h
      · refine ⟨(ce.fr a h).1, ?_⟩
        rcases (ce.fr a h).2 with h' | h'
        · left
          cases q : g.H0 a with
          | none => rfl
          | some o => exact absurd h' (R.dom a (by rw [q]; simp))
        · exact (fr a (by simp [h'])).2
      · exact old (by simp [h])
end
section
variable {X : Cx} {pos ps' : Pos} {x : Str} {e : Expr} {es : List Expr} {h : AV} {ms : List (Option (Nat × Bool))} {k n : Nat} {f : Addr} {fd : FuncData} {ps : List Str} {φ : List T → Option (List T × T)}
theorem passG0 {X : Cx} : ∀ σ, PassesAt (L2.CX X.prog X.w) X σ ((fun _ => E0) σ) := fun σ pins H s e s' I z => passL pins σ H s e s' I z
theorem xcall_imp {K : PySem.W.Frag} : ∀ σ H Q, xE K (eCall n φ ms h) σ H Q → xA K ms h σ H (fun vs H1 => spB K n φ vs H1 Q E0) := fun σ H Q ⟨g, F, env, stk, env', r, R, e, k⟩ => by
  obtain ⟨⟨e1, rs⟩, q1, e⟩ := bind_some e
  split at e
  · rename_i hn
    obtain ⟨⟨ts', r'⟩, q2, e⟩ := bind_some e
    obtain ⟨e2, q3, e⟩ := bind_some e
    cases e
    refine ⟨g, F, env, stk, e1, rs, R, q1, fun vs H1 F1 hl hm R1 => ?_⟩
    show spB K n φ vs H1 Q E0
    obtain ⟨fp1, fp2, s, q, nd, fr⟩ := R1.own
    obtain ⟨fa, fb, rfl, la, lb⟩ := q.split
    refine ⟨by rw [← hl]; exact hn, F1, rs, fa, ts', r', R1.subS, hn, la, (List.nodup_append.mp (List.nodup_append.mp nd).2.1).1, fun a ha => (fr a (by simp [ha])).1, q2, fun v H' F' fp' ce => ?_⟩
    have R2 := R1.after s la lb nd fr ce
    have R3 : Rel K g F' e1 σ H' (ts'.zip vs ++ ((r', v) :: stk)) := R2.perm List.perm_middle.symm
    exact k v H' F' (putBack_ok R3 q3 hm ce.len)
  · cases e
theorem x_call (Fn : FnG X.prog X.w X.K X.mg X.base k f fd ps (spB X.K n φ)) (hr : RoomG k X.A) (hg : Gl X x) (hm : X.mg x = some (.ref f)) (hk : PySem.W.keepIn X.K (.ref f) = true) (hb : Binds X.K fd ps [])
    (ha : XA X ms (e :: es) h) (hdb : (x == ("__debug__" : Str)) = false := by decide) (hs : starEach (e :: es) X.env = (false, eval e X.env) :: starEach es X.env := by rfl) (hpl : (backTo pos (starEach es X.env)).any (·.1) = false := by rfl) :
    XE X (.Call (.Name x ps') (e :: es) [] pos) (eCall n φ ms h) :=
  pe_imp (pe_callG (E := fun _ => E0) Fn hr hg hm hk hb passG0 ha hdb hs hpl) xcall_imp
end
end Bv
namespace Bv
open PySem PySem.Spec PyProof.Rows L2
def chars (s : Str) : List D := s.cps.toList.map fun c => D.str ⟨#[c]⟩
def items : D → Option (List D)
  | .lst ds => some ds
  | .tup ds => some ds
  | .str s => some (chars s)
  | .scr ns => some (ns.map D.int)
  | _ => none
def iE (f : EV) : IV := fun env => (f env).bind fun q => (items (fz q.2)).bind fun ds => some (q.1, ds)
theorem pi_any {X : Cx} {tg e : Expr} {t' : TI} (w : ∀ σ H R, t' σ H R → ∃ t, PI X tg e t ∧ t σ H R) : PI X tg e t' := ⟨fun pins s σ H R I q => by
  obtain ⟨t, p, k⟩ := w σ H R q
  exact p.run pins s σ H R I k⟩
theorem SqL.up {K : PySem.W.Frag} {F H : Hp} {a : Addr} {xs : List V} (s : Sub F H) (h : SqL K F a xs) : SqL K H a xs := by
  rcases h with (q | ⟨o, q⟩) | q
  · exact .inl (.inl (s _ _ q))
  · exact .inl (.inr ⟨o, s _ _ q⟩)
  · exact .inr q
theorem SqT.up {K : PySem.W.Frag} {F H : Hp} {a : Addr} {xs : List V} (s : Sub F H) (h : F a = some (.tup xs)) : SqT K H a xs := .inl (.inl (s _ _ h))
section
variable {X : Cx} {tg e : Expr} {f : EV}
theorem itr_ok {K : PySem.W.Frag} (lo : Int) (n : Nat) : ∀ st2, ItOk K (Itr lo n) ((List.range n).map fun k => D.int (lo + (k : Nat))) ([] ++ st2) := fun st2 i g F env σ H R => by
  refine ⟨fun d hd => ?_, fun hl => by show n ≤ i; simpa using hl⟩
  rw [List.getElem?_map] at hd
  obtain ⟨k, hk, rfl⟩ := Option.map_eq_some_iff.mp hd
  obtain ⟨hlt, he⟩ := List.getElem?_eq_some_iff.mp hk
  have hlt : i < n := by simpa using hlt
  have he : k = i := by simpa using he.symm
  subst he
  refine ⟨hlt, fun x H' y => ?_⟩
  obtain ⟨rfl, rfl⟩ := y
  exact ⟨F, R.push rfl⟩
def rgOk (i : Int) : Bool := decide (-(2 ^ 62) ≤ i) && decide (i < 2 ^ 62)
def rgItems (lo hi : Int) : List D := (List.range (hi - lo).toNat).map fun k => D.int (lo + (k : Nat))
def iR1 (f : AV) : IV := fun env => (f env).bind fun q => match fzs q.2 with
  | [.int n] => if rgOk n = true then some (q.1, rgItems 0 n) else none
  | _ => none
theorem rgOk_iff {i : Int} (h : rgOk i = true) : -(2 ^ 62) ≤ i ∧ i < 2 ^ 62 := by
  unfold rgOk at h
  rw [Bool.and_eq_true, decide_eq_true_iff, decide_eq_true_iff] at h
  exact h
theorem xi_r1 {a : Expr} {h : AV} {ms : List (Option (Nat × Bool))} {p pos : Pos} (hg : Gl X "range") (hm : X.mg "range" = none) (ha : XA X ms [a] h) (hs : starEach [a] X.env = [(false, eval a X.env)] := by rfl) : XI X tg (.Call (.Name "range" p) [a] [] pos) (iR1 h) :=
  pi_any fun σ H R0 ⟨g, F, env, stk, env', ds, R, e, k⟩ => by
    obtain ⟨⟨e1, rs⟩, q1, e⟩ := bind_some e
    refine ⟨_, pi_range1 hg hm ha hs, g, F, env, stk, e1, rs, R, q1, fun vs H1 F1 hl _ R1 => ?_⟩
    split at e
    · rename_i n hn
      split at e
      · rename_i hb
        cases e
        have hb := rgOk_iff hb
        obtain ⟨F2, s, R2⟩ := Rel.fzs (pre := []) hl R1
        have rp : Reps X.K F2 (fzs rs) vs := Rel.reps (by rw [fzs_length]; exact hl) R2
        have hn : fzs rs = [.int n] := hn
        rw [hn] at rp
        obtain ⟨v, r, rfl, rv, rr⟩ := rp
        cases rr
        refine ⟨n, by rw [show v = .int n from rv], hb.1, hb.2, k _ H1 F2 [] ?_ (Rel.drop (l := ((fzs rs).map T.sh).zip _) R2 (.refl _))⟩
        have := itr_ok (K := X.K) 0 n.toNat
        unfold rgItems
        rw [Int.sub_zero]
        exact this
      · cases e
    · cases e
end
def val (σ : L2.St) (i : Nat) : V := match σ[i]? with
  | some (some v) => v
  | _ => .non
section
variable {K : PySem.W.Frag} {g : Gh} {F : Hp} {env : Ev} {σ : L2.St} {H : Hp} {stk : List (T × V)}
theorem Rel.forget {i : Nat} (R : Rel K g F env σ H stk) (hp : ¬ ∃ p, g.P[i]? = some (some p)) : Rel K g F (env.set i .un) (σ.set i none) H stk := by
  cases hi : env[i]? with
  | none =>
    obtain ⟨fp1, fp2, sl, l, nd, fr⟩ := R.own
    have h1 : env.length ≤ i := List.getElem?_eq_none_iff.mp hi
    rw [List.set_eq_of_length_le h1, List.set_eq_of_length_le (by rw [sl.len]; exact h1)]
    exact R
  | some s =>
    obtain ⟨fp1, fp2, sl, l, nd, fr⟩ := R.own
    obtain ⟨x, g1, g2, g3, e1, rfl, _, up⟩ := sl.at hi
    have hi' : i < env.length := (List.getElem?_eq_some_iff.mp hi).1
    have small : List.Sublist ((g1 ++ ([] ++ g3)) ++ fp2) ((g1 ++ (g2 ++ g3)) ++ fp2) :=
      List.Sublist.append_right (List.Sublist.append_left (List.sublist_append_right g2 g3) g1) _
    refine { R with own := ⟨g1 ++ ([] ++ g3), fp2, up .un none [] F H (.refl F) (fun _ _ => rfl) rfl, l, nd.sublist small, fun a ha => fr a (small.subset ha)⟩, par := fun j p hj => ?_, iow := fun j ts hl hj => ?_ }
    · have ne : i ≠ j := fun e => by subst e; exact hp ⟨p, hj⟩
      rw [List.getElem?_set_ne ne, List.getElem?_set_ne ne]
      exact R.par j p hj
    · by_cases e : i = j
      · subst e
        rw [List.getElem?_set_self hi'] at hj
        cases hj
      · rw [List.getElem?_set_ne e] at hj
        exact R.iow j ts hl hj
end
section
variable {X : Cx}
end
end Bv
namespace Bv
open PySem PySem.Spec PyProof.Rows L2
section
variable {K : PySem.W.Frag}
theorem at2_pure {r : R2} {d1 d2 d : D} (v : V) (hd : ∀ F, Rep K F d v) (h : ∀ {F H : Hp} {x y : V} {Q : VK}, Sub F H → Rep K F d1 x → Rep K F d2 y → Q v H → r x y H Q) : At2 K r d1 d2 (.sh d) :=
  fun _ _ _ _ _ _ _ _ _ R h1 h2 k => h R.sub h1 h2 (k _ _ _ (R.pop.pop.push (hd _)))
theorem atN_pure {r : List V → Hp → VK → Prop} {ds : List D} {d : D} (v : V) (hd : ∀ F, Rep K F d v) (h : ∀ {F H : Hp} {xs : List V} {Q : VK}, Sub F H → Reps K F ds xs → Q v H → r xs H Q) : AtN K r ds (.sh d) :=
  fun _ _ _ _ _ _ _ _ R h1 k => h R.sub h1 (k _ _ _ (R.push (hd _)))
theorem at2_int {C : Int → Int → Prop} {gv : Int → Int → V} {i j : Int} {d : D} (hc : C i j) (hd : ∀ F, Rep K F d (gv i j)) : At2 K (rI C gv) (.int i) (.int j) (.sh d) :=
  at2_pure _ hd fun _ h1 h2 q => by exact ⟨i, j, h1, h2, hc, q⟩
theorem at2_int0 {gv : Int → Int → V} {i j : Int} {d : D} (hd : ∀ F, Rep K F d (gv i j)) : At2 K (rI0 gv) (.int i) (.int j) (.sh d) :=
  at2_pure _ hd fun _ h1 h2 q => by exact ⟨i, j, h1, h2, q⟩
theorem Reps.sh1 {K : PySem.W.Frag} {F : Hp} {d : D} {xs : List V} (h : Reps K F [d] xs) : ∃ v, xs = [v] ∧ Rep K F d v := by
  obtain ⟨v, r, rfl, h1, h2⟩ := h
  cases h2
  exact ⟨v, rfl, h1⟩
theorem Reps.sh2 {K : PySem.W.Frag} {F : Hp} {d e : D} {xs : List V} (h : Reps K F [d, e] xs) : ∃ v w, xs = [v, w] ∧ Rep K F d v ∧ Rep K F e w := by
  obtain ⟨v, r, rfl, h1, h2⟩ := h
  obtain ⟨w, rfl, h3⟩ := Reps.sh1 h2
  exact ⟨v, w, rfl, h1, h3⟩
theorem Rel.newOwSh {g : Gh} {F : Hp} {env : Ev} {σ : L2.St} {H : Hp} {stk : List (T × V)} {p : Addr} {ds : List D} {xs : List V} (R : Rel K g F env σ H stk) (r : Reps K F ds xs) (hp : H p = none) : Rel K g F env σ (upd H p (.lst xs)) ((.ow false (ds.map T.sh), .ref p) :: stk) :=
  Rel.newOw (R.pushs r) (by rw [List.length_map, r.length]) hp
end
def mulOk (i j : Int) : Bool := decide (i.natAbs.log2 + j.natAbs.log2 < 100000000)
abbrev MulC (i j : Int) : Prop := i.natAbs.log2 + j.natAbs.log2 < 100000000
theorem MulC.ok {i j : Int} (h : MulC i j) : IntMulOk i j := by
  have b : ∀ x : Int, Builtin.Int.intBits x ≤ x.natAbs.log2 + 1 := fun x => by
    unfold Builtin.Int.intBits
    split <;> omega
  have h1 := b i
  have h2 := b j
  have h3 : i.natAbs.log2 + j.natAbs.log2 < 100000000 := h
  have e : bitsLine = 134217728 := by decide
  unfold IntMulOk
  intro z
  rw [Bool.and_eq_true] at z
  have z2 := z.2
  unfold Builtin.Int.intTooBig at z2
  have z3 := of_decide_eq_true z2
  rw [e] at z3
  omega
section
variable {X : Cx}
theorem op_mulB : OpR X (binaryOp .Mult) (rI MulC fun i j => .int (i * j)) := opI fun _ _ _ _ _ _ _ hc q => mul_int q hc.ok
end
def pAdd : D → D → Option T
  | .int i, .int j => some (.sh (.int (i + j)))
  | .str a, .str b => if a.length + b.length ≤ sizeLine then some (.sh (.str (a ++ b))) else none
  | .lst a, .lst b => if a.length + b.length ≤ sizeLine then some (.ow false ((a ++ b).map T.sh)) else none
  | .tup a, .tup b => if a.length + b.length ≤ sizeLine then some (.sh (.tup (a ++ b))) else none
  | _, _ => none
def pSub : D → D → Option T
  | .int i, .int j => some (.sh (.int (i - j)))
  | _, _ => none
def pMul : D → D → Option T
  | .int i, .int j => if mulOk i j = true then some (.sh (.int (i * j))) else none
  | _, _ => none
def pMod : D → D → Option T
  | .int i, .int j => if j ≠ 0 then some (.sh (.int (i.fmod j))) else none
  | _, _ => none
def pPow : D → D → Option T
  | .int i, .int j => if 0 ≤ j ∧ j ≤ 1000000 ∧ i.natAbs < 2 ^ 64 then some (.sh (.int (i ^ j.toNat))) else none
  | _, _ => none
section
variable {X : Cx}
theorem o_add : Op2 X (binaryOp .Add) pAdd := fun d1 d2 t e => by
  unfold pAdd at e
  split at e
  · cases e; exact ⟨_, op_add, at2_int0 fun _ => by rfl⟩
  · split at e
    · rename_i hz; cases e
      exact ⟨_, op_add_str, at2_pure _ (fun _ => by rfl) fun _ h1 h2 q => by exact ⟨_, _, h1, h2, hz, q⟩⟩
    · cases e
  · split at e
    · rename_i a b hz; cases e
      refine ⟨_, op_cat, fun g F env σ H stk x y Q R h1 h2 k => ?_⟩
      obtain ⟨p, xs, rfl, q1, r1⟩ := h1
      obtain ⟨p', ys, rfl, q2, r2⟩ := h2
      refine ⟨p, p', xs, ys, rfl, rfl, R.sub _ _ q1, R.sub _ _ q2, by rw [r1.length, r2.length]; exact hz, fun l hl => k _ _ F ?_⟩
      exact (R.pop.pop).newOwSh (r1.append r2) hl
    · cases e
  · split at e
    · rename_i a b hz; cases e
      refine ⟨_, op_catA, fun g F env σ H stk x y Q R h1 h2 k => ?_⟩
      obtain ⟨p, xs, rfl, q1, r1⟩ := h1
      obtain ⟨p', ys, rfl, q2, r2⟩ := h2
      refine ⟨p, p', xs, ys, rfl, rfl, SqT.up R.sub q1, SqT.up R.sub q2, by rw [r1.length, r2.length]; exact hz, fun e0 => ?_, fun _ e0 => ?_, fun _ _ l hl => ?_⟩
      · subst e0
        exact k _ _ F (R.pop.pop.push ⟨p', ys, rfl, q2, r1.append r2⟩)
      · subst e0
        have r3 := r1.append r2
        rw [List.append_nil] at r3
        exact k _ _ F (R.pop.pop.push ⟨p, xs, rfl, q1, r3⟩)
      · obtain ⟨F', _, R'⟩ := R.pop.pop.newTup hl (r1.append r2)
        exact k _ _ F' R'
    · cases e
  · cases e
theorem o_sub : Op2 X (binaryOp .Sub) pSub := fun d1 d2 t e => by
  unfold pSub at e
  split at e
  · cases e; exact ⟨_, op_sub, at2_int0 fun _ => by rfl⟩
  · cases e
theorem o_mul : Op2 X (binaryOp .Mult) pMul := fun d1 d2 t e => by
  unfold pMul at e
  split at e
  · split at e
    · rename_i h; cases e
      exact ⟨_, op_mulB, at2_int (C := MulC) (by exact of_decide_eq_true h) fun _ => by rfl⟩
    · cases e
  · cases e
theorem o_mod : Op2 X (binaryOp .Mod) pMod := fun d1 d2 t e => by
  unfold pMod at e
  split at e
  · split at e
    · rename_i h; cases e
      exact ⟨_, op_modN, at2_int (C := fun _ j => j ≠ 0) h fun _ => by rfl⟩
    · cases e
  · cases e
theorem o_pow : Op2 X (binaryOp .Pow) pPow := fun d1 d2 t e => by
  unfold pPow at e
  split at e
  · split at e
    · rename_i h; cases e
      exact ⟨_, op_pow, at2_int (C := CPow) h fun _ => by rfl⟩
    · cases e
  · cases e
end
def pLt : D → D → Option T
  | .int i, .int j => some (.sh (.bl (decide (i < j))))
  | .str a, .str b => some (.sh (.bl (decide (a.cps.toList < b.cps.toList))))
  | _, _ => none
def pGt : D → D → Option T
  | .int i, .int j => some (.sh (.bl (decide (j < i))))
  | _, _ => none
mutual
def toPy : D → Option PyData
  | .non => some .none
  | .bl b => some (.bool b)
  | .int i => some (.int i)
  | .str s => some (.str s)
  | .fn _ => none
  | .ty _ => none
  | .exn _ => none
  | .scr _ => none
  | .cn _ _ => none
  | .tup ds => match toPys ds with
    | some ps => some (.tuple ps)
    | none => none
  | .lst ds => match toPys ds with
    | some ps => some (.list ps)
    | none => none
def toPys : List D → Option (List PyData)
  | [] => some []
  | d :: ds => match toPy d, toPys ds with
    | some p, some ps => some (p :: ps)
    | _, _ => none
end
mutual
theorem dp_of {K : PySem.W.Frag} {F H : Hp} (s : Sub F H) : ∀ {d : D} {v : V} {p : PyData}, Rep K F d v → toPy d = some p → Dp K H v p
  | .non, v, p, h, e => by cases h; cases e; exact .non
  | .bl b, v, p, h, e => by cases h; cases e; exact .bl b
  | .int i, v, p, h, e => by cases h; cases e; exact .int i
  | .str z, v, p, h, e => by cases h; cases e; exact .str z
  | .fn a, v, p, h, e => by cases e
  | .exn a, v, p, h, e => by cases e
  | .ty a, v, p, h, e => by cases e
  | .scr a, v, p, h, e => by cases e
  | .cn _ _, v, p, h, e => by cases e
  | .tup ds, v, p, h, e => by
    obtain ⟨a, xs, rfl, q, r⟩ := h
    unfold toPy at e
    split at e
    · rename_i ps hp
      cases e
      exact .tup (SqT.up s q) (dps_of s r hp)
    · cases e
  | .lst ds, v, p, h, e => by
    obtain ⟨a, xs, rfl, q, r⟩ := h
    unfold toPy at e
    split at e
    · rename_i ps hp
      cases e
      exact .lst (.inl (.inl (s _ _ q))) (dps_of s r hp)
    · cases e
theorem dps_of {K : PySem.W.Frag} {F H : Hp} (s : Sub F H) : ∀ {ds : List D} {vs : List V} {ps : List PyData}, Reps K F ds vs → toPys ds = some ps → DpAll K H vs ps
  | [], vs, ps, h, e => by cases h; cases e; exact .nil
  | d :: ds, vs, ps, h, e => by
    obtain ⟨v, r, rfl, h1, h2⟩ := h
    unfold toPys at e
    split at e
    · rename_i p ps' h3 h4
      cases e
      exact .cons (dp_of s h1 h3) (dps_of s h2 h4)
    · cases e
end
def pEq (neg : Bool) : D → D → Option T := fun a b => match toPy a, toPy b with
  | some p, some q => if SeqAt.shaped p = true ∧ SeqAt.shaped q = true then some (.sh (.bl (if neg then !PyData.eqv p q else PyData.eqv p q))) else none
  | _, _ => none
def toV : D → Option V
  | .non => some .non
  | .bl b => some (.bl b)
  | .int i => some (.int i)
  | .str s => some (.str s)
  | _ => none
theorem toV_ok {K : PySem.W.Frag} {F : Hp} : ∀ {d : D} {v w : V}, Rep K F d v → toV d = some w → v = w ∧ flatV w = true
  | .non, v, w, h, e => by cases h; cases e; exact ⟨rfl, rfl⟩
  | .bl b, v, w, h, e => by cases h; cases e; exact ⟨rfl, rfl⟩
  | .int i, v, w, h, e => by cases h; cases e; exact ⟨rfl, rfl⟩
  | .str z, v, w, h, e => by cases h; cases e; exact ⟨rfl, rfl⟩
  | .fn a, v, w, h, e => by cases e
  | .exn a, v, w, h, e => by cases e
  | .ty a, v, w, h, e => by cases e
  | .scr a, v, w, h, e => by cases e
  | .tup ds, v, w, h, e => by cases e
  | .lst ds, v, w, h, e => by cases e
  | .cn k ds, v, w, h, e => by cases e
def toVs : List D → Option (List V)
  | [] => some []
  | d :: ds => match toV d, toVs ds with
    | some v, some vs => some (v :: vs)
    | _, _ => none
theorem toVs_ok {K : PySem.W.Frag} {F : Hp} : ∀ {ds : List D} {vs ws : List V}, Reps K F ds vs → toVs ds = some ws → vs = ws ∧ ws.all flatV = true
  | [], vs, ws, h, e => by cases h; cases e; exact ⟨rfl, rfl⟩
  | d :: ds, vs, ws, h, e => by
    obtain ⟨v, r, rfl, h1, h2⟩ := h
    unfold toVs at e
    split at e
    · rename_i w ws' h3 h4
      cases e
      obtain ⟨rfl, f1⟩ := toV_ok h1 h3
      obtain ⟨rfl, f2⟩ := toVs_ok h2 h4
      exact ⟨rfl, by rw [List.all_cons, f1, f2]; rfl⟩
    · cases e
def pIn (neg : Bool) : D → D → Option T
  | .str c, .str z => some (.sh (.bl (if neg then !(!(Builtin.Str.occurrences z c 0 z.length 1).isEmpty) else !(Builtin.Str.occurrences z c 0 z.length 1).isEmpty)))
  | d, .lst ds => match toV d, toVs ds with
    | some v, some vs => some (.sh (.bl (if neg then !inV v vs else inV v vs)))
    | _, _ => none
  | d, .tup ds => match toV d, toVs ds with
    | some v, some vs => some (.sh (.bl (if neg then !inV v vs else inV v vs)))
    | _, _ => none
  | _, _ => none
section
variable {X : Cx}
theorem o_lt : Op2 X (compareOp .Lt) pLt := fun d1 d2 t e => by
  unfold pLt at e
  split at e
  · cases e; exact ⟨_, op_lt, at2_int0 fun _ => by rfl⟩
  · cases e; exact ⟨_, op_lt_str, at2_pure _ (fun _ => by rfl) fun _ h1 h2 q => by exact ⟨_, _, h1, h2, q⟩⟩
  · cases e
theorem o_gt : Op2 X (compareOp .Gt) pGt := fun d1 d2 t e => by
  unfold pGt at e
  split at e
  · cases e; exact ⟨_, op_gt, at2_int0 fun _ => by rfl⟩
  · cases e
theorem o_eq (hu : X.A.units + 64 < cLine) : Op2 X (compareOp .Eq) (pEq false) := fun d1 d2 t e => by
  unfold pEq at e
  split at e
  · split at e
    · rename_i h1 h2 hs; cases e
      exact ⟨_, op_eqD hu, at2_pure _ (fun _ => by rfl) fun s q1 q2 q => by exact ⟨_, _, dp_of s q1 h1, dp_of s q2 h2, hs.1, hs.2, q⟩⟩
    · cases e
  · cases e
theorem o_ne (hu : X.A.units + 64 < cLine) : Op2 X (compareOp .NotEq) (pEq true) := fun d1 d2 t e => by
  unfold pEq at e
  split at e
  · split at e
    · rename_i h1 h2 hs; cases e
      exact ⟨_, op_neD hu, at2_pure _ (fun _ => by rfl) fun s q1 q2 q => by exact ⟨_, _, dp_of s q1 h1, dp_of s q2 h2, hs.1, hs.2, q⟩⟩
    · cases e
  · cases e
theorem o_in : Op2 X (compareOp .In) (pIn false) := fun d1 d2 t e => by
  unfold pIn at e
  split at e
  · cases e; exact ⟨_, op_in_str, at2_pure _ (fun _ => by rfl) fun _ h1 h2 q => by exact ⟨_, _, h1, h2, q⟩⟩
  · split at e
    · rename_i v vs hv hvs; cases e
      refine ⟨_, op_in_seq, at2_pure _ (fun _ => by rfl) fun s h1 h2 q => ?_⟩
      obtain ⟨p, xs, rfl, q1, r1⟩ := h2
      obtain ⟨rfl, f1⟩ := toV_ok h1 hv
      obtain ⟨rfl, f2⟩ := toVs_ok r1 hvs
      exact ⟨p, xs, rfl, .inl (.inl (.inl (s _ _ q1))), f1, f2, q⟩
    · cases e
  · split at e
    · rename_i v vs hv hvs; cases e
      refine ⟨_, op_in_seq, at2_pure _ (fun _ => by rfl) fun s h1 h2 q => ?_⟩
      obtain ⟨p, xs, rfl, q1, r1⟩ := h2
      obtain ⟨rfl, f1⟩ := toV_ok h1 hv
      obtain ⟨rfl, f2⟩ := toVs_ok r1 hvs
      exact ⟨p, xs, rfl, .inr (SqT.up s q1), f1, f2, q⟩
    · cases e
  · cases e
end
def pIx : D → D → Option T
  | .lst ds, .int i => (atI ds i).bind fun d => some (.sh d)
  | .tup ds, .int i => (atI ds i).bind fun d => some (.sh d)
  | .str z, .int i => if z.length ≤ sizeLine then (atI z.cps.toList i).bind fun c => some (.sh (.str ⟨#[c]⟩)) else none
  | .scr ns, .int i => (atI ns i).bind fun n => some (.sh (.int n))
  | _, _ => none
theorem Reps.atI {K : PySem.W.Frag} {F : Hp} {ds : List D} {xs : List V} {i : Int} {d : D} (r : Reps K F ds xs) (h : L2.atI ds i = some d) : ∃ v, L2.atI xs i = some v ∧ Rep K F d v := by
  unfold L2.atI at h ⊢
  rw [r.length]
  obtain ⟨j, h1, h2⟩ := bind_some h
  obtain ⟨v, q1, q2⟩ := r.get h2
  exact ⟨v, by rw [h1]; exact q1, q2⟩
theorem atI_map {α β : Type} {f : α → β} {xs : List α} {i : Int} : L2.atI (xs.map f) i = (L2.atI xs i).map f := by
  unfold L2.atI
  rw [List.length_map]
  cases ixN xs.length i with
  | none => rfl
  | some j => simp
section
variable {X : Cx}
theorem o_ix : Ix2 X pIx := fun d1 d2 t e => by
  unfold pIx at e
  split at e
  · obtain ⟨d, h, e⟩ := bind_some e
    cases e
    refine ⟨_, ix_list, fun g F env σ H stk x y Q R h1 h2 k => ?_⟩
    obtain ⟨p, xs, rfl, q1, r1⟩ := h1
    obtain ⟨v, hv, rv⟩ := r1.atI h
    exact ⟨p, xs, _, v, rfl, h2, .inl (.inl (R.sub _ _ q1)), hv, k _ _ _ (R.pop.pop.push rv)⟩
  · obtain ⟨d, h, e⟩ := bind_some e
    cases e
    refine ⟨_, ix_tup, fun g F env σ H stk x y Q R h1 h2 k => ?_⟩
    obtain ⟨p, xs, rfl, q1, r1⟩ := h1
    obtain ⟨v, hv, rv⟩ := r1.atI h
    exact ⟨p, xs, _, v, rfl, h2, SqT.up R.sub q1, hv, k _ _ _ (R.pop.pop.push rv)⟩
  · split at e
    · rename_i hz
      obtain ⟨c, h, e⟩ := bind_some e
      cases e
      exact ⟨_, ix_str, at2_pure _ (fun _ => by rfl) fun _ h1 h2 q => by exact ⟨_, _, c, h1, h2, hz, h, q⟩⟩
    · cases e
  · obtain ⟨n, h, e⟩ := bind_some e
    cases e
    refine ⟨_, ix_list, fun g F env σ H stk x y Q R h1 h2 k => ?_⟩
    obtain ⟨p, rfl, q1⟩ := h1
    exact ⟨p, _, _, .int n, rfl, h2, SqL.up R.sub q1, by rw [atI_map, h]; rfl, k _ _ _ (R.pop.pop.push rfl)⟩
  · cases e
end
abbrev PV := Ev → Option (Ev × Option Int)
def oSome (f : EV) : PV := fun env => (f env).bind fun q => match fz q.2 with
  | .int i => some (q.1, some i)
  | _ => none
def xO (K : PySem.W.Frag) (f : PV) : TO := fun σ H Q => ∃ g F env stk env' r, Rel K g F env σ H stk ∧ f env = some (env', r) ∧ ∀ H' F', Rel K g F' env' σ H' stk → Q r H'
def cutD (xs : List D) (lo hi : Option Int) : List D := (xs.drop (HT.sIx xs.length 0 lo)).take (HT.sIx xs.length xs.length hi - HT.sIx xs.length 0 lo)
theorem Reps.cut {K : PySem.W.Frag} {F : Hp} {ds : List D} {xs : List V} {lo hi : Option Int} (r : Reps K F ds xs) : Reps K F (cutD ds lo hi) (cutV xs lo hi) := by
  unfold cutD cutV
  rw [r.length]
  exact (r.drop _).take _
def pSl : D → Option Int → Option Int → Option T
  | .lst ds, lo, hi => some (.ow false ((cutD ds lo hi).map T.sh))
  | .scr ns, lo, hi => some (.ow false ((cutD (ns.map D.int) lo hi).map T.sh))
  | .str z, lo, hi => if z.length ≤ sizeLine then some (.sh (.str (cutS z lo hi))) else none
  | .tup ds, lo, hi => some (.sh (.tup (cutD ds lo hi)))
  | _, _, _ => none
theorem cutV_whole {xs : List V} {lo hi : Option Int} (h : HT.sIx xs.length 0 lo = 0 ∧ HT.sIx xs.length xs.length hi = xs.length) : cutV xs lo hi = xs := by
  unfold cutV
  rw [h.1, h.2]
  simp
def AtS (K : PySem.W.Frag) (r : V → Option Int → Option Int → Hp → VK → Prop) (d : D) (lo hi : Option Int) (t : T) : Prop := ∀ (g : Gh) (F : Hp) (env : Ev) (σ : L2.St) (H : Hp) (stk : List (T × V)) (x : V) (Q : VK),
  Rel K g F env σ H ((.sh d, x) :: stk) → Rep K F d x → (∀ v H' F', Rel K g F' env σ H' ((t, v) :: stk) → Q v H') → r x lo hi H Q
def Sl1 (X : Cx) (p : D → Option Int → Option Int → Option T) : Prop := ∀ d lo hi t, p d lo hi = some t → ∃ r, SlR X r ∧ AtS X.K r d lo hi t
def eSl (p : D → Option Int → Option Int → Option T) (f : EV) (l h : PV) : EV := fun env => (f env).bind fun q => (l q.1).bind fun s => (h s.1).bind fun u => (p (fz q.2) s.2 u.2).bind fun t => some (u.1, t)
section
variable {X : Cx} {pos p2 : Pos} {e : Expr} {f : EV} {lo hi : Option Expr} {l h : PV}
theorem xo_some (he : XE X e f) : PO X (some e) (xO X.K (oSome f)) := ⟨fun pins s σ H Q I ⟨g, F, env, stk, env', r, R, e, k⟩ => by
  obtain ⟨⟨e1, r1⟩, q1, e⟩ := bind_some e
  refine (po_some he).run pins s σ H Q I ⟨g, F, env, stk, e1, r1, R, q1, fun v H1 F1 R1 => ?_⟩
  split at e
  · rename_i i hi
    cases e
    obtain ⟨F2, s2, R2⟩ := R1.fz
    have hi : fz r1 = .int i := hi
    rw [hi] at R2
    exact ⟨i, R2.top, k _ _ R2.pop⟩
  · cases e⟩
theorem x_sl {p : D → Option Int → Option Int → Option T} (hp : Sl1 X p) (he : XE X e f) (hl : PO X lo (xO X.K l)) (hh : PO X hi (xO X.K h)) : XE X (.Subscript e (.Slice lo hi none p2) pos) (eSl p f l h) :=
  pe_any fun σ H Q ⟨g, F, env, stk, env', t, R, e, k⟩ => by
    obtain ⟨⟨e1, r1⟩, q1, e⟩ := bind_some e
    obtain ⟨⟨e2, o2⟩, q2, e⟩ := bind_some e
    obtain ⟨⟨e3, o3⟩, q3, e⟩ := bind_some e
    obtain ⟨t', q4, e⟩ := bind_some e
    cases e
    obtain ⟨r, hr, ok⟩ := hp _ _ _ _ q4
    refine ⟨_, pe_slice hr he hl hh, g, F, env, stk, e1, r1, R, q1, fun v H1 F1 R1 => ⟨g, F1, e1, _, e2, o2, R1, q2, fun H2 F2 R2 => ⟨g, F2, e2, _, e3, o3, R2, q3, fun H3 F3 R3 => ?_⟩⟩⟩
    obtain ⟨F4, s, R4⟩ := R3.fz
    exact ok _ _ _ _ _ _ _ _ R4 R4.top k
theorem o_sl : Sl1 X pSl := fun d lo hi t e => by
  unfold pSl at e
  split at e
  · cases e
    refine ⟨_, sl_list, fun g F env σ H stk x Q R h1 k => ?_⟩
    obtain ⟨p, xs, rfl, q1, r1⟩ := h1
    exact ⟨p, xs, rfl, .inl (.inl (R.sub _ _ q1)), fun l hl => k _ _ _ (R.pop.newOwSh r1.cut hl)⟩
  · cases e
    refine ⟨_, sl_list, fun g F env σ H stk x Q R h1 k => ?_⟩
    obtain ⟨p, rfl, q1⟩ := h1
    exact ⟨p, _, rfl, SqL.up R.sub q1, fun l hl => k _ _ _ (R.pop.newOwSh (Reps.ofInts _).cut hl)⟩
  · split at e
    · rename_i hz
      cases e
      exact ⟨_, sl_str, fun g F env σ H stk x Q R h1 k => ⟨_, h1, hz, k _ _ _ (R.pop.push rfl)⟩⟩
    · cases e
  · cases e
    refine ⟨_, sl_tupA, fun g F env σ H stk x Q R h1 k => ?_⟩
    obtain ⟨p, xs, rfl, q1, r1⟩ := h1
    refine ⟨p, xs, rfl, SqT.up R.sub q1, fun hw => ?_, fun _ l hl => ?_⟩
    · have r2 : Reps X.K F (cutD _ lo hi) (cutV xs lo hi) := r1.cut
      rw [cutV_whole hw] at r2
      exact k _ _ F (R.pop.push ⟨p, xs, rfl, q1, r2⟩)
    · obtain ⟨F', _, R'⟩ := R.pop.newTup hl r1.cut
      exact k _ _ F' R'
  · cases e
end
end Bv
namespace Bv
open PySem PySem.Spec PyProof.Rows L2
def pLen : List D → Option T
  | [.lst ds] => some (.sh (.int ds.length))
  | [.tup ds] => some (.sh (.int ds.length))
  | [.scr ns] => some (.sh (.int ns.length))
  | [.str z] => if z.length ≤ sizeLine then some (.sh (.int z.length)) else none
  | _ => none
def pAbs : List D → Option T
  | [.int i] => some (.sh (.int (if i < 0 then -i else i)))
  | _ => none
def pInt : List D → Option T
  | [.int i] => some (.sh (.int i))
  | [.bl b] => some (.sh (.int (if b then 1 else 0)))
  | [.str s] => if s.length ≤ 640 then (PySem.intText? s).bind fun n => some (.sh (.int n)) else none
  | _ => none
def pStr : List D → Option T
  | [.int i] => if i.natAbs.log2 < 1920 then some (.sh (.str (toString i))) else none
  | _ => none
def tyD : D → Option String
  | .non => some "NoneType"
  | .bl _ => some "bool"
  | .int _ => some "int"
  | .str _ => some "str"
  | .tup _ => some "tuple"
  | .lst _ => some "list"
  | .scr _ => some "list"
  | _ => none
def pIsi : List D → Option T
  | [d, .ty n] => (tyD d).bind fun a => (kitB a n).bind fun b => some (.sh (.bl b))
  | _ => none
theorem sqL_ty {K : PySem.W.Frag} {H : Hp} {a : Addr} {xs : List V} (h : SqL K H a xs) : TyX K H (.ref a) (.type "list") := by
  rcases h with (h | ⟨o, h⟩) | ⟨o, its, n, hk, hc, _⟩
  · exact .base (.lst h)
  · exact .base (.frz h)
  · exact .kList hk hc
theorem sqT_ty {K : PySem.W.Frag} {H : Hp} {a : Addr} {xs : List V} (h : SqT K H a xs) : TyX K H (.ref a) (.type "tuple") := by
  rcases h with (h | ⟨o, h⟩) | ⟨o, its, n, hk, hc, _⟩
  · exact .base (.tup h)
  · exact .fTuple h
  · exact .kTuple hk hc
theorem tyX_of {K : PySem.W.Frag} {F H : Hp} (s : Sub F H) : ∀ {d : D} {v : V} {n : String}, Rep K F d v → tyD d = some n → TyX K H v (.type n)
  | .non, v, n, h, e => by cases h; cases e; exact .base .non
  | .bl b, v, n, h, e => by cases h; cases e; exact .base (.bl b)
  | .int i, v, n, h, e => by cases h; cases e; exact .base (.int i)
  | .str z, v, n, h, e => by cases h; cases e; exact .base (.str z)
  | .fn a, v, n, h, e => by cases e
  | .exn a, v, n, h, e => by cases e
  | .ty a, v, n, h, e => by cases e
  | .scr ns, v, n, h, e => by
    obtain ⟨a, rfl, q⟩ := h
    cases e
    exact sqL_ty (SqL.up s q)
  | .tup ds, v, n, h, e => by
    obtain ⟨a, xs, rfl, q, _⟩ := h
    cases e
    exact sqT_ty (SqT.up s q)
  | .lst ds, v, n, h, e => by
    obtain ⟨a, xs, rfl, q, _⟩ := h
    cases e
    exact .base (.lst (s _ _ q))
  | .cn k ds, v, n, h, e => by cases e
section
variable {X : Cx}
theorem c_len : CallN X (.builtin "len") pLen := fun ds t e => by
  unfold pLen at e
  split at e
  · cases e
    refine ⟨_, call_len_seq, atN_pure _ (fun _ => by rfl) fun s h q => ?_⟩
    obtain ⟨v, rfl, p, xs, rfl, q1, r1⟩ := Reps.sh1 h
    exact ⟨p, xs, rfl, .inl (.inl (.inl (s _ _ q1))), by rw [r1.length]; exact q⟩
  · cases e
    refine ⟨_, call_len_seq, atN_pure _ (fun _ => by rfl) fun s h q => ?_⟩
    obtain ⟨v, rfl, p, xs, rfl, q1, r1⟩ := Reps.sh1 h
    exact ⟨p, xs, rfl, .inr (SqT.up s q1), by rw [r1.length]; exact q⟩
  · cases e
    refine ⟨_, call_len_seq, atN_pure _ (fun _ => by rfl) fun s h q => ?_⟩
    obtain ⟨v, rfl, p, rfl, q1⟩ := Reps.sh1 h
    exact ⟨p, _, rfl, .inl (SqL.up s q1), by rw [List.length_map]; exact q⟩
  · split at e
    · rename_i hz; cases e
      refine ⟨_, call_len_str, atN_pure _ (fun _ => by rfl) fun s h q => ?_⟩
      obtain ⟨v, rfl, h1⟩ := Reps.sh1 h
      exact ⟨_, by rw [show v = _ from h1], hz, q⟩
    · cases e
  · cases e
theorem c_abs : CallN X (.builtin "abs") pAbs := fun ds t e => by
  unfold pAbs at e
  split at e
  · cases e
    refine ⟨_, call_abs, atN_pure _ (fun _ => by rfl) fun s h q => ?_⟩
    obtain ⟨v, rfl, h1⟩ := Reps.sh1 h
    exact ⟨_, by rw [show v = _ from h1], q⟩
  · cases e
theorem c_int : CallN X (.type "int") pInt := fun ds t e => by
  unfold pInt at e
  split at e
  · cases e
    refine ⟨_, call_int1, atN_pure _ (fun _ => by rfl) fun s h q => ?_⟩
    obtain ⟨v, rfl, h1⟩ := Reps.sh1 h
    exact .inl ⟨_, by rw [show v = _ from h1], q⟩
  · cases e
    refine ⟨_, call_int1, atN_pure _ (fun _ => by rfl) fun s h q => ?_⟩
    obtain ⟨v, rfl, h1⟩ := Reps.sh1 h
    exact .inr ⟨_, by rw [show v = _ from h1], q⟩
  · split at e
    · rename_i hz
      obtain ⟨n, hn, e⟩ := bind_some e
      cases e
      refine ⟨_, call_int_str, atN_pure _ (fun _ => by rfl) fun s h q => ?_⟩
      obtain ⟨v, rfl, h1⟩ := Reps.sh1 h
      exact ⟨_, n, by rw [show v = _ from h1], hn, hz, q⟩
    · cases e
  · cases e
theorem c_str : CallN X (.type "str") pStr := fun ds t e => by
  unfold pStr at e
  split at e
  · split at e
    · rename_i hz; cases e
      refine ⟨_, call_str_int, atN_pure _ (fun _ => by rfl) fun s h q => ?_⟩
      obtain ⟨v, rfl, h1⟩ := Reps.sh1 h
      exact ⟨_, by rw [show v = _ from h1], hz, q⟩
    · cases e
  · cases e
theorem c_isi : CallN X (.builtin "isinstance") pIsi := fun ds t e => by
  unfold pIsi at e
  split at e
  · obtain ⟨a, h1, e⟩ := bind_some e
    obtain ⟨b, h2, e⟩ := bind_some e
    cases e
    refine ⟨_, call_isi, atN_pure _ (fun _ => by rfl) fun s h q => ?_⟩
    obtain ⟨v, w, rfl, r1, r2⟩ := Reps.sh2 h
    cases (show w = _ from r2)
    exact ⟨v, _, .type a, _, b, rfl, .ty _, tyX_of s r1 h1, kit_ty h2, q⟩
  · cases e
theorem x_ty {x : Str} {n : String} {pos : Pos} (hg : Gl X x) (hm : X.mg x = none) (hv : bootBuiltins x = some (.type n)) (hn : x ≠ "__name__" := by decide) (hd : (x == ("__debug__" : Str)) = false := by decide) : XE X (.Name x pos) (eC (.ty n)) :=
  pe_imp (pe_bltn (v := .ty n) hg hm hv rfl hn hd) fun σ H Q ⟨g, F, env, stk, env', r, R, e, k⟩ => by
    cases e; exact k _ _ F (R.push rfl)
end
end Bv
namespace Bv
open PySem PySem.Spec PyProof.Rows L2
section
variable {X : Cx}
end
section
variable {K : PySem.W.Frag} {g : Gh} {F : Hp} {env : Ev} {σ : L2.St} {H : Hp} {stk l : List (T × V)} {i : Nat} {b : Bool} {ts : List T}
theorem Rel.lentOf {t t' : T} (R : Rel K g F env σ H stk) (hi : env[i]? = some (Sl.ok t)) (he : lentT t' = lentT t) : lentT t' = true ↔ ∃ p, g.P[i]? = some (some p) := by
  rw [he]
  constructor
  · intro h
    exact R.iow i t h hi
  · intro ⟨p, hp⟩
    rcases (R.par i p hp).2 with h | ⟨us, hl, h⟩
    · rw [hi] at h; cases h
    · rw [hi] at h
      rw [Sl.ok.inj (Option.some.inj h)]
      exact hl
theorem Rel.lentIff {ts' : List T} (R : Rel K g F env σ H stk) (hi : env[i]? = some (Sl.ok (.ow b ts))) : lentT (.ow b ts') = true ↔ ∃ p, g.P[i]? = some (some p) := R.lentOf hi rfl
theorem Rel.owAt (R : Rel K g F env σ H stk) (hi : env[i]? = some (Sl.ok (.ow b ts))) : ∃ p xs fs, σ[i]? = some (some (V.ref p)) ∧ H p = some (.lst xs) ∧ Owns K F H ts xs fs := by
  obtain ⟨fp1, fp2, sl, l, nd, fr⟩ := R.own
  obtain ⟨x, g1, g2, g3, e1, rfl, ok, _⟩ := sl.at hi
  obtain ⟨v, rfl, p, xs, fs, rfl, hp, rfl, os⟩ := ok
  exact ⟨p, xs, fs, e1, hp, os⟩
theorem Rel.mutAt (R : Rel K g F env σ H (l ++ stk)) (hi : env[i]? = some (Sl.ok (.ow b ts))) : ∃ p xs, σ[i]? = some (some (V.ref p)) ∧ H p = some (.lst xs) ∧ xs.length = ts.length ∧
    ∀ ts' xs', (∀ fs fl, Owns K F H ts xs fs → Live K F H l fl → ∃ fs', List.Sublist fs' (fs ++ fl) ∧ Owns K F H ts' xs' fs') → Rel K g F (env.set i (.ok (.ow b ts'))) σ (upd H p (.lst xs')) stk := by
  obtain ⟨v, hv, R1⟩ := R.move (s' := .mv) hi (.inl rfl)
  obtain ⟨p, xs, rfl, hp, hl, ch⟩ := R1.change (ts' := [])
  refine ⟨p, xs, hv, hp, hl, fun ts' xs' hre => ?_⟩
  obtain ⟨p2, xs2, e2, hp2, _, ch2⟩ := R1.change (ts' := ts')
  cases e2
  rw [hp] at hp2
  cases hp2
  have R2 := ch2 xs' hre
  have hi' : i < env.length := (List.getElem?_eq_some_iff.mp hi).1
  have R3 := R2.back (i := i) (s := .mv) (List.getElem?_set_self hi') (.inl rfl) hv (R.lentIff hi)
  rw [List.set_set] at R3
  exact R3
end
def isOw (env : Ev) (i : Nat) : Bool := match env[i]? with
  | some (.ok (.ow _ _)) => true
  | _ => false
theorem isOw_some {env : Ev} {i : Nat} (h : isOw env i = true) : ∃ b ts, env[i]? = some (Sl.ok (.ow b ts)) := by
  unfold isOw at h
  split at h
  · rename_i b ts e; exact ⟨b, ts, e⟩
  · cases h
theorem Owns.get {K : PySem.W.Frag} {F H : Hp} : ∀ {ts : List T} {xs : List V} {fp : List Addr} {j : Nat} {d : D}, Owns K F H ts xs fp → ts[j]? = some (.sh d) → ∃ v, xs[j]? = some v ∧ Rep K F d v := fun {ts xs fp j d} h e => by
  obtain ⟨v, f1, f2, f3, h1, _, o, _⟩ := h.at e
  exact ⟨v, h1, o.1⟩
def eIxV (i : Nat) (f : EV) : EV := fun env => if isOw env i = true then (f env).bind fun q => match q.1[i]?, fz q.2 with
    | some (.ok (.ow _ ts)), .int k => match L2.atI ts k with
      | some (.sh d) => some (q.1, .sh d)
      | _ => none
    | _, _ => none
  else eBin pIx (eV i) f env
def eLenV (i : Nat) : EV := fun env => match env[i]? with
  | some (.ok (.ow _ ts)) => some (env, .sh (.int ts.length))
  | _ => eCB pLen (aV (eV i) aNil) env
def sApp (i : Nat) (f : EV) : SV := fun env => if isOw env i = true then (f env).bind fun q => match q.1[i]? with
    | some (.ok (.ow b ts)) => if ts.length < sizeLine then some (q.1.set i (.ok (.ow b (ts ++ [.sh (fz q.2)]))), .nx) else none
    | _ => none
  else none
section
variable {X : Cx} {pos : Pos}
theorem x_ixV (i : Nat) {x : Str} {px : Pos} {b : Expr} {f : EV} (hb : XE X b f) (hN : X.N[i]? = some x := by rfl) (hv : Vis X.env.scope x := by first | exact Or.inl rfl | exact Or.inr (Or.inl rfl) | exact Or.inr (Or.inr rfl)) (hd : (x == ("__debug__" : Str)) = false := by decide)
    (hcd : (x == ("__classdict__" : Str)) = false := by decide) (hs : PlainIx b := by exact fun _ _ => rfl) : XE X (.Subscript (.Name x px) b pos) (eIxV i f) :=
  pe_any fun σ H Q h0 => by
    obtain ⟨g, F, env, stk, env', t, R, e, k⟩ := h0
    unfold eIxV at e
    split at e
    · rename_i how
      obtain ⟨b0, ts0, hi0⟩ := isOw_some how
      obtain ⟨⟨e1, r1⟩, q1, e⟩ := bind_some e
      refine ⟨_, pe_ix ix_list (pe_var hN hv hd hcd) hb hs, ?_⟩
      obtain ⟨p0, xs0, fs0, hσ, _, _⟩ := R.owAt hi0
      refine ⟨.ref p0, hσ, g, F, env, stk, e1, r1, R, q1, fun w H1 F1 R1 => ?_⟩
      obtain ⟨F2, s2, R2⟩ := R1.fz
      split at e
      · rename_i b1 ts1 k1 hi1 hk1
        split at e
        · rename_i d hat
          cases e
          have hi1 : e1[i]? = some (Sl.ok (.ow b1 ts1)) := hi1
          have hk1 : fz r1 = .int k1 := hk1
          rw [hk1] at R2
          have hw : w = .int k1 := R2.top
          obtain ⟨p, xs, fs, hσ2, hp, os⟩ := R2.owAt hi1
          rw [hσ] at hσ2
          cases hσ2
          have hat2 : L2.atI ts1 k1 = some (.sh d) := hat
          unfold L2.atI at hat2
          obtain ⟨j, hj, hd'⟩ := bind_some hat2
          obtain ⟨v, hv', rv⟩ := os.get hd'
          refine ⟨p0, xs, k1, v, rfl, hw, .inl (.inl hp), ?_, k v H1 F2 (R2.pop.push rv)⟩
          unfold L2.atI
          rw [os.length, hj]
          exact hv'
        · cases e
      · cases e
    · obtain ⟨d1, d2, t', e', kk⟩ := xop_at (K := X.K) (σ := σ) (H := H) (Q := Q) ⟨g, F, env, stk, env', t, R, e, k⟩
      obtain ⟨r, hr, ok⟩ := o_ix (X := X) d1 d2 t' e'
      exact ⟨_, pe_ix hr (x_var i hN hv hd hcd) hb hs, kk r ok⟩
theorem x_lenV (i : Nat) {x : Str} {px pl : Pos} (hg : Gl X "len") (hm : X.mg "len" = none) (hN : X.N[i]? = some x := by rfl) (hv : Vis X.env.scope x := by first | exact Or.inl rfl | exact Or.inr (Or.inl rfl) | exact Or.inr (Or.inr rfl)) (hd : (x == ("__debug__" : Str)) = false := by decide)
    (hcd : (x == ("__classdict__" : Str)) = false := by decide) (hs : starEach [Expr.Name x px] X.env = (false, eval (Expr.Name x px) X.env) :: starEach [] X.env := by rfl) (hpl : (backTo pos (starEach [] X.env)).any (·.1) = false := by rfl) : XE X (.Call (.Name "len" pl) [.Name x px] [] pos) (eLenV i) :=
  pe_any fun σ H Q h0 => by
    obtain ⟨g, F, env, stk, env', t, R, e, k⟩ := h0
    unfold eLenV at e
    split at e
    · rename_i b ts hi
      cases e
      refine ⟨_, pe_callB call_len_seq hg hm PySem.boot_len (pa_cons (pe_var hN hv hd hcd) pa_nil hs) (by decide) (by decide) hs hpl, ?_⟩
      obtain ⟨p, xs, fs, hσ, hp, os⟩ := R.owAt hi
      exact ⟨.ref p, hσ, p, xs, rfl, .inl (.inl (.inl hp)), by rw [os.length]; exact k _ _ F (R.push rfl)⟩
    · exact ⟨_, x_cb c_len hg hm PySem.boot_len (xa_v (x_var i hN hv hd hcd) xa_nil hs) (by decide) (by decide) hs hpl, g, F, env, stk, env', t, R, e, k⟩
theorem ys_app {W : WX} (i : Nat) {x : Str} {px pa pc : Pos} {e : Expr} {f : EV} (ha : XE X e f) (hN : X.N[i]? = some x := by rfl) (hv : Vis X.env.scope x := by first | exact Or.inl rfl | exact Or.inr (Or.inl rfl) | exact Or.inr (Or.inr rfl)) (hd : (x == ("__debug__" : Str)) = false := by decide)
    (hcd : (x == ("__classdict__" : Str)) = false := by decide)
    (hbase : attributeBase (.Name x px) "append" X.env (eval (.Name x px) X.env) = eval (.Name x px) X.env := by rfl)
    (hfew : ((backTo pc (starEach [e] X.env)).all (fun x => !x.1) && (backToKw pc (keywordEach [] X.env)).all (fun x => x.1.isSome)
      && decide ([e].length + ([] : List Keyword).length + (if ([] : List Keyword).isEmpty then 0 else 1) < 30)) = true := by rfl)
    (hline : (pa.endLine == pc.line) = true := by rfl) (hs : starEach [e] X.env = (false, eval e X.env) :: starEach [] X.env := by rfl) (hplain : (backTo pc (starEach [] X.env)).any (·.1) = false := by rfl)
    (hsw : swapsWith (.Call (.Attribute (.Name x px) "append" pa) [e] [] pc) none pos.line X.env = pure false := by rfl) :
    YS X W (.Expr (.Call (.Attribute (.Name x px) "append" pa) [e] [] pc) pos) (sApp i f) :=
  ps_imp (ps_expr (pe_bm PySem.F.plainAttrs_list PySem.F.slot_list_append PySem.F.type_list_append mt_append (pe_var hN hv hd hcd) (xa_v ha xa_nil hs) hbase hfew hline hs hplain) hsw) fun D σ H ⟨g, F, env, stk, env', fl, R, e, k⟩ => by
    unfold sApp at e
    split at e
    · rename_i how
      obtain ⟨b0, ts0, hi0⟩ := isOw_some how
      obtain ⟨⟨e1, r1⟩, q1, e⟩ := bind_some e
      obtain ⟨p0, xs0, fs0, hσ, hp0, _⟩ := R.owAt hi0
      refine ⟨.ref p0, hσ, .inl ⟨rfl, xs0, .inl (.inl hp0)⟩, ?_⟩
      refine ⟨g, F, env, stk, e1, [.sh (fz r1)], R, by unfold aV; rw [q1]; rfl, fun vs H1 F1 hl _ R1 => ?_⟩
      split at e
      · rename_i b ts hi
        split at e
        · rename_i hlen
          cases e
          have hi : e1[i]? = some (Sl.ok (.ow b ts)) := hi
          obtain ⟨w, rfl⟩ : ∃ w, vs = [w] := by
            cases vs with
            | nil => cases hl
            | cons w r => cases r with
              | nil => exact ⟨w, rfl⟩
              | cons a c => simp at hl
          obtain ⟨p, xs, hσ1, hp, hxl, ch⟩ := Rel.mutAt (l := [(.sh (fz r1), w)]) R1 hi
          rw [hσ] at hσ1
          cases hσ1
          refine ⟨p0, xs, w, rfl, rfl, hp, by omega, ?_⟩
          refine k σ _ F1 (ch (ts ++ [.sh (fz r1)]) (xs ++ [w]) fun fs fl os ll => ?_)
          obtain ⟨f1, f2, rfl, o, l2⟩ := ll
          cases (show f2 = [] from l2)
          exact ⟨fs ++ f1, by simp, os.snoc o⟩
        · cases e
      · cases e
    · cases e
theorem Owns.set {K : PySem.W.Frag} {F H : Hp} {ts : List T} {xs : List V} {fs f : List Addr} {j : Nat} {t : T} {v : V} (h : Owns K F H ts xs fs) (hj : j < ts.length) (o : Own K F H t v f) : ∃ fs', List.Sublist fs' (fs ++ f) ∧ Owns K F H (ts.set j t) (xs.set j v) fs' ∨ f ≠ [] := by
  by_cases hf : f = []
  · subst hf
    obtain ⟨w, f1, f2, f3, _, rfl, _, up⟩ := h.at (List.getElem?_eq_getElem hj)
    exact ⟨f1 ++ ([] ++ f3), .inl ⟨by
      rw [List.append_nil]
      exact List.Sublist.append_left (List.sublist_append_right f2 f3) f1, up t v [] F H (.refl F) (fun _ _ => rfl) o⟩⟩
  · exact ⟨[], .inr hf⟩
end
end Bv
namespace Bv
open PySem PySem.Spec PyProof.Rows L2
section
variable {X : Cx} {pos : Pos}
theorem x_globI {x : Str} {i : Int} (hg : Gl X x) (hm : ∃ t, X.mg x = some (.int i t)) (hdb : (x == ("__debug__" : Str)) = false := by decide) : XE X (.Name x pos) (eC (.int i)) := by
  obtain ⟨t, hm⟩ := hm
  exact x_glob (v := .int i) hg hm ⟨t, rfl⟩ (fun _ => rfl) hdb
theorem x_globS {x : Str} {i : Str} (hg : Gl X x) (hm : ∃ t, X.mg x = some (.str i t)) (hdb : (x == ("__debug__" : Str)) = false := by decide) : XE X (.Name x pos) (eC (.str i)) := by
  obtain ⟨t, hm⟩ := hm
  exact x_glob (v := .str i) hg hm ⟨t, rfl⟩ (fun _ => rfl) hdb
def bCmp (p : D → D → Option T) (f g : EV) : BV := fun env => (f env).bind fun a => (g a.1).bind fun b => match p (fz a.2) (fz b.2) with
  | some (.sh (.bl k)) => some (b.1, k)
  | _ => none
theorem pt_any {X : Cx} {e : Expr} {t' : TT} (w : ∀ σ H Q, t' σ H Q → ∃ t, PT X e t ∧ t σ H Q) : PT X e t' := ⟨fun pins s σ H Q I q => by
  obtain ⟨t, p, k⟩ := w σ H Q q
  exact p.run pins s σ H Q I k⟩
variable {a b c : Expr} {f h k : EV} {op op' : CmpOp} {p q : D → D → Option T}
theorem xt_cmp (ho : Op2 X (compareOp op) p) (ha : XE X a f) (hb : XE X b h) (hm : behindInMarks op b = false) : XT X (.Compare a [op] [b] pos) (bCmp p f h) :=
  pt_any fun σ H Q ⟨g, F, env, stk, env', t, R, e, kk⟩ => by
    obtain ⟨⟨e1, r1⟩, q1, e⟩ := bind_some e
    obtain ⟨⟨e2, r2⟩, q2, e⟩ := bind_some e
    split at e
    · rename_i bb hp
      cases e
      obtain ⟨r, hr, ok⟩ := ho _ _ _ hp
      refine ⟨_, pt_cmpR hr ha hb hm, g, F, env, stk, e1, r1, R, q1, fun v H1 F1 R1 => ⟨g, F1, e1, _, e2, r2, R1, q2, fun w H2 F2 R2 => ?_⟩⟩
      obtain ⟨F3, s, R3⟩ := R2.fz2
      exact ok _ _ _ _ _ _ _ _ _ R3 (R3.pop.top) R3.top fun z H4 F4 R4 => ⟨_, R4.top, kk _ _ R4.pop⟩
    · cases e
end
end Bv
namespace Bv
open PySem PySem.Spec PyProof.Rows L2
def Small (ns : List Int) : Prop := ∀ z ∈ ns, Builtin.Int.intBits z ≤ 1048576
theorem law_end {K : PySem.W.Frag} {φ : List T → Option (List T × T)} {H : Hp} {a : Addr} {ns : List Int} {E : XK} (h : ∀ ns : List Int, ns.length ≤ 63 → Small ns → ∃ ts', φ [.sh (.scr ns)] = some (ts', .sh (.bl true)))
    (hl : ns.length ≤ 63) (hb : ∀ z ∈ ns, Builtin.Int.intBits z ≤ 1048576) (hS : SqL K H a (ns.map V.int)) (hsm : ∃ o u, H sysModules = some (.frz o u)) : spB K 1 φ [.ref a] H (fun v _ => v = .bl true) E := by
  obtain ⟨ts', e⟩ := h ns hl hb
  refine ⟨rfl, H, [.sh (.scr ns)], [], ts', _, ⟨.refl H, hsm⟩, rfl, ⟨[], [], rfl, ⟨⟨a, rfl, hS⟩, rfl⟩, rfl⟩, List.nodup_nil, (fun a h => by cases h), e, fun v H' F' fp' ce => ?_⟩
  obtain ⟨f1, f2, _, o, _⟩ := ce.live
  exact o.1
end Bv
namespace Bv
open PySem PySem.Spec PyProof.Rows L2
section
variable {env : Ev} {p q : D → D → Option T} {f g h : EV} {b c : BV} {a : AV} {s t : SV} {i n : Nat}
@[simp] theorem eC_ap {d : D} : eC d env = some (env, .sh d) := rfl
@[simp] theorem eV_ap : eV i env = match env[i]? with
  | some (.ok (.sh d)) => some (env, .sh d)
  | some (.ok (.ow false ts)) => some (env.set i (.ok (.sh (.lst (fzs ts)))), .sh (.lst (fzs ts)))
  | some (.ok (.cn false k ts)) => some (env.set i (.ok (.sh (.cn k (fzs ts)))), .sh (.cn k (fzs ts)))
  | _ => none := rfl
@[simp] theorem eM_ap : eM i env = match env[i]? with
  | some (.ok (.sh d)) => some (env, .sh d)
  | some (.ok (.ow false ts)) => some (env.set i .un, .ow false ts)
  | some (.ok (.cn false k ts)) => some (env.set i .un, .cn false k ts)
  | _ => none := rfl
@[simp] theorem eBin_ap : eBin p f g env = (f env).bind fun q => (g q.1).bind fun s => (p (fz q.2) (fz s.2)).bind fun t => some (s.1, t) := rfl
@[simp] theorem aNil_ap : aNil env = some (env, []) := rfl
@[simp] theorem aV_ap : aV f a env = (f env).bind fun q => (a q.1).bind fun s => some (s.1, .sh (fz q.2) :: s.2) := rfl
@[simp] theorem aO_ap : aO f a env = (f env).bind fun q => (a q.1).bind fun s => some (s.1, q.2 :: s.2) := rfl
@[simp] theorem eTup_ap : eTup a env = (a env).bind fun q => if q.2.length ≤ sizeLine then some (q.1, .sh (.tup (fzs q.2))) else none := rfl
@[simp] theorem eLst_ap : eLst a env = (a env).bind fun q => if q.2.length ≤ sizeLine then some (q.1, .ow false q.2) else none := rfl
@[simp] theorem bE_ap {tr : D → Option Bool} : bE tr f env = (f env).bind fun q => (tr (fz q.2)).bind fun b => some (q.1, b) := rfl
@[simp] theorem bAnd_ap : bAnd b c env = (b env).bind fun q => if q.2 = true then c q.1 else some (q.1, false) := rfl
@[simp] theorem bOr_ap : bOr b c env = (b env).bind fun q => if q.2 = true then some (q.1, true) else c q.1 := rfl
@[simp] theorem bNot_ap : bNot b env = (b env).bind fun q => some (q.1, !q.2) := rfl
@[simp] theorem bCmp_ap : bCmp p f g env = (f env).bind fun a => (g a.1).bind fun b => match p (fz a.2) (fz b.2) with
  | some (.sh (.bl k)) => some (b.1, k)
  | _ => none := rfl
@[simp] theorem eAnd_ap : eAnd f g env = (f env).bind fun q => match q.2 with
  | .sh (.bl true) => g q.1
  | .sh (.bl false) => some (q.1, .sh (.bl false))
  | _ => none := rfl
@[simp] theorem eCB_ap {p : List D → Option T} : eCB p a env = (a env).bind fun q => (p (fzs q.2)).bind fun t => some (q.1, t) := rfl
@[simp] theorem eIxV_ap : eIxV i f env = if isOw env i = true then (f env).bind fun q => match q.1[i]?, fz q.2 with
    | some (.ok (.ow _ ts)), .int k => match L2.atI ts k with
      | some (.sh d) => some (q.1, .sh d)
      | _ => none
    | _, _ => none
  else eBin pIx (eV i) f env := rfl
@[simp] theorem eLenV_ap : eLenV i env = match env[i]? with
  | some (.ok (.ow _ ts)) => some (env, .sh (.int ts.length))
  | _ => eCB pLen (aV (eV i) aNil) env := rfl
@[simp] theorem eSl_ap {p : D → Option Int → Option Int → Option T} {l u : PV} : eSl p f l u env = (f env).bind fun q => (l q.1).bind fun s => (u s.1).bind fun w => (p (fz q.2) s.2 w.2).bind fun t => some (w.1, t) := rfl
@[simp] theorem oSome_ap : oSome f env = (f env).bind fun q => match fz q.2 with
  | .int i => some (q.1, some i)
  | _ => none := rfl
@[simp] theorem eCall_ap {φ : List T → Option (List T × T)} {ms : List (Option (Nat × Bool))} : eCall n φ ms a env = (a env).bind fun q => if q.2.length = n then (φ q.2).bind fun s => (putBack ms s.1 q.1).bind fun e => some (e, s.2) else none := rfl
@[simp] theorem iE_ap : iE f env = (f env).bind fun q => (items (fz q.2)).bind fun ds => some (q.1, ds) := rfl
@[simp] theorem iR1_ap : iR1 a env = (a env).bind fun q => match fzs q.2 with
  | [.int n] => if rgOk n = true then some (q.1, rgItems 0 n) else none
  | _ => none := rfl
@[simp] theorem gV_sh {d : D} : gV i (.sh d) env = (env[i]?).bind fun s => if stk? s = true then some (env.set i (.ok (.sh d))) else none := rfl
@[simp] theorem gV_ow {ts : List T} : gV i (.ow false ts) env = (env[i]?).bind fun s => if stk? s = true then some (env.set i (.ok (.ow false ts))) else none := rfl
@[simp] theorem gsNil_ap {ds : List D} : gsNil ds env = if ds.isEmpty then some env else none := rfl
@[simp] theorem gsCons_ap {γ : T → Ev → Option Ev} {γs : List D → Ev → Option Ev} {d : D} {ds : List D} : gsCons γ γs (d :: ds) env = (γ (.sh d) env).bind fun e => γs ds e := rfl
@[simp] theorem gUnp_tup {γs : List D → Ev → Option Ev} {ds : List D} : gUnp n γs (.sh (.tup ds)) env = if ds.length = n then γs ds env else none := rfl
@[simp] theorem gUnp_lst {γs : List D → Ev → Option Ev} {ds : List D} : gUnp n γs (.sh (.lst ds)) env = if ds.length = n then γs ds env else none := rfl
@[simp] theorem gUnp_ow {γs : List D → Ev → Option Ev} {ts : List T} : gUnp n γs (.ow false ts) env = if (fzs ts).length = n then γs (fzs ts) env else none := rfl
@[simp] theorem sRet_ap : sRet f env = (f env).bind fun q => some (q.1, .rt q.2) := rfl
@[simp] theorem sAsg_ap {γ : T → Ev → Option Ev} : sAsg γ f env = (f env).bind fun q => (γ q.2 q.1).bind fun e => some (e, .nx) := rfl
@[simp] theorem sIf_ap : sIf b s t env = (b env).bind fun q => if q.2 = true then s q.1 else t q.1 := rfl
@[simp] theorem sNil_ap : sNil env = some (env, .nx) := rfl
@[simp] theorem sCont_ap : sCont env = some (env, .ct) := rfl
@[simp] theorem sSeq_ap : sSeq s t env = (s env).bind fun q => match q.2 with
  | .nx => t q.1
  | fl => some (q.1, fl) := rfl
@[simp] theorem sFor_ap {ι : IV} {γ : T → Ev → Option Ev} : sFor ι γ s env = (ι env).bind fun q => forL γ s q.2 q.1 := rfl
@[simp] theorem sApp_ap : sApp i f env = if isOw env i = true then (f env).bind fun q => match q.1[i]? with
    | some (.ok (.ow b ts)) => if ts.length < sizeLine then some (q.1.set i (.ok (.ow b (ts ++ [.sh (fz q.2)]))), .nx) else none
    | _ => none
  else none := rfl
@[simp] theorem fz_sh {d : D} : fz (.sh d) = d := rfl
@[simp] theorem fz_ow {b : Bool} {ts : List T} : fz (.ow b ts) = .lst (fzs ts) := rfl
@[simp] theorem fz_cn {b : Bool} {k : Kn} {ts : List T} : fz (.cn b k ts) = .cn k (fzs ts) := rfl
@[simp] theorem gV_cn {k : Kn} {ts : List T} : gV i (.cn false k ts) env = (env[i]?).bind fun s => if stk? s = true then some (env.set i (.ok (.cn false k ts))) else none := rfl
@[simp] theorem outs_cn {k k' k2 : Kn} {us ws : List T} {ts : List T} : outs (.cn true k us :: ts) (.ok (.cn true k2 ws) :: env) = (outs ts env).bind fun r => some (.cn true k2 ws :: r) := rfl
@[simp] theorem stk_cn {k : Kn} {ts : List T} : stk? (.ok (.cn false k ts)) = true := rfl
@[simp] theorem fzs_nil : fzs [] = [] := rfl
@[simp] theorem fzs_cons {x : T} {xs : List T} : fzs (x :: xs) = fz x :: fzs xs := rfl
@[simp] theorem putBack_nil {ts : List T} : putBack [] ts env = some env := rfl
@[simp] theorem putBack_none {x : T} {ts : List T} {ms : List (Option (Nat × Bool))} : putBack (none :: ms) (x :: ts) env = putBack ms ts env := rfl
@[simp] theorem outs_nil : outs [] env = some [] := rfl
@[simp] theorem outs_sh {d : D} {ts : List T} {s : Sl} : outs (.sh d :: ts) (s :: env) = (outs ts env).bind fun r => some (.sh d :: r) := rfl
@[simp] theorem outs_ow {us ws : List T} {ts : List T} : outs (.ow true us :: ts) (.ok (.ow true ws) :: env) = (outs ts env).bind fun r => some (.ow true ws :: r) := rfl
@[simp] theorem pAdd_int {i j : Int} : pAdd (.int i) (.int j) = some (.sh (.int (i + j))) := rfl
@[simp] theorem pSub_int {i j : Int} : pSub (.int i) (.int j) = some (.sh (.int (i - j))) := rfl
@[simp] theorem pMul_int {i j : Int} : pMul (.int i) (.int j) = if mulOk i j = true then some (.sh (.int (i * j))) else none := rfl
@[simp] theorem pMod_int {i j : Int} : pMod (.int i) (.int j) = if j ≠ 0 then some (.sh (.int (i.fmod j))) else none := rfl
@[simp] theorem pPow_int {i j : Int} : pPow (.int i) (.int j) = if 0 ≤ j ∧ j ≤ 1000000 ∧ i.natAbs < 2 ^ 64 then some (.sh (.int (i ^ j.toNat))) else none := rfl
@[simp] theorem pLt_int {i j : Int} : pLt (.int i) (.int j) = some (.sh (.bl (decide (i < j)))) := rfl
@[simp] theorem pGt_int {i j : Int} : pGt (.int i) (.int j) = some (.sh (.bl (decide (j < i)))) := rfl
@[simp] theorem pEq_int {i j : Int} : pEq false (.int i) (.int j) = some (.sh (.bl (decide (i = j)))) := by
  have h : PyData.eqv (.int i) (.int j) = decide (i = j) := by
    show (i == j) = _
    by_cases e : i = j <;> simp [e]
  rw [← h]; rfl
@[simp] theorem pEq_bl {i j : Bool} : pEq false (.bl i) (.bl j) = some (.sh (.bl (i == j))) := rfl
@[simp] theorem pNe_bl {i j : Bool} : pEq true (.bl i) (.bl j) = some (.sh (.bl (!(i == j)))) := rfl
@[simp] theorem tru_bl {b : Bool} : tru (.bl b) = some b := rfl
@[simp] theorem tru_int {i : Int} : tru (.int i) = some (i != 0) := rfl
@[simp] theorem tru_lst {ds : List D} : tru (.lst ds) = some (!ds.isEmpty) := rfl
@[simp] theorem tru_tup {ds : List D} : tru (.tup ds) = some (!ds.isEmpty) := rfl
@[simp] theorem tru_non : tru .non = some false := rfl
@[simp] theorem items_lst {ds : List D} : items (.lst ds) = some ds := rfl
@[simp] theorem items_tup {ds : List D} : items (.tup ds) = some ds := rfl
@[simp] theorem items_scr {ns : List Int} : items (.scr ns) = some (ns.map D.int) := rfl
@[simp] theorem pIx_lst {ds : List D} {k : Int} : pIx (.lst ds) (.int k) = (L2.atI ds k).bind fun d => some (.sh d) := rfl
@[simp] theorem pIx_tup {ds : List D} {k : Int} : pIx (.tup ds) (.int k) = (L2.atI ds k).bind fun d => some (.sh d) := rfl
@[simp] theorem pIx_scr {ns : List Int} {k : Int} : pIx (.scr ns) (.int k) = (L2.atI ns k).bind fun d => some (.sh (.int d)) := rfl
@[simp] theorem pLen_lst {ds : List D} : pLen [.lst ds] = some (.sh (.int ds.length)) := rfl
@[simp] theorem pLen_tup {ds : List D} : pLen [.tup ds] = some (.sh (.int ds.length)) := rfl
@[simp] theorem pLen_scr {ns : List Int} : pLen [.scr ns] = some (.sh (.int ns.length)) := rfl
@[simp] theorem pInt_int {k : Int} : pInt [.int k] = some (.sh (.int k)) := rfl
@[simp] theorem pAbs_int {k : Int} : pAbs [.int k] = some (.sh (.int (if k < 0 then -k else k))) := rfl
@[simp] theorem forL_nil {γ : T → Ev → Option Ev} : forL γ s [] env = some (env, .nx) := rfl
@[simp] theorem stk_un : stk? .un = true := rfl
@[simp] theorem stk_sh {d : D} : stk? (.ok (.sh d)) = true := rfl
@[simp] theorem stk_ow {ts : List T} : stk? (.ok (.ow false ts)) = true := rfl
@[simp] theorem isOw_zero {x : Sl} {e : Ev} : isOw (x :: e) 0 = match x with
  | .ok (.ow _ _) => true
  | _ => false := by
  cases x with
  | un => rfl
  | mv => rfl
  | ok t => cases t <;> rfl
@[simp] theorem isOw_succ {x : Sl} {e : Ev} {i : Nat} : isOw (x :: e) (i + 1) = isOw e i := rfl
end
theorem run_eq (N : Nat) (β : SV) (ts : List T) : run N β ts = (β (ts.map Sl.ok ++ List.replicate (N - ts.length) .un)).bind (runEnd ts) := rfl
@[simp] theorem runEnd_nx {ts : List T} {e : Ev} : runEnd ts (e, .nx) = (outs ts e).bind fun o => some (o, .sh .non) := rfl
@[simp] theorem runEnd_rt {ts : List T} {e : Ev} {r : T} : runEnd ts (e, .rt r) = (outs ts e).bind fun o => some (o, r) := rfl
theorem forL_cons {γ : T → Ev → Option Ev} {β : SV} {d : D} {ds : List D} {env : Ev} : forL γ β (d :: ds) env = (γ (.sh d) env).bind fun e1 => (β e1).bind fun q => match q.2 with
    | .nx => forL γ β ds q.1
    | .ct => forL γ β ds q.1
    | .bk => some (q.1, .nx)
    | .rt t => some (q.1, .rt t)
    | .ex x => some (q.1, .ex x) := rfl
@[simp] theorem sizeLine_num : sizeLine = 16777216 := sizeLine_eq
theorem atI_ofNat {α : Type} {xs : List α} {j : Nat} : L2.atI xs (j : Int) = xs[j]? := by
  unfold L2.atI ixN
  by_cases h : j < xs.length
  · rw [if_pos (by omega), if_pos (by omega)]
    simp
  · rw [if_pos (by omega), if_neg (by omega)]
    simp; omega
end Bv
namespace Bv
open PySem PySem.Spec PyProof.Rows L2
section
variable {P : Program} {w : World} {A : Around} {E : Value → Shared → Prop} {s : Shared}
end
section
variable {P : Program} {w : World} {A : Around} {E : Value → Shared → Prop} {s : Shared} {a : Addr}
end
section
variable {X : Cx}
end
section
variable {X : Cx} {e : Expr} {h : AV} {ms : List (Option (Nat × Bool))} {p1 p2 p3 p4 : Pos}
end
end Bv
namespace Bv
open PySem PySem.Spec PyProof.Rows L2
section
variable {K : PySem.W.Frag} {g : Gh}
end
section
variable {X : Cx}
end
end Bv
namespace Bv
open PySem PySem.Spec PyProof.Rows L2
section
variable {X : Cx} {pos ps' : Pos} {x : Str} {e : Expr} {es : List Expr} {h : AV} {ms : List (Option (Nat × Bool))} {L : Nat} {Φ : Str → Option (Nat × (List T → Option (List T × T)))}
end
end Bv
namespace Bv
open PySem PySem.Spec PyProof.Rows L2
section
variable {X : Cx} {e st : Expr} {te : TE} {lo hi : Option Expr} {tl th ts : TO} {pos p2 : Pos}
variable {f : EV} {l h c : PV}
end
end Bv
namespace Bv
open PySem PySem.Spec PyProof.Rows L2
section
variable {X : Cx}
end
end Bv
namespace Bv
open PySem PySem.Spec PyProof.Rows L2
section
variable {X : Cx} {o e : Expr} {f g : EV} {apos pos : Pos}
def timesS (a : Str) (k : Int) : Str := ⟨(List.replicate k.toNat a.cps).foldl (· ++ ·) #[]⟩
def TimesOk (a : Str) (k : Int) : Prop := 2 ≤ k ∧ k ≤ 1000000 ∧ 0 < a.length ∧ a.length ≤ 1000 ∧ a.length * k.toNat ≤ 1000000 ∧ (timesS a k).length ≤ sizeLine
instance (a : Str) (k : Int) : Decidable (TimesOk a k) := by unfold TimesOk; exact inferInstance
end
end Bv
namespace Bv
open PySem PySem.Spec PyProof.Rows L2
def showOk (p : PyData) : Bool := p.showable && !p.hasDict && decide (p.depth ≤ 60) && decide (p.shown.length ≤ sizeLine)
def pRepr : List D → Option T
  | [d] => (toPy d).bind fun p => if showOk p = true then some (.sh (.str p.shown)) else none
  | _ => none
section
variable {X : Cx}
theorem cr_repr (hg : X.A.guards = some []) (hu : X.A.units + 64 < cLine) : CallR X (.builtin "repr") (fun vs H Q => ∃ v p, vs = [v] ∧ Dp X.K H v p ∧ showOk p = true ∧ Q (.str p.shown) H) := by
  intro pins s σ H vs us Q I r h
  obtain ⟨v, p, rfl, dp, ok, q⟩ := h
  obtain ⟨u, rfl, ru⟩ := vals1 r
  unfold showOk at ok
  simp only [Bool.and_eq_true, decide_eq_true_eq, Bool.not_eq_true'] at ok
  obtain ⟨⟨⟨h1, h2⟩, h3⟩, h4⟩ := ok
  obtain ⟨as, hr⟩ := Dp.reads I p v u dp ru
  have deep : ∀ {a : Addr}, u = .ref a → wpAny (model X.prog X.w) X.A (call (.builtin "repr") [u]) (EP X pins σ Q) X.xe s := fun {a} ea => by
    subst ea
    exact repr_of_reads' (h₀ := s.heap) hr h1 (fun z => by rw [h2] at z; cases z) hg (by omega) (fun _ _ z => z) (fun h' t tk hk => ⟨.str _, H, I.kept hk, ⟨t, rfl⟩, q⟩) h4
  cases dp with
  | non => cases ru; exact PySem.P.repr_of_none ⟨.str _, H, I.tok _, ⟨_, rfl⟩, q⟩
  | bl b => cases ru; exact PySem.P.repr_of_bool ⟨.str _, H, I.tok _, ⟨_, rfl⟩, q⟩
  | int i => obtain ⟨t, rfl⟩ := ru; exact PySem.P.repr_of_int (by simpa [PyData.showable] using h1) ⟨.str _, H, I.tok _, ⟨_, rfl⟩, q⟩
  | str x => obtain ⟨t, rfl⟩ := ru; exact PySem.P.repr_of_str ⟨.str _, H, I.tok _, ⟨_, rfl⟩, q⟩ h4
  | lst hs ha => exact deep ru
  | tup hs ha => exact deep ru
theorem c_repr (hg : X.A.guards = some []) (hu : X.A.units + 64 < cLine) : CallN X (.builtin "repr") pRepr := fun ds t e => by
  unfold pRepr at e
  split at e
  · obtain ⟨p, hp, e⟩ := bind_some e
    split at e
    · rename_i ok
      cases e
      refine ⟨_, cr_repr hg hu, atN_pure _ (fun _ => by rfl) fun s h q => ?_⟩
      obtain ⟨v, rfl, h1⟩ := Reps.sh1 h
      exact ⟨v, p, rfl, dp_of s h1 hp, ok, q⟩
    · cases e
  · cases e
end
def pEqS (neg : Bool) : D → D → Option T
  | .str a, .str b => some (.sh (.bl (if neg then !decide (a = b) else decide (a = b))))
  | _, _ => none
theorem dec_strV {a b : Str} : decide (V.str a = V.str b) = decide (a = b) := by
  by_cases h : a = b
  · subst h; simp
  · rw [decide_eq_false h, decide_eq_false fun q => h (by injection q)]
section
variable {X : Cx}
theorem o_eqS : Op2 X (compareOp .Eq) (pEqS false) := fun d1 d2 t e => by
  unfold pEqS at e
  split at e
  · rename_i a b
    cases e
    refine ⟨_, op_eq, at2_pure _ (fun _ => by rfl) fun s q1 q2 q => ?_⟩
    rw [show _ = V.str a from q1, show _ = V.str b from q2]
    exact ⟨rfl, by rw [dec_strV]; exact q⟩
  · cases e
theorem o_neS : Op2 X (compareOp .NotEq) (pEqS true) := fun d1 d2 t e => by
  unfold pEqS at e
  split at e
  · rename_i a b
    cases e
    refine ⟨_, op_ne, at2_pure _ (fun _ => by rfl) fun s q1 q2 q => ?_⟩
    rw [show _ = V.str a from q1, show _ = V.str b from q2]
    exact ⟨rfl, by rw [dec_strV]; exact q⟩
  · cases e
end
@[simp] theorem pEqS_str {neg : Bool} {a b : Str} : pEqS neg (.str a) (.str b) = some (.sh (.bl (if neg then !decide (a = b) else decide (a = b)))) := rfl
def wtKey : Key → Nat
  | .inl i => i.natAbs.log2 + 4
  | .inr s => 10 * s.length + 2
def wtK : Kn → Nat
  | .dk ks => (ks.map fun k => wtKey k + 2).sum
  | .dt ks => (ks.map fun k => (k.map fun k => wtKey k + 2).sum + 6).sum
  | .ob _ _ => 0
  | .kt => 0
  | .xo _ _ _ => 0
mutual
/-- no more than so many signs -/
def wt : D → Nat
  | .non => 4
  | .bl _ => 5
  | .int i => i.natAbs.log2 + 4
  | .str s => 10 * s.length + 2
  | .fn _ => 0
  | .ty _ => 0
  | .exn _ => 0
  | .scr _ => 0
  | .tup ds => 4 + wts ds
  | .lst ds => 4 + wts ds
  | .cn k ds => 4 + (wtK k + wts ds)
def wts : List D → Nat
  | [] => 0
  | d :: ds => wt d + 2 + wts ds
end
mutual
/-- ints of so many bits, texts of real signs -/
def okD : D → Bool
  | .non => true
  | .bl _ => true
  | .int i => decide (i.natAbs.log2 < 1920)
  | .str s => s.cps.toList.all fun c => decide (c < 16 ^ 8)
  | .fn _ => false
  | .ty _ => false
  | .exn _ => false
  | .scr _ => false
  | .tup ds => okDs ds
  | .lst ds => okDs ds
  | .cn _ _ => false
def okDs : List D → Bool
  | [] => true
  | d :: ds => okD d && okDs ds
end
mutual
def dep : D → Nat
  | .tup ds => 1 + deps ds
  | .lst ds => 1 + deps ds
  | .cn _ ds => 1 + deps ds
  | _ => 0
def deps : List D → Nat
  | [] => 0
  | d :: ds => max (dep d) (deps ds)
end
mutual
theorem py_of : ∀ {d : D}, okD d = true → ∃ p, toPy d = some p ∧ p.showable = true ∧ p.hasDict = false ∧ p.depth = dep d ∧ p.shown.length ≤ wt d
  | .non, _ => ⟨_, rfl, rfl, rfl, rfl, by decide +kernel⟩
  | .bl b, _ => ⟨_, rfl, rfl, rfl, rfl, by cases b <;> decide +kernel⟩
  | .int i, h => by
    have h : i.natAbs.log2 < 1920 := by simpa [okD] using h
    refine ⟨_, rfl, by simpa [PyData.showable] using h, rfl, rfl, ?_⟩
    show (Str.ofString (toString i)).length ≤ i.natAbs.log2 + 4
    rw [PySem.ofString_length]
    have := int_text_length_le (a := i) (k := i.natAbs.log2 + 1) (by omega) (by omega)
    omega
  | .str x, h => by
    have h : x.cps.toList.all (fun c => decide (c < 16 ^ 8)) = true := h
    rw [List.all_eq_true] at h
    refine ⟨_, rfl, rfl, rfl, rfl, ?_⟩
    show (reprText x).length ≤ 10 * x.length + 2
    exact StrLaws.reprText_len x fun c hc => of_decide_eq_true (h c hc)
  | .fn _, h => by cases h
  | .ty _, h => by cases h
  | .exn _, h => by cases h
  | .scr _, h => by cases h
  | .cn _ _, h => by cases h
  | .tup ds, h => by
    obtain ⟨ps, h1, h2, h3, h4, h5⟩ := pys_of (ds := ds) h
    refine ⟨.tuple ps, by unfold toPy; rw [h1], by simpa [PyData.showable] using h2, by simpa [PyData.hasDict] using h3, ?_, ?_⟩
    · show PyData.depthAll ps + 1 = 1 + deps ds
      omega
    · show (tupleText (PyData.shownAll ps)).length ≤ 4 + wts ds
      have := tupleText_len_le (PyData.shownAll ps)
      omega
  | .lst ds, h => by
    obtain ⟨ps, h1, h2, h3, h4, h5⟩ := pys_of (ds := ds) h
    refine ⟨.list ps, by unfold toPy; rw [h1], by simpa [PyData.showable] using h2, by simpa [PyData.hasDict] using h3, ?_, ?_⟩
    · show PyData.depthAll ps + 1 = 1 + deps ds
      omega
    · show (listText (PyData.shownAll ps)).length ≤ 4 + wts ds
      have := listText_len_le (PyData.shownAll ps)
      omega
theorem pys_of : ∀ {ds : List D}, okDs ds = true → ∃ ps, toPys ds = some ps ∧ PyData.showableAll ps = true ∧ PyData.hasDictAll ps = false ∧ PyData.depthAll ps = deps ds ∧ ((PyData.shownAll ps).map (·.length)).sum + 2 * (PyData.shownAll ps).length ≤ wts ds
  | [], _ => ⟨[], rfl, rfl, rfl, rfl, by decide⟩
  | d :: ds, h => by
    have h : (okD d && okDs ds) = true := h
    rw [Bool.and_eq_true] at h
    obtain ⟨p, a1, a2, a3, a4, a5⟩ := py_of h.1
    obtain ⟨ps, b1, b2, b3, b4, b5⟩ := pys_of h.2
    refine ⟨p :: ps, by unfold toPys; rw [a1, b1], ?_, ?_, ?_, ?_⟩
    · show (p.showable && PyData.showableAll ps) = true
      rw [a2, b2]; rfl
    · show (p.hasDict || PyData.hasDictAll ps) = false
      rw [a3, b3]; rfl
    · show max p.depth (PyData.depthAll ps) = max (dep d) (deps ds)
      rw [a4, b4]
    · show ((p.shown :: PyData.shownAll ps).map (·.length)).sum + 2 * (p.shown :: PyData.shownAll ps).length ≤ wt d + 2 + wts ds
      rw [List.map_cons, List.sum_cons, List.length_cons]
      omega
end
noncomputable def shD (d : D) : Str := match toPy d with
  | some p => p.shown
  | none => ⟨#[]⟩
theorem pRepr_eq {d : D} (ok : okD d = true) (hd : dep d ≤ 60) (hw : wt d ≤ 16777216) : pRepr [d] = some (.sh (.str (shD d))) := by
  obtain ⟨p, h1, h2, h3, h4, h5⟩ := py_of ok
  show ((toPy d).bind fun p => if showOk p = true then some (T.sh (.str p.shown)) else none) = _
  have hs : showOk p = true := by
    unfold showOk
    rw [h2, h3, decide_eq_true (show p.depth ≤ 60 by omega), decide_eq_true (show p.shown.length ≤ sizeLine by rw [sizeLine_eq]; omega)]
    rfl
  unfold shD
  rw [h1]
  show (if showOk p = true then some (T.sh (.str p.shown)) else none) = _
  rw [if_pos hs]
end Bv
set_option maxHeartbeats 2000000
namespace Bv
open PySem PySem.Spec PyProof.Rows L2
def xt : List (Str × Bool) → Xn → Option Bool
  | [], _ => none
  | (n, b) :: l, .own m => if n = m then some b else xt l (.own m)
  | (n, b) :: l, .ownF m fs ds => if n = m then some b else xt l (.ownF m fs ds)
  | _ :: l, x => xt l x
structure CatchOk (K : PySem.W.Frag) (c : Value) (t : Xn → Option Bool) : Prop where
  ok : ∀ x cls d b, XRep K x cls d → t x = some b → PySem.W.exmOne K cls c = some b
theorem CatchOk.nil {K : PySem.W.Frag} {c : Value} : CatchOk K c (xt []) := ⟨fun x cls d b _ h => by cases x <;> cases h⟩
theorem CatchOk.cons {K : PySem.W.Frag} {c : Value} {n : Str} {C : Addr} {b : Bool} {l : List (Str × Bool)} (hn : PySem.W.nsIn K mainGlobals n = some (some (.ref C))) (h : PySem.W.exmOne K (.ref C) c = some b) (t : CatchOk K c (xt l)) : CatchOk K c (xt ((n, b) :: l)) :=
  ⟨fun x cls d b' r e => by
    cases x with
    | own m =>
      unfold xt at e
      split at e
      · rename_i eq
        subst eq
        cases e
        obtain ⟨_, C', rfl, hn'⟩ := r
        rw [hn] at hn'
        cases hn'
        exact h
      · exact t.ok _ cls d b' r e
    | ownF m fs ds =>
      unfold xt at e
      split at e
      · rename_i eq
        subst eq
        cases e
        obtain ⟨C', dd, _, rfl, hn'⟩ := r
        rw [hn] at hn'
        cases hn'
        exact h
      · exact t.ok _ cls d b' r e
    | blt m => exact t.ok (.blt m) cls d b' r e⟩
section
variable {K : PySem.W.Frag} {C D : Addr} {cls : Value} {b : Bool} {T : String}
theorem exm_own (h1 : PySem.W.subIn K (.ref C) (.type "BaseException") = some true) (hd : PySem.W.hasDictIn K C = true) (ht : PySem.W.typeIn K (.ref C) = some (.type "type")) (h : PySem.W.subIn K cls (.ref C) = some b) : PySem.W.exmOne K cls (.ref C) = some b := PySem.W.exm_ref h1 hd ht h
end
section
variable {X : Cx} {W : WX} {pos p : Pos} {x : Str} {C : Addr} {bmB : List Value} {B newId initId : String}
end
abbrev EX := Ev → Option (Ev × (T ⊕ Xn))
section
variable {X : Cx} {W : WX} {pos ps' : Pos} {x : Str} {e : Expr} {es : List Expr} {h : AV} {ms : List (Option (Nat × Bool))} {k n : Nat} {f : Addr} {fd : FuncData} {ps : List Str} {φ : List T → Option (List T × (T ⊕ Xn))}
end
section
variable {X : Cx} {W : WX} {pos : Pos} {e : Expr} {f : EX}
end
open Classical in
noncomputable def pickA {α : Type} (f : Addr → Option α) : Option α := if h : ∃ o, ∀ a, f a = some o then some (Classical.choose h) else none
theorem pickA_eq {α : Type} {f : Addr → Option α} {o : α} (h : ∀ a, f a = some o) : pickA f = some o := by
  have hx : ∃ o, ∀ a, f a = some o := ⟨o, h⟩
  unfold pickA
  rw [dif_pos hx]
  have := Classical.choose_spec hx 0
  rw [h 0] at this
  rw [← Option.some.inj this]
theorem pickA_some {α : Type} {f : Addr → Option α} {o : α} (h : pickA f = some o) (a : Addr) : f a = some o := by
  unfold pickA at h
  split at h
  · rename_i hx
    cases h
    exact Classical.choose_spec hx a
  · cases h
def behind (i : Nat) : Ev × Fl → Option (Ev × Fl)
  | (_, .ex _) => none
  | (e, fl) => some (e.set i .un, fl)
section
variable {X : Cx} {W : WX} {x n : Str} {c : Value} {body suite : List Stmt} {b₀ : Stmt} {np pos pos' : Pos} {t : Xn → Option Bool} {β ρ : SV} {ρ2 : Addr → Xn → SV}
theorem Rel.noPar {K : PySem.W.Frag} {g : Gh} {F : Hp} {env : Ev} {σ : L2.St} {H : Hp} {stk : List (T × V)} {i : Nat} {d : D} (R : Rel K g F env σ H stk) (hi : env[i]? = some (.ok (.sh d)) ∨ env[i]? = some .un) : ¬ ∃ p, g.P[i]? = some (some p) := fun ⟨p, hp⟩ => by
  obtain ⟨_, h | ⟨us, hl, h⟩⟩ := R.par i p hp
  · rcases hi with hi | hi <;> (rw [hi] at h; cases h)
  · rcases hi with hi | hi
    · rw [hi] at h
      rw [← Sl.ok.inj (Option.some.inj h)] at hl
      cases hl
    · rw [hi] at h; cases h
end
section
variable {X : Cx} {pos p1 p2 p3 : Pos} {n cn : Str} {a : Addr} {oe : Obj} {cls : Value} {d : Option Addr} {pn : List (Addr × Obj)} {y : Xn} {c : V} {t : Xn → Option Bool} {tc : TE}
end
end Bv
namespace Bv
open PySem PySem.Spec PyProof.Rows L2
section
variable {K : PySem.W.Frag} {g : Gh} {F : Hp} {env : Ev} {σ : L2.St} {H : Hp} {stk : List (T × V)} {i j : Nat} {b b2 : Bool} {ts us : List T}
end
section
variable {K : PySem.W.Frag} {g : Gh} {F : Hp} {env : Ev} {σ : L2.St} {H : Hp} {stk : List (T × V)} {i j : Nat} {b b2 : Bool} {ts us : List T}
end
section
variable {X : Cx} {W : WX} {pos : Pos} {x y : Str} {px py p1 p2 pa pc : Pos} {bi bk : Expr} {j : Nat} {kk : Int}
theorem atI_nat {α : Type} {l : List α} {n : Nat} {a : α} (h : l[n]? = some a) : L2.atI l (n : Int) = some a := by
  have hl : n < l.length := (List.getElem?_eq_some_iff.mp h).1
  unfold L2.atI
  have e : ixN l.length (n : Int) = some n := by
    unfold ixN
    rw [if_pos (by omega), if_pos (by omega)]
    simp
  rw [e]
  exact h
end
def eFind2 (f g h : EV) : EV := fun env => (f env).bind fun q => (g q.1).bind fun r => (h r.1).bind fun s => match fz q.2, fz r.2, fz s.2 with
  | .str a, .str b, .int i => some (s.1, .sh (.int (Txt.find3 a b i)))
  | _, _, _ => none
section
variable {X : Cx} {o e e2 : Expr} {f g h : EV} {apos pos : Pos}
theorem x_find2 (ho : XE X o f) (he : XE X e g) (he2 : XE X e2 h) (hbase : attributeBase o "find" X.env (eval o X.env) = eval o X.env := by rfl)
    (hfew : ((backTo pos (starEach [e, e2] X.env)).all (fun x => !x.1) && (backToKw pos (keywordEach [] X.env)).all (fun x => x.1.isSome)
      && decide ([e, e2].length + ([] : List Keyword).length + (if ([] : List Keyword).isEmpty then 0 else 1) < 30)) = true := by rfl)
    (hline : (apos.endLine == pos.line) = true := by rfl) (hs : starEach [e, e2] X.env = (false, eval e X.env) :: starEach [e2] X.env := by rfl) (hs2 : starEach [e2] X.env = (false, eval e2 X.env) :: starEach [] X.env := by rfl) (hplain : (backTo pos (starEach [e2] X.env)).any (·.1) = false := by rfl) :
    XE X (.Call (.Attribute o "find" apos) [e, e2] [] pos) (eFind2 f g h) :=
  pe_imp (pe_bm (T := "str") PySem.F.plainAttrs_str PySem.F.slot_str_find PySem.F.type_str_find mt_find3 ho (pa_cons he (pa_cons he2 pa_nil hs2) hs) hbase hfew hline hs hplain) fun σ H Q ⟨g0, F, env, stk, env', t, R, e0, k⟩ => by
    obtain ⟨⟨e1, r1⟩, q1, e0⟩ := bind_some e0
    obtain ⟨⟨e2, r2⟩, q2, e0⟩ := bind_some e0
    obtain ⟨⟨e3, r3⟩, q3, e0⟩ := bind_some e0
    split at e0
    · rename_i a b i ha hb hc
      cases e0
      refine ⟨g0, F, env, stk, e1, r1, R, q1, fun v H1 F1 R1 => ?_⟩
      have ha : fz r1 = .str a := ha
      have hb : fz r2 = .str b := hb
      have hc : fz r3 = .int i := hc
      obtain ⟨F2, s2, R2⟩ := R1.fz
      rw [ha] at R2
      have hv : v = .str a := R2.top
      subst hv
      refine ⟨rfl, g0, F2, e1, _, e2, r2, R2, q2, fun w H3 F3 R3 => ?_⟩
      · obtain ⟨F4, s4, R4⟩ := R3.fz
        rw [hb] at R4
        have hw : w = .str b := R4.top
        refine ⟨g0, F4, e2, _, e3, r3, R4, q3, fun z H5 F5 R5 => ?_⟩
        obtain ⟨F6, s6, R6⟩ := R5.fz
        rw [hc] at R6
        have hz : z = .int i := R6.top
        exact ⟨a, b, i, rfl, by rw [hw, hz], k _ H5 F6 (R6.pop.pop.pop.push rfl)⟩
    · cases e0
end
end Bv
namespace Bv
open PySem PySem.Spec PyProof.Rows L2
structure KTup (K : PySem.W.Frag) (mg : Str → Option Value) (x : Str) (ds : List D) : Prop where
  ok : ∃ a xs, mg x = some (.ref a) ∧ (∀ H, SqT K H a xs) ∧ ∀ F, Reps K F ds xs
theorem ktup_of {K : PySem.W.Frag} {mg : Str → Option Value} {x : Str} {ds : List D} {xs : List V} {a : Addr} {od : Option Addr} {its : Array Value} {n : Nat} {sl : Array (Option Value)} (hm : mg x = some (.ref a))
    (hl : K.lookup a = some ⟨.type "tuple", od, .seq its n, sl⟩) (hz : its.size ≤ sizeLine) (hv : Vals xs its.toList) (hr : ∀ F, Reps K F ds xs) : KTup K mg x ds :=
  ⟨a, xs, hm, fun H => .inr ⟨_, its, n, hl, rfl, rfl, hz, hv⟩, hr⟩
section
variable {X : Cx} {pos : Pos}
end
structure KSet (K : PySem.W.Frag) (w : World) (mg : Str → Option Value) (x : Str) (keys : List Str) : Prop where
  ok : ∃ d es n, mg x = some (.ref d) ∧ KDict K w d es n ∧ ∀ z, ∃ r, PySem.W.nsIn K d z = some r ∧ r.isSome = decide (z ∈ keys)
theorem find_keys {P : Params} (z : Str) : ∀ {l : List DictEntry} {ks : List Str}, l.map He.keyOf = He.keysIn P ks → (l.find? (·.key.isStr z)).isSome = decide (z ∈ ks) ∧ l.any (·.refKey) = false
  | [], [], _ => ⟨rfl, rfl⟩
  | [], k :: ks, h => by cases h
  | e :: r, [], h => by cases h
  | e :: r, k :: ks, h => by
    have h1 : He.keyOf e :: r.map He.keyOf = some (k, PyData.keyHash P k) :: He.keysIn P ks := h
    injection h1 with h2 h3
    obtain ⟨a, b⟩ := find_keys z h3
    unfold He.keyOf at h2
    split at h2
    · rename_i x t q
      have h4 := Option.some.inj h2
      obtain ⟨h5, h6⟩ := Prod.mk.inj h4
      subst h5
      have e1 : e.key.isStr z = (x == z) := by rw [q]; rfl
      have e2 : e.refKey = false := by unfold DictEntry.refKey; rw [q]
      refine ⟨?_, by rw [List.any_cons, e2, b, Bool.false_or]⟩
      rw [List.find?_cons]
      cases hx : (x == z) with
      | true =>
        rw [e1, hx]
        have : x = z := beq_iff_eq.mp hx
        simp [this]
      | false =>
        rw [e1, hx]
        have : ¬ z = x := fun q => by rw [q] at hx; simp at hx
        simp [this]
        simpa using a
    · cases h2
theorem kset_of {K : PySem.W.Frag} {w : World} {mg : Str → Option Value} {x : Str} {keys : List Str} {d : Addr} {es : Array DictEntry} {n : Nat} (hm : mg x = some (.ref d)) (hl : K.lookup d = some ⟨.type "dict", none, .dict es n, #[]⟩)
    (hk : es.toList.map He.keyOf = He.keysIn w.params keys) (low : (d == sysModules) = false) : KSet K w mg x keys := by
  refine ⟨d, es, n, hm, ⟨hl, He.keysLit_of hk, low⟩, fun z => ?_⟩
  obtain ⟨a, b⟩ := find_keys z hk
  unfold PySem.W.nsIn
  rw [hl]
  dsimp only
  cases hf : es.toList.find? (·.key.isStr z) with
  | some e => rw [hf] at a; exact ⟨some e.val, rfl, a⟩
  | none =>
    rw [hf] at a
    refine ⟨none, ?_, a⟩
    dsimp only
    rw [b]
    rfl
def bInK (keys : List Str) (f : EV) : BV := fun env => (f env).bind fun q => match fz q.2 with
  | .str z => some (q.1, decide (z ∈ keys))
  | _ => none
section
variable {X : Cx} {pos ps : Pos} {x : Str} {keys : List Str} {e : Expr} {f : EV}
theorem xt_inK (h : KSet X.K X.w X.mg x keys) (hg : Gl X x) (he : XE X e f) (hm : behindInMarks .In (.Name x ps) = false := by rfl) (hdb : (x == ("__debug__" : Str)) = false := by decide) : XT X (.Compare e [.In] [.Name x ps] pos) (bInK keys f) := by
  obtain ⟨d, es, n, hmg, D, hz⟩ := h.ok
  exact pt_imp (pt_cmpR (op_in_kd D) he (pe_glob (v := .ref d) hg hmg rfl hdb) hm) fun σ H Q ⟨g, F, env, stk, env', r, R, e0, k⟩ => by
    obtain ⟨⟨e1, r1⟩, q1, e0⟩ := bind_some e0
    split at e0
    · rename_i z hz1
      cases e0
      have hz1 : fz r1 = .str z := hz1
      refine ⟨g, F, env, stk, e1, r1, R, q1, fun v H1 F1 R1 => ?_⟩
      obtain ⟨F2, s2, R2⟩ := R1.fz
      rw [hz1] at R2
      have hv : v = .str z := R2.top
      obtain ⟨r, hr, hs⟩ := hz z
      exact ⟨z, r, hv, rfl, hr, r.isSome, rfl, by rw [hs]; exact k H1 F2 R2.pop⟩
    · cases e0
end
section
variable {X : Cx} {p pos : Pos}
end
end Bv
namespace Bv
open PySem PySem.Spec PyProof.Rows L2
section
variable {K : PySem.W.Frag} {g : Gh} {F : Hp} {env : Ev} {σ : L2.St} {H : Hp} {stk : List (T × V)}
theorem Rel.at {i : Nat} {t : T} (R : Rel K g F env σ H stk) (hi : env[i]? = some (Sl.ok t)) : ∃ v, σ[i]? = some (some v) := by
  obtain ⟨fp1, fp2, sl, l, nd, fr⟩ := R.own
  obtain ⟨x, g1, g2, g3, e1, rfl, ok, _⟩ := sl.at hi
  obtain ⟨v, rfl, o⟩ := ok
  exact ⟨v, e1⟩
end
section
variable {X : Cx} {pos : Pos} {e : Expr} {es : List Expr} {f : EV} {h : AV} {ms : List (Option (Nat × Bool))}
end
end Bv
namespace Bv
open PySem PySem.Spec PyProof.Rows L2
section
variable {X : Cx} {pos : Pos}
end
section
variable {X : Cx}
end
end Bv
namespace Bv
open PySem PySem.Spec PyProof.Rows L2
section
variable {X : Cx}
end
end Bv
namespace Bv
open PySem PySem.Spec PyProof.Rows L2
section
variable {K : PySem.W.Frag} {g : Gh} {F : Hp} {env : Ev} {σ : L2.St} {H : Hp} {stk : List (T × V)}
end
section
variable {X : Cx}
end
end Bv
namespace Bv
open PySem PySem.Spec PyProof.Rows L2
section
variable {X : Cx} {pos : Pos}
end
end Bv
namespace Bv
open PySem PySem.Spec PyProof.Rows L2
section
variable {κ : Type} [DecidableEq κ]
end
def keyOf : D → Option Key
  | .int i => some (.inl i)
  | .str s => some (.inr s)
  | _ => none
section
variable {K : PySem.W.Frag} {F : Hp}
end
section
variable {K : PySem.W.Frag} {g : Gh} {F : Hp} {env : Ev} {σ : L2.St} {H : Hp} {stk l : List (T × V)} {i : Nat} {b : Bool} {kn : Kn} {ts : List T}
end
section
variable {X : Cx} {pos : Pos}
end
section
variable {K : PySem.W.Frag} {g : Gh} {F : Hp} {env : Ev} {σ : L2.St} {H : Hp} {stk : List (T × V)} {i : Nat} {b : Bool} {kn : Kn} {ts : List T}
end
section
variable {X : Cx} {pos pos' : Pos}
end
end Bv
namespace Bv
open PySem PySem.Spec PyProof.Rows L2
section
variable {X : Cx} {pins : List (Addr × Obj)} {σ : L2.St} {H : Hp} {s : Shared} {F : Hp}
end
section
variable {X : Cx}
end
end Bv
namespace Bv
open PySem PySem.Spec PyProof.Rows L2
section
variable {X : Cx} {pos : Pos}
end
end Bv
namespace Bv
open PySem PySem.Spec PyProof.Rows L2
def Msk (m : Nat) : Prop := m = 7 ∨ m = 31 ∨ m = 127 ∨ m = 511
structure TbOk (t : SetTable) (hs : List Int) : Prop where
  ris : Ris t.place.toList
  dm : t.dummies = #[]
  sz : t.place.size = hs.length
  mok : Msk t.mask
  bd : ∀ x ∈ t.place.toList, x ≤ t.mask
  reach : ∀ (i : Nat) (h : Int) (j : Nat), hs[i]? = some h → t.place.toList[i]? = some j → ∃ k, way t.mask h k = j ∧ ∀ k', k' < k → way t.mask h k' ∈ t.place.toList
section
variable {t : SetTable} {hs : List Int} {h : Int} {K : Nat}
end
end Bv
namespace Bv
open PySem PySem.Spec PyProof.Rows L2
structure EK (P : Program) (w : World) (K : Type) [DecidableEq K] extends HeapKind P w K where
  grow : ∀ {h h' : Heap} {k : K} {a : Addr}, is h k a → (∀ b o, h.get? b = some o → h'.get? b = some o) → is h' k a
  beside : ∀ {h h' : Heap} {k : K} {a d : Addr} {o : Obj} {es : Array (Int × Value)} {ep : Nat} {t : SetTable}, is h k a → h.get? d = some o → o.data = .set es ep t → Heap.SameBut d h h' → is h' k a
  noCls : ∀ {A : Around} {E : Value → Shared → Prop} {s : Shared} {k : K} {a : Addr} {Q : Bool → Shared → Prop}, is s.heap k a → Q false s → wpAny (model P w) A (ofAClassStatement 8 (.ref a)) Q E s
  byVal : ∀ {A : Around} {E : Value → Shared → Prop} {s : Shared} {k : K} {a : Addr} {Q : Bool → Shared → Prop}, is s.heap k a → (∀ b, Q b s) → wpAny (model P w) A (hashByValue 8 (.ref a)) Q E s
section
variable {P : Program} {w : World} {K : Type} [DecidableEq K] {A : Around} {E : Value → Shared → Prop} {s : Shared}
def EK.ent (κ : EK P w K) (p : Addr × K) : Int × Value := (κ.hash p.2, .ref p.1)
structure Mem (κ : EK P w K) (h : Heap) (a : Addr) (L : List (Addr × K)) (es : Array (Int × Value)) (ep : Nat) (t : SetTable) : Prop where
  obj : ∃ o, h.get? a = some o ∧ o.ExactSet ∧ o.data = .set es ep t
  ent : es.toList = L.map κ.ent
  tab : TbOk t (L.map fun p => κ.hash p.2)
  nd : (L.map (·.2)).Nodup
  isK : ∀ p ∈ L, κ.is h p.2 p.1
  led : w.params.followText "set-order" = true ∨ t.led = true
  room : L.length * 5 < t.mask * 3
  few : L.length < 300
variable {κ : EK P w K} {a : Addr} {L : List (Addr × K)} {es : Array (Int × Value)} {ep : Nat} {t : SetTable}
theorem ent_len {L : List (Addr × K)} {es : Array (Int × Value)} (h : es.toList = L.map κ.ent) : es.size = L.length := by
  rw [← Array.length_toList, h, List.length_map]
theorem Mem.size {h : Heap} (R : Mem κ h a L es ep t) : es.size = L.length := ent_len R.ent
theorem Mem.at {h : Heap} (R : Mem κ h a L es ep t) {i : Nat} {p : Addr × K} (e : L[i]? = some p) : es[i]? = some (κ.hash p.2, Value.ref p.1) := by
  rw [← Array.getElem?_toList, R.ent, List.getElem?_map, e]
  rfl
end
end Bv
namespace Bv
open PySem PySem.Spec PyProof.Rows L2
section
variable {P : Program} {w : World} {K : Type} [DecidableEq K] {A : Around} {E : Value → Shared → Prop} {s : Shared} {κ : EK P w K}
end
end Bv
namespace Bv
open PySem PySem.Spec PyProof.Rows L2
section
variable {P : Program} {w : World} {A : Around} {E : Value → Shared → Prop} {s : Shared}
theorem mixItems {k : List Key} {vs : List Value} (h : ItemsAre (mixKind P w) k vs) : ∀ v ∈ vs, (∃ i t, v = Value.int i t) ∨ ∃ x t, v = Value.str x t := by
  induction h with
  | nil => exact fun v hv => by cases hv
  | @cons k0 v' ks vs h1 _ ih =>
    intro v hv
    rcases List.mem_cons.mp hv with rfl | hv
    · rcases keyIs_shape h1 with ⟨i, t, _, e⟩ | ⟨x, t, _, e⟩
      · exact .inl ⟨i, t, e⟩
      · exact .inr ⟨x, t, e⟩
    · exact ih v hv
theorem noCls_mix {k : List Key} {b : Addr} {Q : Bool → Shared → Prop} (hk : IsTupleKey (mixKind P w) s.heap k b) (h : Q false s) : wpAny (model P w) A (ofAClassStatement 8 (.ref b)) Q E s := by
  have hT := hk.typeIs
  obtain ⟨o, items, n, ho, _, hd, hi⟩ := hk
  unfold ofAClassStatement
  refine wpAny_bind (wpAny_typeOf hT ?_)
  dsimp only
  simp only [show (("tuple" : String) == "tuple") = true by decide, if_true, Bool.not_true, Bool.false_eq_true, if_false]
  try refine wpAny_bind (wpAny_pure ?_)
  try simp only [Bool.not_true, Bool.false_eq_true, if_false]
  show wpAny _ _ (seqItems? (.ref b) >>= _) _ _ s
  refine wpAny_bind (wpAny_seqItems ho hd ?_)
  dsimp only
  refine wpAny_bind ?_
  show wpAny _ _ (forIn items _ _) _ _ s
  rw [← Array.forIn_toList]
  refine wpAny_forIn_list _ (fun l r s' => r.1 = none ∧ s' = s ∧ ∀ v ∈ l, (∃ i t, v = Value.int i t) ∨ ∃ x t, v = Value.str x t) _ (fun v l r s' hI => ?_) (fun r s' hI => ?_) _ _ ⟨rfl, rfl, mixItems hi⟩
  · obtain ⟨_, rfl, hv⟩ := hI
    have e : ofAClassStatement 7 v = pure false := by
      rcases hv v List.mem_cons_self with ⟨i, t, rfl⟩ | ⟨x, t, rfl⟩ <;> rfl
    rw [e]
    refine wpAny_bind (wpAny_pure ?_)
    simp only [Bool.false_eq_true, if_false]
    exact wpAny_pure ⟨rfl, rfl, fun u hu => hv u (List.mem_cons_of_mem _ hu)⟩
  · obtain ⟨e, rfl, _⟩ := hI
    obtain ⟨r1, r2⟩ := r
    cases e
    exact wpAny_pure h
theorem byVal_mix {k : List Key} {b : Addr} {Q : Bool → Shared → Prop} (hk : IsTupleKey (mixKind P w) s.heap k b) (h : ∀ c, Q c s) : wpAny (model P w) A (hashByValue 8 (.ref b)) Q E s := by
  have hT := hk.typeIs
  obtain ⟨o, items, n, ho, _, hd, hi⟩ := hk
  unfold hashByValue
  refine wpAny_bind (wpAny_specialOf hT F.slot_tuple_hash.lookup ?_)
  show wpAny _ _ (seqItems? (.ref b) >>= _) _ _ s
  refine wpAny_bind (wpAny_seqItems ho hd ?_)
  refine wpAny_bind ?_
  show wpAny _ _ (forIn items _ _) _ _ s
  rw [← Array.forIn_toList]
  refine wpAny_forIn_list _ (fun l r s' => s' = s ∧ ∀ v ∈ l, (∃ i t, v = Value.int i t) ∨ ∃ x t, v = Value.str x t) _ (fun v l r s' hI => ?_) (fun r s' hI => ?_) _ _ ⟨rfl, mixItems hi⟩
  · obtain ⟨rfl, hv⟩ := hI
    obtain ⟨c, e⟩ : ∃ c, hashByValue 7 v = pure c := by
      rcases hv v List.mem_cons_self with ⟨i, t, rfl⟩ | ⟨x, t, rfl⟩
      · exact ⟨true, rfl⟩
      · exact ⟨false, rfl⟩
    rw [e]
    refine wpAny_bind (wpAny_pure ?_)
    cases c
    · simp only [Bool.not_false, if_true]
      exact wpAny_pure (wpAny_pure (h false))
    · simp only [Bool.not_true, Bool.false_eq_true, if_false]
      exact wpAny_pure ⟨rfl, fun u hu => hv u (List.mem_cons_of_mem _ hu)⟩
  · obtain ⟨rfl, _⟩ := hI
    obtain ⟨r1, r2⟩ := r
    cases r1 with
    | none => exact wpAny_pure (h true)
    | some c => exact wpAny_pure (h c)
def mixTup (P : Program) (w : World) : EK P w (List Key) where
  toHeapKind := tupleKind (mixKind P w)
  grow := fun hk g => let ⟨o, items, n, ho, r⟩ := hk; ⟨o, items, n, g _ o ho, r⟩
  beside := fun {h h' k a d o es ep t} hk ho hd hs => by
    obtain ⟨o', items, n, ho', hc, hd', hi⟩ := hk
    refine ⟨o', items, n, (hs.2 a fun e => ?_).trans ho', hc, hd', hi⟩
    rw [e, ho] at ho'
    cases ho'
    rw [hd] at hd'
    cases hd'
  noCls := fun hk h => noCls_mix hk h
  byVal := fun hk h => byVal_mix hk h
end
end Bv
namespace Bv
open PySem PySem.Spec PyProof.Rows L2
structure Bare (P : Program) (w : World) (h : Heap) (a : Addr) (L : List (Addr × List Key)) : Prop where
  ex : ∃ (es : Array (Int × Value)) (ep : Nat) (t : SetTable), (∃ o, h.get? a = some o ∧ o.ExactSet ∧ o.data = .set es ep t) ∧ es.toList = L.map (mixTup P w).ent ∧ TbOk t (L.map fun p => (mixTup P w).hash p.2) ∧ (L.map (·.2)).Nodup ∧
    (w.params.followText "set-order" = true ∨ t.led = true) ∧ L.length * 5 < t.mask * 3 ∧ L.length < 300
theorem Mem.bare {P : Program} {w : World} {h : Heap} {a : Addr} {L : List (Addr × List Key)} {es : Array (Int × Value)} {ep : Nat} {t : SetTable} (R : Mem (mixTup P w) h a L es ep t) : Bare P w h a L :=
  ⟨es, ep, t, R.obj, R.ent, R.tab, R.nd, R.led, R.room, R.few⟩
section
variable {X : Cx}
end
section
variable {K : PySem.W.Frag} {F : Hp}
end
section
variable {X : Cx} {e : Expr} {h : AV} {ms : List (Option (Nat × Bool))} {p1 p2 p3 p4 : Pos}
end
end Bv
namespace Bv
open PySem PySem.Spec PyProof.Rows L2
section
variable {K : PySem.W.Frag} {g : Gh} {F : Hp} {env : Ev} {σ : L2.St} {H : Hp} {stk : List (T × V)} {i j : Nat} {b b2 : Bool} {kn : Kn} {ts us : List T}
end
section
variable {X : Cx}
end
end Bv
namespace Bv
open PySem PySem.Spec PyProof.Rows L2
section
variable {K : PySem.W.Frag} {g : Gh} {F : Hp} {σ : L2.St} {H : Hp} {stk : List (T × V)}
end
section
variable {X : Cx} {pos : Pos}
end
end Bv
namespace Bv
open PySem PySem.Spec PyProof.Rows L2
section
variable {X : Cx} {pos : Pos}
end
end Bv
namespace Bv
open PySem PySem.Spec PyProof.Rows L2
section
variable {X : Cx}
end
end Bv
namespace Bv
open PySem PySem.Spec PyProof.Rows L2
section
variable {X : Cx} {pos : Pos}
end
end Bv
namespace Bv
open PySem PySem.Spec PyProof.Rows L2
section
variable {X : Cx}
end
end Bv
namespace Bv
open PySem PySem.Spec PyProof.Rows L2
section
variable {X : Cx}
end
section
variable {X : Cx}
end
end Bv
namespace Bv
open PySem PySem.Spec PyProof.Rows L2
section
variable {P : Program} {w : World} {K : PySem.W.Frag} {mg : Str → Option Value} {base : Heap} {k : Nat} {f : Addr} {fd : FuncData} {sp : Sp}
end
section
variable {P : Program} {w : World} {K : PySem.W.Frag} {mg : Str → Option Value} {base : Heap}
end
end Bv
namespace Bv
open PySem PySem.Spec PyProof.Rows L2
section
variable {X : Cx} {k i : Nat} {f : Addr} {fd : FuncData} {ps : List Str} {sp : Sp} {E : L2.St → XK} {x : Str} {p pos : Pos} {e : Expr} {es : List Expr} {t : TA}
end
section
variable {X : Cx} {pos ps' : Pos} {x : Str} {e : Expr} {es : List Expr} {h : AV} {ms : List (Option (Nat × Bool))} {k n : Nat} {f : Addr} {fd : FuncData} {ps : List Str} {φ : List T → Option (List T × T)}
end
end Bv
namespace Bv
open PySem PySem.Spec PyProof.Rows L2
section
variable {K : PySem.W.Frag}
end
section
variable {X : Cx} {pos : Pos}
end
end Bv
namespace Bv
open PySem PySem.Spec PyProof.Rows L2
section
variable {X : Cx}
end
section
variable {X : Cx} {e : Expr} {h : AV} {ms : List (Option (Nat × Bool))} {p1 p2 p3 p4 : Pos}
end
end Bv
namespace Bv
open PySem PySem.Spec PyProof.Rows L2
section
variable {X : Cx} {pos : Pos}
end
end Bv
namespace Bv
open PySem PySem.Spec PyProof.Rows L2
section
variable {X : Cx}
end
section
variable {X : Cx}
end
end Bv
namespace Bv
open PySem PySem.Spec PyProof.Rows L2
section
variable {X : Cx}
end
end Bv
namespace Bv
open PySem PySem.Spec PyProof.Rows L2
def Cp (F G : Hp) : Prop := ∀ b o, F b = some o → G b = some o ∨ ∃ kvs, (o = .dK kvs ∨ ∃ od, o = .frz od (.dK kvs)) ∧ Rd G b (.dK kvs)
section
variable {K : PySem.W.Frag} {F G H H' : Hp}
theorem Cp.lst (c : Cp F G) {b : Addr} {xs : List V} (h : F b = some (.lst xs)) : G b = some (.lst xs) := by
  rcases c _ _ h with q | ⟨kvs, q | ⟨od, q⟩, _⟩
  · exact q
  · cases q
  · cases q
end
theorem upd_ne (F : Hp) {a b : Addr} (o : HO) (h : b ≠ a) : upd F a o b = F b := by unfold upd; exact if_neg h
section
variable {K : PySem.W.Frag} {g : Gh} {F F5 : Hp} {env env5 : Ev} {σ σ5 : L2.St} {H H5 : Hp} {stk stk5 : List (T × V)} {a : Addr} {od : Obj} {kvs : List (Key × V)}
end
section
variable {X : Cx} {W : WX} {body : List Stmt} {γ : T → Ev → Option Ev} {β : SV} {is : List Nat}
end
end Bv
namespace Bv
open PySem PySem.Spec PyProof.Rows L2
def CpT (F G : Hp) : Prop := ∀ b o, F b = some o → G b = some o ∨ ∃ kvs, (o = .dT kvs ∨ ∃ od, o = .frz od (.dT kvs)) ∧ Rd G b (.dT kvs)
section
variable {K : PySem.W.Frag} {F G H H' : Hp}
theorem CpT.lst (c : CpT F G) {b : Addr} {xs : List V} (h : F b = some (.lst xs)) : G b = some (.lst xs) := by
  rcases c _ _ h with q | ⟨kvs, q | ⟨od, q⟩, _⟩
  · exact q
  · cases q
  · cases q
end
section
variable {K : PySem.W.Frag} {g : Gh} {F F5 : Hp} {env env5 : Ev} {σ σ5 : L2.St} {H H5 : Hp} {stk stk5 : List (T × V)} {a : Addr} {od : Obj} {kvs : List (List Key × V)}
end
section
variable {X : Cx} {W : WX} {body : List Stmt} {γ : T → Ev → Option Ev} {β : SV} {is : List Nat}
end
end Bv
namespace Bv
open PySem PySem.Spec PyProof.Rows L2
section
variable {X : Cx}
end
end Bv
namespace Bv
open PySem PySem.Spec PyProof.Rows L2
section
variable {X : Cx} {pos : Pos}
end
end Bv
namespace Bv
open PySem PySem.Spec PyProof.Rows L2
section
variable {X : Cx}
end
end Bv
set_option maxHeartbeats 2000000
namespace Bv
open PySem PySem.Spec PyProof.Rows L2
section
variable {K : PySem.W.Frag} {g : Gh} {F : Hp} {env : Ev} {σ : L2.St} {H : Hp} {stk : List (T × V)} {i j : Nat} {b2 : Bool} {ts us : List T}
end
section
variable {X : Cx} {W : WX} {pos : Pos} {x : Str} {px p1 pa pc : Pos} {bi e : Expr} {j : Nat} {f : EV} {es : List Expr} {h : AV} {ms : List (Option (Nat × Bool))}
end
end Bv
set_option maxHeartbeats 2000000
namespace Bv
open PySem PySem.Spec PyProof.Rows L2
def spI (K : PySem.W.Frag) (ns : List Str) : Sp := fun vs H Q _ => ∃ (a C : Addr) (ws : List V), vs = .ref a :: ws ∧ ws.length = ns.length ∧ OexC K C ∧ (∀ f ∈ ns, PySem.W.findIn K (.ref C) f = some none) ∧ H a = some (exo a C none) ∧
  ∀ dx H2, H dx = none → dx ≠ a → H2 a = some (exo a C (some dx)) → H2 dx = some (exd dx (ns.zip ws).reverse) → (∀ b, b ≠ a → b ≠ dx → H2 b = H b) → Q .non H2
theorem init_len {K : PySem.W.Frag} {ns ps : List Str} (h : ps.length = ns.length + 1) : ∀ vs H Q E, spI K ns vs H Q E → vs.length = ps.length := fun vs H Q E ⟨a, C, ws, e, hl, _⟩ => by
  rw [e, h, ← hl]; rfl
def Ist (a C : Addr) (H0 : Hp) (fw : List (Str × V)) (H : Hp) : Prop := H0 a = some (exo a C none) ∧ ((fw = [] ∧ H = H0) ∨
  (fw ≠ [] ∧ ∃ dx, H0 dx = none ∧ dx ≠ a ∧ H a = some (exo a C (some dx)) ∧ H dx = some (exd dx fw) ∧ ∀ b, b ≠ a → b ≠ dx → H b = H0 b))
def tSt (K : PySem.W.Frag) (f : Str) (m : Nat) : TS := fun D σ H => ∃ (H0 : Hp) (a C : Addr) (fw : List (Str × V)) (w : V), σ[0]? = some (some (.ref a)) ∧ σ[m + 1]? = some (some w) ∧ OexC K C ∧ PySem.W.findIn K (.ref C) f = some none ∧ m ≤ 800 ∧ fw.length = m ∧ Ist a C H0 fw H ∧
  ∀ H', Ist a C H0 ((f, w) :: fw) H' → D.nx σ H'
section
variable {X : Cx} {f p0 p : Str} {q1 q2 q3 pos : Pos} {m : Nat}
theorem ps_st (m : Nat) (hN0 : X.N[0]? = some p0 := by rfl) (hNm : X.N[m + 1]? = some p := by rfl) (hv0 : Vis X.env.scope p0 := by first | exact Or.inl rfl | exact Or.inr (Or.inl rfl) | exact Or.inr (Or.inr rfl)) (hvm : Vis X.env.scope p := by first | exact Or.inl rfl | exact Or.inr (Or.inl rfl) | exact Or.inr (Or.inr rfl))
    (hd0 : (p0 == ("__debug__" : Str)) = false := by decide) (hc0 : (p0 == ("__classdict__" : Str)) = false := by decide) (hdm : (p == ("__debug__" : Str)) = false := by decide) (hcm : (p == ("__classdict__" : Str)) = false := by decide)
    (hs : swapsWith (.Name p q3) (some (.Attribute (.Name p0 q1) f q2)) pos.line X.env = pure false := by rfl) : PS X (.Assign [.Attribute (.Name p0 q1) f q2] (.Name p q3) pos) (tSt X.K f m) :=
  ps_imp (ps_ost (pe_var hN0 hv0 hd0 hc0) (pe_var hNm hvm hdm hcm) hs) fun D σ H ⟨H0, a, C, fw, w, h0, hw, T, hno, hm, hl, ⟨ha, hI⟩, k⟩ => by
    refine ⟨w, hw, .ref a, h0, a, C, rfl, T, hno, ?_⟩
    rcases hI with ⟨rfl, rfl⟩ | ⟨hne, dx, hdx, hda, h1, h2, h3⟩
    · refine .inl ⟨ha, fun dx hdx hda => k _ ⟨ha, .inr ⟨by simp, dx, hdx, hda, upd_same, ?_, fun b hb1 hb2 => ?_⟩⟩⟩
      · rw [L2.upd_ne hda]; exact upd_same
      · rw [L2.upd_ne hb1, L2.upd_ne hb2]
    · refine .inr ⟨dx, fw, h1, h2, by omega, k _ ⟨ha, .inr ⟨by simp, dx, hdx, hda, ?_, upd_same, fun b hb1 hb2 => ?_⟩⟩⟩
      · rw [L2.upd_ne hda.symm]; exact h1
      · rw [L2.upd_ne hb2]; exact h3 b hb1 hb2
end
section
variable {K : PySem.W.Frag} {vs : List V} {H : Hp} {Q : VK} {E : XK}
theorem init1_run {N : List Str} {n0 : Str} (h : spI K [n0] vs H Q E) : tSt K n0 0 { nx := fun _ H' => Q .non H', rt := Q } (start N vs) H := by
  obtain ⟨a, C, ws, rfl, hl, T, hf, ha, k⟩ := h
  obtain ⟨w, rfl⟩ : ∃ w, ws = [w] := by
    cases ws with
    | nil => cases hl
    | cons w r => cases r with
      | nil => exact ⟨w, rfl⟩
      | cons a c => simp at hl
  refine ⟨H, a, C, [], w, rfl, rfl, T, hf _ (by simp), by decide, rfl, ⟨ha, .inl ⟨rfl, rfl⟩⟩, fun H' ⟨_, h⟩ => ?_⟩
  rcases h with ⟨h, _⟩ | ⟨_, dx, h1, h2, h3, h4, h5⟩
  · cases h
  · exact k dx H' h1 h2 h3 h4 h5
theorem init3_run {N : List Str} {n0 n1 n2 : Str} (h : spI K [n0, n1, n2] vs H Q E) : tSeq (tSt K n0 0) (tSeq (tSt K n1 1) (tSt K n2 2)) { nx := fun _ H' => Q .non H', rt := Q } (start N vs) H := by
  obtain ⟨a, C, ws, rfl, hl, T, hf, ha, k⟩ := h
  obtain ⟨w0, w1, w2, rfl⟩ : ∃ w0 w1 w2, ws = [w0, w1, w2] := by
    match ws, hl with
    | [w0, w1, w2], _ => exact ⟨w0, w1, w2, rfl⟩
  refine ⟨H, a, C, [], w0, rfl, rfl, T, hf _ (by simp), by decide, rfl, ⟨ha, .inl ⟨rfl, rfl⟩⟩, fun H1 h1 => ?_⟩
  refine ⟨H, a, C, _, w1, rfl, rfl, T, hf _ (by simp), by decide, rfl, h1, fun H2 h2 => ?_⟩
  refine ⟨H, a, C, _, w2, rfl, rfl, T, hf _ (by simp), by decide, rfl, h2, fun H' ⟨_, h⟩ => ?_⟩
  rcases h with ⟨h, _⟩ | ⟨_, dx, h1, h2, h3, h4, h5⟩
  · cases h
  · exact k dx H' h1 h2 h3 h4 h5
end
theorem zip_rev {α β : Type} : ∀ {as : List α} {bs : List β}, as.length = bs.length → (as.zip bs).reverse = as.reverse.zip bs.reverse
  | [], [], _ => rfl
  | a :: as, b :: bs, h => by
    have h : as.length = bs.length := by simpa using h
    rw [List.zip_cons_cons, List.reverse_cons, zip_rev h, List.reverse_cons, List.reverse_cons, List.zip_append (by simpa using h)]
    rfl
theorem Reps.rev {K : PySem.W.Frag} {F : Hp} : ∀ {ds : List D} {xs : List V}, Reps K F ds xs → Reps K F ds.reverse xs.reverse
  | [], _, h => by cases h; rfl
  | d :: ds, _, h => by
    obtain ⟨v, r, rfl, h1, h2⟩ := h
    rw [List.reverse_cons, List.reverse_cons]
    exact Reps.append (Reps.rev h2) (.one h1)
structure RaiseF (K : PySem.W.Frag) (x : Str) (C fI : Addr) (ns : List Str) : Prop where
  nm : PySem.W.nsIn K mainGlobals x = some (some (.ref C))
  ox : OexC K C
  iC : PySem.W.findIn K (.ref C) "__init__" = some (some (.ref fI))
  tI : PySem.W.typeIn K (.ref fI) = some (.type "function")
  no : ∀ f ∈ ns, PySem.W.findIn K (.ref C) f = some none
def sRaiseF (x : Str) (ns : List Str) (f : AV) : SV := fun env => (f env).bind fun q => if q.2.length = ns.length then some (q.1, .ex (.ownF x ns.reverse (fzs q.2).reverse)) else none
section
variable {X : Cx} {W : WX} {pos p pc : Pos} {x : Str} {C fI : Addr} {ns ps : List Str} {k : Nat} {fd : FuncData} {e : Expr} {es : List Expr} {h : AV} {ms : List (Option (Nat × Bool))}
theorem ys_raiseF (R0 : RaiseF X.K x C fI ns) (Fn : FnOk X.prog X.w X.K X.mg X.base CX0 k fI fd ps (spI X.K ns)) (hr : Room (k + 1) X.A) (hb : Binds X.K fd ps []) (hc : X.calm = true) (tk : Takes X W) (hg : Gl X x) (gC : X.mg x = some (.ref C)) (hnl : ns.length ≤ 900)
    (ha : XA X ms (e :: es) h) (hdb : (x == ("__debug__" : Str)) = false := by decide) (hs : starEach (e :: es) X.env = (false, eval e X.env) :: starEach es X.env := by rfl) (hpl : (backTo pc (starEach es X.env)).any (·.1) = false := by rfl) :
    YS X W (.Raise (some (.Call (.Name x p) (e :: es) [] pc)) none pos) (sRaiseF x ns h) :=
  ps_imp (ps_raise hc tk (pmk_oex R0.ox R0.iC R0.tI Fn hr hb .nil pass0 hg gC ha hdb hs hpl)) fun D σ H ⟨g, F, env, stk, env', fl, R, e, k⟩ => by
    obtain ⟨⟨e1, rs⟩, q1, e⟩ := bind_some e
    split at e
    · rename_i hl
      cases e
      refine ⟨g, F, env, stk, e1, rs, R, q1, fun vs H1 F1 hlv hm R1 => ?_⟩
      have hl : rs.length = ns.length := hl
      have hvl : vs.length = ns.length := by rw [← hlv]; exact hl
      obtain ⟨F2, s2, R2⟩ := Rel.fzs (pre := []) hlv R1
      have R2 : Rel X.K g F2 e1 σ H1 (((fzs rs).map T.sh).zip vs ++ stk) := R2
      have rp : Reps X.K F2 (fzs rs) vs := Rel.reps (by rw [fzs_length]; exact hlv) R2
      refine ⟨by omega, fun a ha => ⟨a, C, vs, by rw [List.append_nil], hvl, R0.ox, R0.no, upd_same, fun dx H2 hdx hne h2a h2d hsame => ⟨rfl, dx, _, h2a, h2d, ?_, ?_⟩⟩⟩
      · rw [L2.upd_ne hne] at hdx; exact hdx
      · rw [L2.upd_ne hne] at hdx
        have eH : ∀ o, upd (del H2 a) dx o = upd H1 dx o := fun o => funext fun b => by
          by_cases hb : b = dx
          · subst hb; rw [upd_same, upd_same]
          · rw [L2.upd_ne hb, L2.upd_ne hb]
            by_cases hba : b = a
            · subst hba; rw [del_same, ha]
            · rw [del_ne hba, hsame b hba hb, L2.upd_ne hba]
        rw [eH]
        obtain ⟨s3, R3⟩ := (Rel.drop (l := ((fzs rs).map T.sh).zip vs) R2 (.refl _)).alloc (o := .xd (ns.zip vs).reverse) hdx
        exact k (.ref C) (some dx) σ _ _ ⟨C, dx, rfl, rfl, R0.nm⟩ ⟨dx, vs.reverse, rfl, by rw [upd_same, zip_rev hvl.symm], by simp [hvl], (rp.mono s3).rev⟩ R3
    · cases e
end
def exD (a dd : Addr) : Xn → Option D
  | .ownF _ fs ds => some (.cn (.xo a dd fs) ds)
  | _ => none
noncomputable def sTryF (i : Nat) (t : Xn → Option Bool) (β : SV) (ρ : Addr → Addr → Xn → SV) : SV := fun env => (β env).bind fun q => match q.2 with
  | .ex x => (t x).bind fun b => if b = true then (match q.1[i]? with
      | some .un => pickA fun a => pickA fun dd => (exD a dd x).bind fun D => (ρ a dd x (q.1.set i (.ok (.sh D)))).bind (behind i)
      | _ => none) else some q
  | _ => some q
section
variable {X : Cx} {W : WX} {x n : Str} {c : Value} {body suite : List Stmt} {b₀ : Stmt} {np pos pos' : Pos} {t : Xn → Option Bool} {β : SV} {ρ2 : Addr → Addr → Xn → SV}
theorem ys_tryF (i : Nat) (hN : X.N.Nodup) (hc : Names X x c) (tk : Takes X W) (ht : CatchOk X.K c t)
    (hb : ∀ (W : WX) (pn : List (Addr × Obj)) (xe : Value → Shared → Prop), Takes (X.tr pn xe) W → PassesOwn (model X.prog X.w) X.A X.env xe → YSs (X.tr pn xe) W body β)
    (hsu : ∀ (a : Addr) (oe : Obj) (cls : Value) (dd : Addr) (pn : List (Addr × Obj)) (y : Xn), Zc cls (some dd) oe → (∃ vs, oe.data = .fields vs) → XRep X.K y cls (some dd) → YSs (X.suite a ((a, oe) :: pn)) W (b₀ :: suite) (ρ2 a dd y))
    (hi : X.N[i]? = some n := by rfl) (hln : X.env.kindOf n = some .local := by rfl) (hs : X.stack = X.env :: X.outer := by rfl) (hf : X.env.frame = some X.env.locals := by rfl) :
    YS X W (.Try body [.ExceptHandler (some (.Name x np)) (some n) (b₀ :: suite) pos'] [] [] pos) (sTryF i t β ρ2) :=
  ps_imp (ps_try_as (tb := fun W => yS X.K W β) (ts := fun a cls d => fun D σ H => ∃ y dd, d = some dd ∧ XRep X.K y cls (some dd) ∧ yS X.K W (ρ2 a dd y) D σ H) (Wout := W) hs hf hN hi hln hc tk (fun W pn xe h1 h2 => hb W pn xe h1 h2)
    fun a oe cls d pn z1 z2 => ⟨fun pins s σ H D I ⟨y, dd, ed, hy, q⟩ => by subst ed; exact (hsu a oe cls dd pn y z1 z2 hy).run pins s σ H D I q⟩) fun D σ H ⟨g, F, env, stk, env', fl, R, e, k⟩ => by
    obtain ⟨⟨e1, fl1⟩, q1, e⟩ := bind_some e
    refine ⟨g, F, env, stk, e1, fl1, R, q1, ?_⟩
    cases fl1 with
    | nx => cases e; exact k
    | bk => cases e; exact k
    | ct => cases e; exact k
    | rt r => cases e; exact k
    | ex y =>
      obtain ⟨b, hb, e⟩ := bind_some e
      intro c' d' σ' H' F' xr xd R'
      refine ⟨b, ht.ok y c' d' b xr hb, fun eb a na => ?_, fun eb => ?_⟩
      · rw [if_pos eb] at e
        dsimp only at e
        split at e
        · rename_i hun
          cases y with
          | own m =>
            have e2 := pickA_some (pickA_some e a) 0
            cases e2
          | blt m =>
            have e2 := pickA_some (pickA_some e a) 0
            cases e2
          | ownF m fs ds =>
            obtain ⟨dd, xs, rfl, hF, hl, rp⟩ := xd
            have e2 := pickA_some (pickA_some e a) dd
            obtain ⟨DD, hD, e2⟩ := bind_some e2
            cases hD
            obtain ⟨⟨e3, fl3⟩, q3, q4⟩ := bind_some e2
            have Rh : Rel X.K g F' (e1.set i (.ok (.sh (.cn (.xo a dd fs) ds)))) (σ'.set i (some (.ref a))) H' stk :=
              (R'.push (d := .cn (.xo a dd fs) ds) (v := .ref a) ⟨a, xs, rfl, ⟨rfl, hF, hl⟩, rp⟩).store hun (fun z => by cases z) rfl rfl
            refine ⟨.ownF m fs ds, dd, rfl, xr, g, F', _, stk, e3, fl3, Rh, q3, ?_⟩
            have np : ¬ ∃ p, g.P[i]? = some (some p) := R'.noPar (d := .non) (.inr hun)
            cases fl3 with
            | nx => cases q4; exact fun σ4 H4 F4 R4 => k _ H4 F4 (R4.forget np)
            | bk => cases q4; exact fun σ4 H4 F4 R4 => k _ H4 F4 (R4.forget np)
            | ct => cases q4; exact fun σ4 H4 F4 R4 => k _ H4 F4 (R4.forget np)
            | rt r => cases q4; exact fun v σ4 H4 F4 R4 => k v _ H4 F4 (R4.forget np)
            | ex z => cases q4
        · cases e
      · subst eb
        rw [if_neg Bool.false_ne_true] at e
        cases e
        exact k c' d' σ' H' F' xr xd R'
end
theorem lookup_reps {K : PySem.W.Frag} {F : Hp} {f : Str} {d : D} : ∀ {fs : List Str} {ds : List D} {xs : List V}, Reps K F ds xs → (fs.zip ds).lookup f = some d → ∃ v, (fs.zip xs).lookup f = some v ∧ Rep K F d v
  | [], _, _, _, h => by cases h
  | _ :: _, [], _, _, h => by cases h
  | g :: fs, d0 :: ds, _, r, h => by
    obtain ⟨v, r', rfl, h1, h2⟩ := r
    rw [List.zip_cons_cons, List.lookup_cons] at h ⊢
    cases hg : f == g with
    | true =>
      rw [hg] at h
      cases h
      exact ⟨v, rfl, h1⟩
    | false =>
      rw [hg] at h
      exact lookup_reps h2 h
structure XfOk (K : PySem.W.Frag) (f : Str) (cs : List Str) : Prop where
  ok : ∀ n ∈ cs, ∀ C, PySem.W.nsIn K mainGlobals n = some (some (.ref C)) → XfC K C ∧ PySem.W.findIn K (.ref C) f = some none
theorem XfOk.nil {K : PySem.W.Frag} {f : Str} : XfOk K f [] := ⟨fun _ h => (List.not_mem_nil h).elim⟩
theorem XfOk.cons {K : PySem.W.Frag} {f n : Str} {C : Addr} {cs : List Str} (hn : PySem.W.nsIn K mainGlobals n = some (some (.ref C))) (h1 : XfC K C) (h2 : PySem.W.findIn K (.ref C) f = some none) (t : XfOk K f cs) : XfOk K f (n :: cs) :=
  ⟨fun m hm C' hC' => by
    rcases List.mem_cons.mp hm with rfl | hm
    · rw [hn] at hC'; cases hC'; exact ⟨h1, h2⟩
    · exact t.ok m hm C' hC'⟩
def eXf (i : Nat) (a dd : Addr) (y : Xn) (f : Str) (cs : List Str) : EV := fun env => match y, env[i]? with
  | .ownF n _ _, some (.ok (.sh (.cn (.xo a' dd' fs) ds))) => if n ∈ cs ∧ a' = a ∧ dd' = dd then ((fs.zip ds).lookup f).bind fun d => some (env, .sh d) else none
  | _, _ => none
section
variable {X : Cx} {pos p1 : Pos} {n f : Str} {a dd : Addr} {oe : Obj} {cls : Value} {pn : List (Addr × Obj)} {y : Xn} {cs : List Str}
theorem x_xf (i : Nat) (hx : XRep X.K y cls (some dd)) (hz : Zc cls (some dd) oe) (hf : ∃ vs, oe.data = .fields vs) (xo : XfOk X.K f cs)
    (hN : X.N[i]? = some n := by rfl) (hv : Vis X.env.scope n := by first | exact Or.inl rfl | exact Or.inr (Or.inl rfl) | exact Or.inr (Or.inr rfl)) (hd : (n == ("__debug__" : Str)) = false := by decide) (hcd : (n == ("__classdict__" : Str)) = false := by decide)
    (hb : attributeBase (.Name n p1) f X.env (eval (.Name n p1) X.env) = eval (.Name n p1) X.env := by rfl) : XE (X.suite a ((a, oe) :: pn)) (.Attribute (.Name n p1) f pos) (eXf i a dd y f cs) :=
  pe_any fun σ H Q ⟨g, F, env, stk, env', r, R, e, k⟩ => by
    unfold eXf at e
    split at e
    · rename_i m _ _ a' dd' fs ds hi _
      split at e
      · rename_i hc
        obtain ⟨hm, rfl, rfl⟩ := hc
        obtain ⟨d, hl, e⟩ := bind_some e
        cases e
        obtain ⟨C, dd2, e1, e2, hn⟩ := hx
        cases e1
        subst e2
        obtain ⟨T, hno⟩ := xo.ok m hm C hn
        obtain ⟨v, hσ, rv⟩ := R.sh hi
        obtain ⟨p, xs, rfl, ⟨hp, hF, hlx⟩, rp⟩ := rv
        subst hp
        obtain ⟨w, hw, rw'⟩ := lookup_reps rp hl
        exact ⟨_, pe_xf T hno hz hf (pe_var (X := X.suite p ((p, oe) :: pn)) hN hv hd hcd) hb, .ref p, hσ, rfl, rfl, dd', _, w, rfl, R.sub _ _ hF, hw, k w H F (R.push rw')⟩
      · cases e
    · cases e
end
section
variable {X : Cx} {pos p1 : Pos} {x : Str} {ds : List D} {ea : Expr} {f : EV}
theorem xt_inKT (ha : XE X ea f) (hg : Gl X x) (h : KTup X.K X.mg x ds) (hdb : (x == ("__debug__" : Str)) = false := by decide) (hm : behindInMarks .In (.Name x p1) = false := by rfl) :
    XT X (.Compare ea [.In] [.Name x p1] pos) (bCmp (pIn false) f (eC (.tup ds))) := by
  obtain ⟨a, xs, hm1, h1, h2⟩ := h.ok
  refine pt_any fun σ H Q h0 => ?_
  obtain ⟨g, F, env, stk, env', b, R, e, k⟩ := h0
  obtain ⟨⟨e1, r1⟩, q1, e⟩ := bind_some e
  refine ⟨_, pt_cmpR op_in_seq ha (pe_glob (v := .ref a) hg hm1 rfl hdb) hm, g, F, env, stk, e1, r1, R, q1, fun v H1 F1 R1 => ?_⟩
  have e : (match pIn false (fz r1) (.tup ds) with
    | some (.sh (.bl k)) => some (e1, k)
    | _ => none) = some (env', b) := e
  split at e
  · rename_i bb hp
    cases e
    have hp' : ∃ v vs, toV (fz r1) = some v ∧ toVs ds = some vs ∧ b = inV v vs := by
      obtain ⟨d2, hd2⟩ : ∃ d2, d2 = D.tup ds := ⟨_, rfl⟩
      rw [← hd2] at hp
      unfold pIn at hp
      split at hp
      · cases hd2
      · cases hd2
      · cases hd2
        split at hp
        · rename_i v vs hv hvs
          cases hp
          exact ⟨v, vs, hv, hvs, rfl⟩
        · cases hp
      · cases hp
    obtain ⟨v', vs, hv, hvs, rfl⟩ := hp'
    obtain ⟨F2, s2, R2⟩ := R1.fz
    obtain ⟨rfl, f1⟩ := toV_ok R2.top hv
    obtain ⟨rfl, f2⟩ := toVs_ok (h2 F2) hvs
    exact ⟨a, _, rfl, .inr (h1 H1), f1, f2, _, rfl, k H1 F2 R2.pop⟩
  · cases e
end
end Bv
namespace PG
open PySem PySem.Spec PyProof.Rows L2 Bv
noncomputable def b_w_cell_1 : SV := sRet (eC (.int 0))
noncomputable def b_w_cell : SV := sSeq (sIf (bCmp pLt (eV 1) (eLenV 0)) (sRet (eIxV 0 (eV 1))) (sNil)) (b_w_cell_1)
noncomputable def f_w_cell : List T → Option (List T × T) := run 2 b_w_cell
noncomputable def l_end_of_run_1 : SV := sAsg (gV 1) (eBin pAdd (eV 1) (eC (.int 1)))
noncomputable def b_end_of_run_1 : SV := sRet (eM 1)
noncomputable def b_end_of_run : SV := sSeq (sWhile (bAnd (bCmp pLt (eV 1) (eLenV 0)) (bCmp (pIn false) (eIxV 0 (eV 1)) (eV 2))) (l_end_of_run_1)) (b_end_of_run_1)
noncomputable def f_end_of_run : List T → Option (List T × T) := run 3 b_end_of_run
noncomputable def b_quoted_word_4 : SV := sRet (eTup (aV (eC (.str "text")) (aV (eV 3) (aV (eBin pAdd (eV 2) (eC (.int 1))) (aNil)))))
noncomputable def b_quoted_word_3 : SV := sSeq (sIf (bCmp (pIn false) (eC (.str "\n")) (eV 3)) (sRet (eTup (aV (eC (.str "bad")) (aV (eC (.str "")) (aV (eV 1) (aNil)))))) (sNil)) (b_quoted_word_4)
noncomputable def b_quoted_word_2 : SV := sSeq (sAsg (gV 3) (eSl pSl (eV 0) (oSome (eBin pAdd (eV 1) (eC (.int 1)))) (oSome (eV 2)))) (b_quoted_word_3)
noncomputable def b_quoted_word_1 : SV := sSeq (sIf (bOr (bCmp pLt (eV 2) (eC (.int 0))) (bCmp pGt (eBin pSub (eV 2) (eV 1)) (eC (.int 41)))) (sRet (eTup (aV (eC (.str "bad")) (aV (eC (.str "")) (aV (eV 1) (aNil)))))) (sNil)) (b_quoted_word_2)
noncomputable def b_quoted_word : SV := sSeq (sAsg (gV 2) (eFind2 (eV 0) (eC (.str "\"")) (eBin pAdd (eV 1) (eC (.int 1))))) (b_quoted_word_1)
noncomputable def f_quoted_word : List T → Option (List T × T) := run 4 b_quoted_word
noncomputable def b_next_word_5 : SV := sRet (eTup (aV (eC (.str "bad")) (aV (eC (.str "")) (aV (eV 1) (aNil)))))
noncomputable def b_next_word_4 : SV := sSeq (sIf (bCmp (pIn false) (eIxV 0 (eV 1)) (eC (.str "(),.+-*=<>"))) (sRet (eTup (aV (eC (.str "sign")) (aV (eIxV 0 (eV 1)) (aV (eBin pAdd (eV 1) (eC (.int 1))) (aNil)))))) (sNil)) (b_next_word_5)
noncomputable def b_next_word_3 : SV := sSeq (sIf (bCmp (pIn false) (eSl pSl (eV 0) (oSome (eV 1)) (oSome (eBin pAdd (eV 1) (eC (.int 2))))) (eC (.tup [.str "<>", .str "<=", .str ">="]))) (sRet (eTup (aV (eC (.str "sign")) (aV (eSl pSl (eV 0) (oSome (eV 1)) (oSome (eBin pAdd (eV 1) (eC (.int 2))))) (aV (eBin pAdd (eV 1) (eC (.int 2))) (aNil)))))) (sNil)) (b_next_word_4)
noncomputable def b_next_word_2 : SV := sSeq (sIf (bCmp (pEq false) (eIxV 0 (eV 1)) (eC (.str "\""))) (sRet (eCall 2 PG.f_quoted_word [none, none] (aV (eV 0) (aV (eV 1) (aNil))))) (sNil)) (b_next_word_3)
noncomputable def b_next_word_1 : SV := sSeq (sIf (bCmp (pIn false) (eIxV 0 (eV 1)) (eC (.str "0123456789"))) (sSeq (sAsg (gV 2) (eCall 3 PG.f_end_of_run [none, none, none] (aV (eV 0) (aV (eV 1) (aV (eC (.str "0123456789")) (aNil)))))) (sSeq (sIf (bOr (bCmp pGt (eBin pSub (eV 2) (eV 1)) (eC (.int 30))) (bCmp pGt (eCB pInt (aV (eSl pSl (eV 0) (oSome (eV 1)) (oSome (eV 2))) (aNil))) (eC (.int 1000000000000000000)))) (sRet (eTup (aV (eC (.str "bad")) (aV (eC (.str "")) (aV (eV 1) (aNil)))))) (sNil)) (sRet (eTup (aV (eC (.str "number")) (aV (eCB pInt (aV (eSl pSl (eV 0) (oSome (eV 1)) (oSome (eV 2))) (aNil))) (aV (eV 2) (aNil)))))))) (sNil)) (b_next_word_2)
noncomputable def b_next_word : SV := sSeq (sIf (bCmp (pIn false) (eIxV 0 (eV 1)) (eC (.str "abcdefghijklmnopqrstuvwxyz"))) (sSeq (sAsg (gV 2) (eCall 3 PG.f_end_of_run [none, none, none] (aV (eV 0) (aV (eV 1) (aV (eBin pAdd (eBin pAdd (eC (.str "abcdefghijklmnopqrstuvwxyz")) (eC (.str "0123456789"))) (eC (.str "_"))) (aNil)))))) (sSeq (sAsg (gV 3) (eSl pSl (eV 0) (oSome (eV 1)) (oSome (eV 2)))) (sSeq (sIf (bInK ("always" :: "and" :: "as" :: "at" :: "count" :: "delete" :: "div" :: "except" :: "exists" :: "from" :: "greatest" :: "group" :: "having" :: "insert" :: "intersect" :: "key" :: "known" :: "least" :: "mod" :: "most" :: "not" :: "number" :: "or" :: "refers" :: "require" :: "select" :: "set" :: "sum" :: "table" :: "text" :: "to" :: "union" :: "update" :: "where" :: "whole" :: [] : List Str) (eV 3)) (sRet (eTup (aV (eC (.str "keyword")) (aV (eV 3) (aV (eV 2) (aNil)))))) (sNil)) (sSeq (sIf (bCmp pGt (eLenV 3) (eC (.int 20))) (sRet (eTup (aV (eC (.str "bad")) (aV (eC (.str "")) (aV (eV 1) (aNil)))))) (sNil)) (sRet (eTup (aV (eC (.str "name")) (aV (eV 3) (aV (eV 2) (aNil)))))))))) (sNil)) (b_next_word_1)
noncomputable def f_next_word : List T → Option (List T × T) := run 4 b_next_word
noncomputable def l_words_1 : SV := sSeq (sIf (bCmp (pIn false) (eIxV 0 (eV 2)) (eC (.str " \n"))) (sSeq (sAsg (gV 2) (eBin pAdd (eV 2) (eC (.int 1)))) (sCont)) (sNil)) (sSeq (sAsg (gUnp 3 (gsCons (gV 3) (gsCons (gV 4) (gsCons (gV 5) (gsNil))))) (eCall 2 PG.f_next_word [none, none] (aV (eV 0) (aV (eV 2) (aNil))))) (sSeq (sApp 1 (eTup (aV (eV 3) (aV (eV 4) (aV (eV 2) (aNil)))))) (sSeq (sIf (bCmp (pEq false) (eV 3) (eC (.str "bad"))) (sRet (eM 1)) (sNil)) (sAsg (gV 2) (eV 5)))))
noncomputable def b_words_3 : SV := sRet (eM 1)
noncomputable def b_words_2 : SV := sSeq (sWhile (bCmp pLt (eV 2) (eLenV 0)) (l_words_1)) (b_words_3)
noncomputable def b_words_1 : SV := sSeq (sAsg (gV 2) (eC (.int 0))) (b_words_2)
noncomputable def b_words : SV := sSeq (sAsg (gV 1) (eLst (aNil))) (b_words_1)
noncomputable def f_words : List T → Option (List T × T) := run 6 b_words
end PG
namespace CS
open Bv
abbrev Pr := Int × Int
def inP (n : Int) (p : Pr) : Prop := p.1 ≤ n ∧ n < p.2
def mg (c : Pr) : List Pr → List Pr
  | [] => [c]
  | p :: ps => if p.1 ≤ c.2 then mg (c.1, if p.2 > c.2 then p.2 else c.2) ps else c :: mg p ps
instance (n : Int) (p : Pr) : Decidable (inP n p) := inferInstanceAs (Decidable (_ ∧ _))
end CS
namespace CS
open PySem PySem.Spec L2 Bv
set_option maxHeartbeats 4000000
theorem rgOk_nat {n : Nat} (h : n ≤ 16777216) : rgOk (n : Int) = true := by
  unfold rgOk
  rw [Bool.and_eq_true, decide_eq_true_iff, decide_eq_true_iff]
  have e : (2 : Int) ^ 62 = 4611686018427387904 := by decide
  rw [e]
  omega
def cell (ns : List Int) (k : Nat) : Int := ns.getD k 0
theorem cell_eq (ns : List Int) (k : Nat) : PG.f_w_cell [.sh (.scr ns), .sh (.int k)] = some ([.sh (.scr ns), .sh (.int k)], .sh (.int (cell ns k))) := by
  unfold PG.f_w_cell
  rw [run_eq]
  unfold PG.b_w_cell PG.b_w_cell_1 cell
  by_cases h : k < ns.length
  · simp [h, atI_ofNat]
  · simp [h]
theorem log2_of_bits {z : Int} (h : Builtin.Int.intBits z ≤ 1048576) : z.natAbs.log2 ≤ 1048576 := by
  unfold Builtin.Int.intBits at h
  split at h
  · rename_i hz
    have : z = 0 := by simpa using hz
    subst this; decide
  · omega
theorem log2_le {z : Int} {k : Nat} (h : z.natAbs < 2 ^ k) : z.natAbs.log2 ≤ k := by
  rcases Nat.eq_zero_or_pos z.natAbs with h0 | h0
  · rw [h0]; simp
  · have h2 := Nat.log2_self_le (n := z.natAbs) (by omega)
    rcases Nat.lt_or_ge k z.natAbs.log2 with h3 | h3
    · have := Nat.pow_le_pow_right (n := 2) (by decide) (Nat.le_of_lt h3)
      omega
    · exact h3
theorem fmod_below {x b : Int} (h : 0 < b) : 0 ≤ x.fmod b ∧ x.fmod b < b := ⟨Int.fmod_nonneg_of_pos x h, Int.fmod_lt_of_pos x h⟩
end CS
namespace CS
open PySem PySem.Spec L2 Bv
set_option maxHeartbeats 4000000
end CS
namespace CS
open Bv
end CS
namespace CS
open PySem PySem.Spec L2 Bv
set_option maxHeartbeats 4000000
end CS
namespace CS
open PySem PySem.Spec L2 Bv
set_option maxHeartbeats 4000000
theorem whileN_stop {c : BV} {β : SV} {n : Nat} {e e1 : Ev} (h : c e = some (e1, false)) : whileN c β (n + 1) e = some (e1, .nx) := by
  show (c e).bind _ = _
  rw [h]; rfl
end CS
namespace CS
open PySem PySem.Spec L2 Bv
mutual
/-- what == is shown for -/
def gd : D → Bool
  | .non => true
  | .bl _ => true
  | .int _ => true
  | .str x => PyData.canLay0 (.str x)
  | .fn _ => false
  | .ty _ => false
  | .exn _ => false
  | .scr _ => false
  | .cn _ _ => false
  | .tup ds => gds ds
  | .lst ds => gds ds
def gds : List D → Bool
  | [] => true
  | d :: ds => gd d && gds ds
end
mutual
def dp : D → Nat
  | .tup ds => dps ds + 1
  | .lst ds => dps ds + 1
  | _ => 0
def dps : List D → Nat
  | [] => 0
  | d :: ds => max (dp d) (dps ds)
end
mutual
theorem gd_py : ∀ {d : D}, gd d = true → ∃ p, toPy d = some p ∧ PyData.canLay0 p = true ∧ PyData.depth p = dp d
  | .non, _ => ⟨.none, rfl, rfl, rfl⟩
  | .bl b, _ => ⟨.bool b, rfl, rfl, rfl⟩
  | .int i, _ => ⟨.int i, rfl, rfl, rfl⟩
  | .str x, h => ⟨.str x, rfl, h, rfl⟩
  | .fn _, h => by cases h
  | .ty _, h => by cases h
  | .exn _, h => by cases h
  | .scr _, h => by cases h
  | .cn _ _, h => by cases h
  | .tup ds, h => by
    obtain ⟨ps, h1, h2, h3⟩ := gds_py (ds := ds) h
    refine ⟨.tuple ps, ?_, h2, ?_⟩
    · unfold toPy; rw [h1]
    · show PyData.depthAll ps + 1 = dps ds + 1
      rw [h3]
  | .lst ds, h => by
    obtain ⟨ps, h1, h2, h3⟩ := gds_py (ds := ds) h
    refine ⟨.list ps, ?_, h2, ?_⟩
    · unfold toPy; rw [h1]
    · show PyData.depthAll ps + 1 = dps ds + 1
      rw [h3]
theorem gds_py : ∀ {ds : List D}, gds ds = true → ∃ ps, toPys ds = some ps ∧ PyData.canLayAll0 ps = true ∧ PyData.depthAll ps = dps ds
  | [], _ => ⟨[], rfl, rfl, rfl⟩
  | d :: ds, h => by
    have h' : (gd d && gds ds) = true := h
    rw [Bool.and_eq_true] at h'
    obtain ⟨p, a1, a2, a3⟩ := gd_py h'.1
    obtain ⟨ps, b1, b2, b3⟩ := gds_py h'.2
    refine ⟨p :: ps, ?_, ?_, ?_⟩
    · unfold toPys; rw [a1, b1]
    · show (PyData.canLay0 p && PyData.canLayAll0 ps) = true
      rw [a2, b2]; rfl
    · show max (PyData.depth p) (PyData.depthAll ps) = max (dp d) (dps ds)
      rw [a3, b3]
end
mutual
theorem eqv_self : ∀ p : PyData, PyData.canLay0 p = true → PyData.eqv p p = true
  | .none, _ => rfl
  | .bool b, _ => by show (b == b) = true; simp
  | .int i, _ => by show (i == i) = true; simp
  | .str x, _ => by show (x == x) = true; simp
  | .list ps, h => eqvAll_self ps h
  | .tuple ps, h => eqvAll_self ps h
  | .dict _, h => by cases h
theorem eqvAll_self : ∀ ps : List PyData, PyData.canLayAll0 ps = true → PyData.eqvAll ps ps = true
  | [], _ => rfl
  | p :: ps, h => by
    have h' : (PyData.canLay0 p && PyData.canLayAll0 ps) = true := h
    rw [Bool.and_eq_true] at h'
    show (PyData.eqv p p && PyData.eqvAll ps ps) = true
    rw [eqv_self p h'.1, eqvAll_self ps h'.2]; rfl
end
theorem pEq_self (neg : Bool) {d : D} (h : gd d = true) (hd : dp d ≤ 64) : pEq neg d d = some (.sh (.bl (!neg))) := by
  obtain ⟨p, h1, h2, h3⟩ := gd_py h
  have hs : SeqAt.shaped p = true := by
    unfold SeqAt.shaped
    rw [h2, h3]
    exact decide_eq_true hd
  unfold pEq
  rw [h1]
  show (if SeqAt.shaped p = true ∧ SeqAt.shaped p = true then _ else _) = _
  rw [if_pos ⟨hs, hs⟩, eqv_self p h2]
  cases neg <;> rfl
end CS
namespace CS
open Bv
end CS
namespace CS
open Bv
end CS
namespace CS
open PySem PySem.Spec L2 Bv
set_option maxHeartbeats 4000000
end CS
namespace CS
open PySem PySem.Spec L2 Bv
set_option maxHeartbeats 4000000
end CS
namespace CS
open PySem PySem.Spec L2 Bv
set_option maxHeartbeats 4000000
end CS
namespace CS
open PySem PySem.Spec L2 Bv
set_option maxHeartbeats 4000000
end CS
namespace CS
open PySem PySem.Spec L2 Bv
set_option maxHeartbeats 4000000
end CS
namespace CS
open PySem PySem.Spec L2 Bv
set_option maxHeartbeats 4000000
end CS
namespace CS
open PySem PySem.Spec L2 Bv
set_option maxHeartbeats 4000000
end CS
namespace CS
open PySem PySem.Spec L2 Bv
set_option maxHeartbeats 4000000
theorem mulOk_of {x y : Int} (hx : x.natAbs < 2 ^ 1000) (hy : y.natAbs < 2 ^ 1000) : mulOk x y = true := by
  have a := log2_le hx
  have b := log2_le hy
  unfold mulOk
  exact decide_eq_true (by omega)
end CS
namespace CS
open PySem PySem.Spec L2 Bv SX
set_option maxHeartbeats 4000000
abbrev dS (l : List Nat) : D := .str (S l)
abbrev sSt (l : List Nat) : Sl := .ok (.sh (.str (S l)))
def okC (l : List Nat) : Prop := ∀ c ∈ l, c < 0x110000
theorem strOk_S {l : List Nat} (h : okC l) : PyData.strOk (S l) = true := by
  unfold PyData.strOk
  rw [Array.all_eq_true']
  intro c hc
  exact decide_eq_true (h c (by simpa using hc))
theorem pEq_S2 (neg : Bool) {a b : List Nat} (ha : okC a) (hb : okC b) : pEq neg (.str (S a)) (.str (S b)) = some (.sh (.bl (if neg then !decide (a = b) else decide (a = b)))) := by
  have sh : ∀ l : List Nat, okC l → SeqAt.shaped (.str (S l)) = true := fun l h => by
    unfold SeqAt.shaped
    have h1 : PyData.canLay0 (.str (S l)) = true := strOk_S h
    have h2 : PyData.depth (.str (S l)) = 0 := rfl
    rw [h1, h2]; decide
  show (if SeqAt.shaped (.str (S a)) = true ∧ SeqAt.shaped (.str (S b)) = true then some (T.sh (.bl (if neg then !PyData.eqv (.str (S a)) (.str (S b)) else PyData.eqv (.str (S a)) (.str (S b))))) else none) = _
  rw [if_pos ⟨sh a ha, sh b hb⟩]
  have e : PyData.eqv (.str (S a)) (.str (S b)) = decide (a = b) := by
    have : PyData.eqv (.str (S a)) (.str (S b)) = (S a == S b) := rfl
    rw [this, S_beq_eq]
  rw [e]
theorem pLen_S {l : List Nat} (h : l.length ≤ 16777216) : pLen [.str (S l)] = some (.sh (.int (l.length : Int))) := by
  show (if (S l).length ≤ sizeLine then some (T.sh (.int ((S l).length : Int))) else none) = _
  rw [S_len, if_pos (by rw [sizeLine_num]; exact h)]
theorem pIn_S (neg : Bool) (c : Nat) (l : List Nat) : pIn neg (.str (S [c])) (.str (S l)) = some (.sh (.bl (if neg then !decide (c ∈ l) else decide (c ∈ l)))) := by
  have h := in_one l c
  show some (T.sh (.bl (if neg then !(!(Builtin.Str.occurrences (S l) (S [c]) 0 (S l).length 1).isEmpty) else !(Builtin.Str.occurrences (S l) (S [c]) 0 (S l).length 1).isEmpty))) = _
  rw [h]
theorem pStr_nat {n : Nat} (h : n < 2 ^ 64) : pStr [.int (n : Int)] = some (.sh (.str (S (TL.numL n)))) := by
  have e : pStr [.int (n : Int)] = if (n : Int).natAbs.log2 < 1920 then some (T.sh (.str (Str.ofString (toString (n : Int))))) else none := rfl
  have hl := log2_le (z := (n : Int)) (k := 64) (by simpa using h)
  rw [e, if_pos (by omega), num_S]
def isD (c : Nat) : Bool := decide (48 ≤ c) && decide (c ≤ 57)
end CS
namespace CS
open PySem PySem.Spec L2 Bv SX
set_option maxHeartbeats 4000000
structure DS where
  ns : List Int
  rest : Int
  pos : Int
  mixed : Int
  it : T
  len : Int
  cnt : Int
  flag : Int
abbrev stL (s : DS) : List T := [.sh (.scr s.ns), .sh (.int s.rest), .sh (.int s.pos), .sh (.int s.mixed), s.it, .sh (.int s.len), .sh (.int s.cnt), .sh (.int s.flag)]
theorem fmod_lt {x b : Int} (hb : 0 < b) : 0 ≤ x.fmod b ∧ x.fmod b < b := by
  have := fmod_below (x := x) (b := b) hb
  omega
theorem mulOk_bits {x y : Int} (hx : Builtin.Int.intBits x ≤ 1048576) (hy : y.natAbs < 2 ^ 100) : mulOk x y = true := by
  have a := log2_of_bits hx
  have b := log2_le hy
  unfold mulOk
  exact decide_eq_true (by omega)
section
variable {b : Bool} {s : DS} {e : Ev}
theorem st_ix {k : Nat} {d : D} {L : List T} (h : L[k]? = some (.sh d)) : eIxV 0 (eC (.int (k : Int))) (.ok (.ow b L) :: e) = some (.ok (.ow b L) :: e, .sh d) := by
  have hl : k < L.length := (List.getElem?_eq_some_iff.mp h).1
  have ow : isOw (Sl.ok (.ow b L) :: e) 0 = true := rfl
  rw [eIxV_ap, if_pos ow]
  have hat : L2.atI L (k : Int) = some (T.sh d) := Bv.atI_nat h
  show (match L2.atI L (k : Int) with
    | some (.sh d) => some (Sl.ok (.ow b L) :: e, T.sh d)
    | _ => none) = _
  rw [hat]
theorem st2 : eIxV 0 (eC (.int 2)) (.ok (.ow b (stL s)) :: e) = some (.ok (.ow b (stL s)) :: e, .sh (.int s.pos)) := st_ix (k := 2) rfl
end
abbrev sJ (i : Int) : Sl := .ok (.sh (.int i))
def isL (c : Nat) : Bool := decide (97 ≤ c) && decide (c ≤ 122)
def isI (c : Nat) : Bool := isL c || (isD c || decide (c = 95))
def cL : List Nat := [97, 98, 99, 100, 101, 102, 103, 104, 105, 106, 107, 108, 109, 110, 111, 112, 113, 114, 115, 116, 117, 118, 119, 120, 121, 122]
def cD : List Nat := [48, 49, 50, 51, 52, 53, 54, 55, 56, 57]
def cI : List Nat := cL ++ (cD ++ [95])
theorem l_L : ("abcdefghijklmnopqrstuvwxyz" : Str) = S cL := by decide +kernel
theorem l_D9 : ("0123456789" : Str) = S cD := by decide +kernel
theorem mem_cL (c : Nat) : decide (c ∈ cL) = isL c := by
  unfold isL cL
  rw [Bool.eq_iff_iff, Bool.and_eq_true, decide_eq_true_iff, decide_eq_true_iff, decide_eq_true_iff]
  simp
  omega
theorem mem_cD (c : Nat) : decide (c ∈ cD) = isD c := by
  unfold isD cD
  rw [Bool.eq_iff_iff, Bool.and_eq_true, decide_eq_true_iff, decide_eq_true_iff, decide_eq_true_iff]
  simp
  omega
theorem mem_cI (c : Nat) : decide (c ∈ cI) = isI c := by
  unfold isI cI
  rw [← mem_cL, ← mem_cD, Bool.eq_iff_iff]
  simp
def jn (w : List Nat) (c : Nat) : Bool := if (w.head?.elim false isL) = true then isI c else if (w.head?.elim false isD) = true then isD c else (decide (w = [60]) || decide (w = [62])) && decide (c ∈ [60, 62, 61])
end CS
namespace CW
open PySem PySem.Spec L2 Bv
def Wo {α : Type} (o : Option α) (Q : α → Prop) : Prop := ∃ a, o = some a ∧ Q a
section
variable {α β : Type} {Q : α → Prop}
theorem Wo.mono {o : Option α} {Q' : α → Prop} (h : Wo o Q) (w : ∀ a, Q a → Q' a) : Wo o Q' := let ⟨a, e, q⟩ := h; ⟨a, e, w a q⟩
@[simp] theorem wo_some {a : α} : Wo (some a) Q ↔ Q a := ⟨fun ⟨_, e, q⟩ => (by cases e; exact q), fun q => ⟨a, rfl, q⟩⟩
@[simp] theorem wo_none : Wo (none : Option α) Q ↔ False := ⟨fun ⟨_, e, _⟩ => (by cases e), fun q => q.elim⟩
theorem wo_bind {o : Option β} {f : β → Option α} : Wo (o.bind f) Q ↔ Wo o fun b => Wo (f b) Q := by
  cases o with
  | none => exact ⟨fun ⟨_, e, _⟩ => (by cases e), fun ⟨_, e, _⟩ => (by cases e)⟩
  | some b => rw [wo_some]; exact Iff.rfl
theorem wo_if {c : Prop} [Decidable c] {x y : Option α} : Wo (if c then x else y) Q ↔ if c then Wo x Q else Wo y Q := by
  by_cases h : c <;> simp [h]
end
def Wp (f : SV) (e : Ev) (Q : Ev → Fl → Prop) : Prop := Wo (f e) fun r => Q r.1 r.2
def We (f : EV) (e : Ev) (Q : Ev → T → Prop) : Prop := Wo (f e) fun r => Q r.1 r.2
def Wb (f : BV) (e : Ev) (Q : Ev → Bool → Prop) : Prop := Wo (f e) fun r => Q r.1 r.2
def Wa (f : AV) (e : Ev) (Q : Ev → List T → Prop) : Prop := Wo (f e) fun r => Q r.1 r.2
def Wi (f : IV) (e : Ev) (Q : Ev → List D → Prop) : Prop := Wo (f e) fun r => Q r.1 r.2
def Wz (f : PV) (e : Ev) (Q : Ev → Option Int → Prop) : Prop := Wo (f e) fun r => Q r.1 r.2
def Wg (f : Ev → Option Ev) (e : Ev) (Q : Ev → Prop) : Prop := Wo (f e) Q
def Wf (φ : List T → Option (List T × T)) (ts : List T) (Q : List T → T → Prop) : Prop := Wo (φ ts) fun r => Q r.1 r.2
def Wl (γ : T → Ev → Option Ev) (β : SV) (ds : List D) (e : Ev) (Q : Ev → Fl → Prop) : Prop := Wo (forL γ β ds e) fun r => Q r.1 r.2
section
variable {e : Ev} {Q : Ev → Fl → Prop} {Q' : Ev → Fl → Prop}
theorem Wp.mono {f : SV} (h : Wp f e Q) (w : ∀ e l, Q e l → Q' e l) : Wp f e Q' := Wo.mono h fun r q => w _ _ q
theorem wf_of {φ : List T → Option (List T × T)} {ts ts' : List T} {r : T} {Q : List T → T → Prop} (h : φ ts = some (ts', r)) (q : Q ts' r) : Wf φ ts Q := ⟨_, h, q⟩
theorem Wf.eq {φ : List T → Option (List T × T)} {ts ts' : List T} {r : T} (h : Wf φ ts fun a b => a = ts' ∧ b = r) : φ ts = some (ts', r) := by
  obtain ⟨⟨a, b⟩, e, rfl, rfl⟩ := h; exact e
end
section
variable {e : Ev} {Q : Ev → T → Prop} {f g h : EV} {p q : D → D → Option T} {a : AV} {b c : BV} {i j n : Nat}
@[simp] theorem we_C {d : D} : We (eC d) e Q ↔ Q e (.sh d) := wo_some
@[simp] theorem we_Bin : We (eBin p f g) e Q ↔ We f e fun e1 x => We g e1 fun e2 y => Wo (p (fz x) (fz y)) fun t => Q e2 t := by
  show Wo ((f e).bind _) _ ↔ Wo (f e) _
  rw [wo_bind]
  refine exists_congr fun r => and_congr_right fun _ => ?_
  try dsimp only
  rw [wo_bind]
  refine exists_congr fun r => and_congr_right fun _ => ?_
  try dsimp only
  rw [wo_bind]
  refine exists_congr fun r => and_congr_right fun _ => ?_
  try dsimp only
  exact wo_some
@[simp] theorem wa_nil {Q : Ev → List T → Prop} : Wa aNil e Q ↔ Q e [] := wo_some
@[simp] theorem wa_V {Q : Ev → List T → Prop} : Wa (aV f a) e Q ↔ We f e fun e1 x => Wa a e1 fun e2 xs => Q e2 (.sh (fz x) :: xs) := by
  show Wo ((f e).bind _) _ ↔ Wo (f e) _
  rw [wo_bind]
  refine exists_congr fun r => and_congr_right fun _ => ?_
  try dsimp only
  rw [wo_bind]
  refine exists_congr fun r => and_congr_right fun _ => ?_
  try dsimp only
  exact wo_some
@[simp] theorem wo_iteN {c : Prop} [Decidable c] {α : Type} {x : α} {Q : α → Prop} : Wo (if c then some x else none) Q ↔ c ∧ Q x := by
  by_cases h : c
  · rw [if_pos h, wo_some]; exact ⟨fun q => ⟨h, q⟩, fun q => q.2⟩
  · rw [if_neg h, wo_none]; exact ⟨fun q => q.elim, fun q => absurd q.1 h⟩
@[simp] theorem we_Tup : We (eTup a) e Q ↔ Wa a e fun e1 ts => ts.length ≤ 16777216 ∧ Q e1 (.sh (.tup (fzs ts))) := by
  show Wo ((a e).bind _) _ ↔ Wo (a e) _
  rw [wo_bind]
  refine exists_congr fun r => and_congr_right fun _ => ?_
  try dsimp only
  rw [wo_iteN, sizeLine_num]
@[simp] theorem we_Lst : We (eLst a) e Q ↔ Wa a e fun e1 ts => ts.length ≤ 16777216 ∧ Q e1 (.ow false ts) := by
  show Wo ((a e).bind _) _ ↔ Wo (a e) _
  rw [wo_bind]
  refine exists_congr fun r => and_congr_right fun _ => ?_
  try dsimp only
  rw [wo_iteN, sizeLine_num]
@[simp] theorem wb_E {tr : D → Option Bool} {Q : Ev → Bool → Prop} : Wb (bE tr f) e Q ↔ We f e fun e1 x => Wo (tr (fz x)) fun k => Q e1 k := by
  show Wo ((f e).bind _) _ ↔ Wo (f e) _
  rw [wo_bind]
  refine exists_congr fun r => and_congr_right fun _ => ?_
  try dsimp only
  rw [wo_bind]
  refine exists_congr fun r => and_congr_right fun _ => ?_
  try dsimp only
  exact wo_some
@[simp] theorem wb_And {Q : Ev → Bool → Prop} : Wb (bAnd b c) e Q ↔ Wb b e fun e1 k => if k = true then Wb c e1 Q else Q e1 false := by
  show Wo ((b e).bind _) _ ↔ Wo (b e) _
  rw [wo_bind]
  refine exists_congr fun r => and_congr_right fun _ => ?_
  try dsimp only
  rw [wo_if, wo_some]; exact Iff.rfl
@[simp] theorem wb_Or {Q : Ev → Bool → Prop} : Wb (bOr b c) e Q ↔ Wb b e fun e1 k => if k = true then Q e1 true else Wb c e1 Q := by
  show Wo ((b e).bind _) _ ↔ Wo (b e) _
  rw [wo_bind]
  refine exists_congr fun r => and_congr_right fun _ => ?_
  try dsimp only
  rw [wo_if, wo_some]; exact Iff.rfl
@[simp] theorem wb_Not {Q : Ev → Bool → Prop} : Wb (bNot b) e Q ↔ Wb b e fun e1 k => Q e1 (!k) := by
  show Wo ((b e).bind _) _ ↔ Wo (b e) _
  rw [wo_bind]
  refine exists_congr fun r => and_congr_right fun _ => ?_
  try dsimp only
  exact wo_some
def Wk (o : Option T) (Q : Bool → Prop) : Prop := Wo o fun t => match t with
  | .sh (.bl k) => Q k
  | _ => False
@[simp] theorem wk_bl {k : Bool} {Q : Bool → Prop} : Wk (some (.sh (.bl k))) Q ↔ Q k := wo_some
@[simp] theorem wb_Cmp {Q : Ev → Bool → Prop} : Wb (bCmp p f g) e Q ↔ We f e fun e1 x => We g e1 fun e2 y => Wk (p (fz x) (fz y)) fun k => Q e2 k := by
  show Wo ((f e).bind _) _ ↔ Wo (f e) _
  rw [wo_bind]
  refine exists_congr fun r => and_congr_right fun _ => ?_
  try dsimp only
  rw [wo_bind]
  refine exists_congr fun s => and_congr_right fun _ => ?_
  try dsimp only
  cases hp : p (fz r.2) (fz s.2) with
  | none => exact wo_none.trans wo_none.symm
  | some t =>
    refine Iff.trans ?_ wo_some.symm
    cases t with
    | tu _ => exact wo_none
    | cn _ _ _ => exact wo_none
    | ow b ts => exact wo_none
    | sh d => cases d <;> first | exact wo_none | exact wo_some
def Tk (t : T) (Q : Bool → Prop) : Prop := match t with
  | .sh (.bl k) => Q k
  | _ => False
@[simp] theorem tk_bl {k : Bool} {Q : Bool → Prop} : Tk (.sh (.bl k)) Q ↔ Q k := Iff.rfl
@[simp] theorem we_And : We (eAnd f g) e Q ↔ We f e fun e1 x => Tk x fun k => if k = true then We g e1 Q else Q e1 (.sh (.bl false)) := by
  show Wo ((f e).bind _) _ ↔ Wo (f e) _
  rw [wo_bind]
  refine exists_congr fun r => and_congr_right fun _ => ?_
  try dsimp only
  obtain ⟨e1, t⟩ := r
  cases t with
  | tu _ => exact wo_none
  | cn _ _ _ => exact wo_none
  | ow b ts => exact wo_none
  | sh d =>
    cases d with
    | bl k =>
      cases k with
      | true => exact Iff.rfl
      | false => exact wo_some
    | _ => exact wo_none
@[simp] theorem we_CB {p : List D → Option T} : We (eCB p a) e Q ↔ Wa a e fun e1 ts => Wo (p (fzs ts)) fun t => Q e1 t := by
  show Wo ((a e).bind _) _ ↔ Wo (a e) _
  rw [wo_bind]
  refine exists_congr fun r => and_congr_right fun _ => ?_
  try dsimp only
  rw [wo_bind]
  refine exists_congr fun r => and_congr_right fun _ => ?_
  try dsimp only
  exact wo_some
@[simp] theorem we_Call {φ : List T → Option (List T × T)} {ms : List (Option (Nat × Bool))} : We (eCall n φ ms a) e Q ↔ Wa a e fun e1 ts => ts.length = n ∧ Wf φ ts fun ts' r => Wo (putBack ms ts' e1) fun e2 => Q e2 r := by
  show Wo ((a e).bind _) _ ↔ Wo (a e) _
  rw [wo_bind]
  refine exists_congr fun r => and_congr_right fun _ => ?_
  try dsimp only
  by_cases hn : r.2.length = n
  · rw [if_pos hn, wo_bind]
    refine Iff.trans ?_ (show (Wf φ r.2 fun ts' r0 => Wo (putBack ms ts' r.1) fun e2 => Q e2 r0) ↔ _ from ⟨fun h => ⟨hn, h⟩, fun h => h.2⟩)
    refine exists_congr fun s => and_congr_right fun _ => ?_
    try dsimp only
    rw [wo_bind]
    refine exists_congr fun r => and_congr_right fun _ => ?_
    try dsimp only
    exact wo_some
  · rw [if_neg hn, wo_none]
    exact ⟨fun h => h.elim, fun h => absurd h.1 hn⟩
@[simp] theorem wz_Some {Q : Ev → Option Int → Prop} : Wz (oSome f) e Q ↔ We f e fun e1 x => match fz x with
    | .int i => Q e1 (some i)
    | _ => False := by
  show Wo ((f e).bind _) _ ↔ Wo (f e) _
  rw [wo_bind]
  refine exists_congr fun r => and_congr_right fun _ => ?_
  try dsimp only
  cases fz r.2 <;> first | exact wo_none | exact wo_some
@[simp] theorem we_Sl {p : D → Option Int → Option Int → Option T} {l u : PV} : We (eSl p f l u) e Q ↔ We f e fun e1 x => Wz l e1 fun e2 lo => Wz u e2 fun e3 hi => Wo (p (fz x) lo hi) fun t => Q e3 t := by
  show Wo ((f e).bind _) _ ↔ Wo (f e) _
  rw [wo_bind]
  refine exists_congr fun r => and_congr_right fun _ => ?_
  try dsimp only
  rw [wo_bind]
  refine exists_congr fun r => and_congr_right fun _ => ?_
  try dsimp only
  rw [wo_bind]
  refine exists_congr fun r => and_congr_right fun _ => ?_
  try dsimp only
  rw [wo_bind]
  refine exists_congr fun r => and_congr_right fun _ => ?_
  try dsimp only
  exact wo_some
theorem we_IxV : We (eIxV i f) e Q ↔ if isOw e i = true then We f e fun e1 k => match e1[i]?, fz k with
      | some (.ok (.ow _ ts)), .int k => (match L2.atI ts k with
        | some (.sh d) => Q e1 (.sh d)
        | _ => False)
      | _, _ => False
    else We (eBin pIx (eV i) f) e Q := by
  show Wo (eIxV i f e) _ ↔ _
  rw [eIxV_ap]
  by_cases ho : isOw e i = true
  · rw [if_pos ho, if_pos ho, wo_bind]
    refine exists_congr fun r => and_congr_right fun _ => ?_
    obtain ⟨e1, x⟩ := r
    dsimp only
    cases e1[i]? with
    | none => exact wo_none
    | some s => cases s with
      | un => exact wo_none
      | mv => exact wo_none
      | ok t => cases t with
        | tu _ => exact wo_none
        | cn _ _ _ => exact wo_none
        | sh d => exact wo_none
        | ow b ts => cases fz x with
          | int k =>
            dsimp only
            cases L2.atI ts k with
            | none => exact wo_none
            | some t => cases t with
              | tu _ => exact wo_none
              | cn _ _ _ => exact wo_none
              | sh d => exact wo_some
              | ow b us => exact wo_none
          | _ => exact wo_none
  · rw [if_neg ho, if_neg ho]; exact Iff.rfl
@[simp] theorem wb_InK {keys : List Str} {Q : Ev → Bool → Prop} : Wb (bInK keys f) e Q ↔ We f e fun e1 x => match fz x with
    | .str z => Q e1 (decide (z ∈ keys))
    | _ => False := by
  show Wo ((f e).bind _) _ ↔ Wo (f e) _
  rw [wo_bind]
  refine exists_congr fun r => and_congr_right fun _ => ?_
  try dsimp only
  cases fz r.2 <;> first | exact wo_none | exact wo_some
@[simp] theorem we_Find2 : We (eFind2 f g h) e Q ↔ We f e fun e1 x => We g e1 fun e2 y => We h e2 fun e3 z => match fz x, fz y, fz z with
    | .str a, .str b, .int i => Q e3 (.sh (.int (Txt.find3 a b i)))
    | _, _, _ => False := by
  show Wo ((f e).bind _) _ ↔ Wo (f e) _
  rw [wo_bind]
  refine exists_congr fun r => and_congr_right fun _ => ?_
  try dsimp only
  rw [wo_bind]
  refine exists_congr fun s => and_congr_right fun _ => ?_
  try dsimp only
  rw [wo_bind]
  refine exists_congr fun u => and_congr_right fun _ => ?_
  try dsimp only
  cases fz r.2 <;> cases fz s.2 <;> cases fz u.2 <;> first | exact wo_none | exact wo_some
@[simp] theorem wi_R1 {Q : Ev → List D → Prop} : Wi (iR1 a) e Q ↔ Wa a e fun e1 ts => match fzs ts with
    | [.int n] => rgOk n = true ∧ Q e1 (rgItems 0 n)
    | _ => False := by
  show Wo ((a e).bind _) _ ↔ Wo (a e) _
  rw [wo_bind]
  refine exists_congr fun r => and_congr_right fun _ => ?_
  try dsimp only
  rcases fzs r.2 with _ | ⟨d, _ | ⟨d2, l⟩⟩
  · exact wo_none
  · cases d <;> first | exact wo_none | exact wo_iteN
  · cases d <;> exact wo_none
end
section
variable {e : Ev} {Q : Ev → Prop} {i n : Nat} {γ : T → Ev → Option Ev} {γs : List D → Ev → Option Ev}
@[simp] theorem wg_V {d : D} : Wg (gV i (.sh d)) e Q ↔ match e[i]? with
    | some s => stk? s = true ∧ Q (e.set i (.ok (.sh d)))
    | none => False := by
  show Wo (gV i (.sh d) e) _ ↔ _
  rw [gV_sh]
  cases e[i]? with
  | none => exact wo_none
  | some s => exact wo_iteN
@[simp] theorem wg_VO {ts : List T} : Wg (gV i (.ow false ts)) e Q ↔ match e[i]? with
    | some s => stk? s = true ∧ Q (e.set i (.ok (.ow false ts)))
    | none => False := by
  show Wo (gV i (.ow false ts) e) _ ↔ _
  rw [gV_ow]
  cases e[i]? with
  | none => exact wo_none
  | some s => exact wo_iteN
@[simp] theorem wg_nil {ds : List D} : Wg (gsNil ds) e Q ↔ ds.isEmpty = true ∧ Q e := wo_iteN
@[simp] theorem wg_cons {d : D} {ds : List D} : Wg (gsCons γ γs (d :: ds)) e Q ↔ Wg (γ (.sh d)) e fun e1 => Wg (γs ds) e1 Q := by
  show Wo ((γ (.sh d) e).bind _) _ ↔ Wo _ _
  exact wo_bind
@[simp] theorem wg_tup {ds : List D} : Wg (gUnp n γs (.sh (.tup ds))) e Q ↔ ds.length = n ∧ Wg (γs ds) e Q := by
  show Wo (gUnp n γs (.sh (.tup ds)) e) _ ↔ _
  rw [gUnp_tup]
  by_cases h : ds.length = n
  · rw [if_pos h]; exact ⟨fun q => ⟨h, q⟩, fun q => q.2⟩
  · rw [if_neg h]; exact ⟨fun q => (wo_none.mp q).elim, fun q => absurd q.1 h⟩
end
section
variable {e : Ev} {Q : Ev → Fl → Prop} {f g : EV} {b : BV} {s t : SV} {i j k n : Nat}
@[simp] theorem wp_Ret : Wp (sRet f) e Q ↔ We f e fun e1 t => Q e1 (.rt t) := by
  show Wo ((f e).bind _) _ ↔ Wo (f e) _
  rw [wo_bind]
  refine exists_congr fun r => and_congr_right fun _ => ?_
  try dsimp only
  exact wo_some
@[simp] theorem wp_Nil : Wp sNil e Q ↔ Q e .nx := wo_some
@[simp] theorem wp_Cont : Wp sCont e Q ↔ Q e .ct := wo_some
@[simp] theorem wp_Asg {γ : T → Ev → Option Ev} : Wp (sAsg γ f) e Q ↔ We f e fun e1 t => Wg (γ t) e1 fun e2 => Q e2 .nx := by
  show Wo ((f e).bind _) _ ↔ Wo (f e) _
  rw [wo_bind]
  refine exists_congr fun r => and_congr_right fun _ => ?_
  try dsimp only
  rw [wo_bind]
  refine exists_congr fun r => and_congr_right fun _ => ?_
  try dsimp only
  exact wo_some
@[simp] theorem wp_If : Wp (sIf b s t) e Q ↔ Wb b e fun e1 k => if k = true then Wp s e1 Q else Wp t e1 Q := by
  show Wo ((b e).bind _) _ ↔ Wo (b e) _
  rw [wo_bind]
  refine exists_congr fun r => and_congr_right fun _ => ?_
  try dsimp only
  rw [wo_if]; exact Iff.rfl
def Nx (t : SV) (Q : Ev → Fl → Prop) (e : Ev) : Fl → Prop
  | .nx => Wp t e Q
  | fl => Q e fl
@[simp] theorem nx_nx : Nx t Q e .nx ↔ Wp t e Q := Iff.rfl
@[simp] theorem nx_rt {r : T} : Nx t Q e (.rt r) ↔ Q e (.rt r) := Iff.rfl
@[simp] theorem nx_ex {r : Xn} : Nx t Q e (.ex r) ↔ Q e (.ex r) := Iff.rfl
@[simp] theorem nx_bk : Nx t Q e .bk ↔ Q e .bk := Iff.rfl
@[simp] theorem nx_ct : Nx t Q e .ct ↔ Q e .ct := Iff.rfl
@[simp] theorem wp_Seq : Wp (sSeq s t) e Q ↔ Wp s e (Nx t Q) := by
  show Wo ((s e).bind _) _ ↔ Wo (s e) _
  rw [wo_bind]
  refine exists_congr fun r => and_congr_right fun _ => ?_
  try dsimp only
  obtain ⟨e1, l⟩ := r
  cases l <;> first | exact Iff.rfl | exact wo_some
@[simp] theorem wp_For {ι : IV} {γ : T → Ev → Option Ev} : Wp (sFor ι γ s) e Q ↔ Wi ι e fun e1 ds => Wl γ s ds e1 Q := by
  show Wo ((ι e).bind _) _ ↔ Wo (ι e) _
  rw [wo_bind]; exact Iff.rfl
theorem wp_App : Wp (sApp i f) e Q ↔ isOw e i = true ∧ We f e fun e1 x => match e1[i]? with
    | some (.ok (.ow bb ts)) => ts.length < 16777216 ∧ Q (e1.set i (.ok (.ow bb (ts ++ [.sh (fz x)])))) .nx
    | _ => False := by
  show Wo (sApp i f e) _ ↔ _
  rw [sApp_ap]
  by_cases ho : isOw e i = true
  · rw [if_pos ho, wo_bind]
    refine Iff.trans ?_ (show (We f e fun e1 x => match e1[i]? with
      | some (.ok (.ow bb ts)) => ts.length < 16777216 ∧ Q (e1.set i (.ok (.ow bb (ts ++ [.sh (fz x)])))) .nx
      | _ => False) ↔ _ from ⟨fun h => ⟨ho, h⟩, fun h => h.2⟩)
    refine exists_congr fun r => and_congr_right fun _ => ?_
    try dsimp only
    cases r.1[i]? with
    | none => exact wo_none
    | some s => cases s with
      | un => exact wo_none
      | mv => exact wo_none
      | ok t => cases t with
        | tu _ => exact wo_none
        | cn _ _ _ => exact wo_none
        | sh d => exact wo_none
        | ow b' ts =>
          dsimp only
          rw [wo_iteN, sizeLine_num]
  · rw [if_neg ho]
    exact ⟨fun h => (wo_none.mp h).elim, fun h => absurd h.1 ho⟩
@[simp] theorem wl_nil {γ : T → Ev → Option Ev} : Wl γ s [] e Q ↔ Q e .nx := wo_some
def Tn (γ : T → Ev → Option Ev) (s : SV) (ds : List D) (Q : Ev → Fl → Prop) (e : Ev) : Fl → Prop
  | .nx => Wl γ s ds e Q
  | .ct => Wl γ s ds e Q
  | .bk => Q e .nx
  | fl => Q e fl
@[simp] theorem tn_nx {γ : T → Ev → Option Ev} {ds : List D} : Tn γ s ds Q e .nx ↔ Wl γ s ds e Q := Iff.rfl
@[simp] theorem tn_ct {γ : T → Ev → Option Ev} {ds : List D} : Tn γ s ds Q e .ct ↔ Wl γ s ds e Q := Iff.rfl
@[simp] theorem tn_bk {γ : T → Ev → Option Ev} {ds : List D} : Tn γ s ds Q e .bk ↔ Q e .nx := Iff.rfl
@[simp] theorem tn_rt {γ : T → Ev → Option Ev} {ds : List D} {r : T} : Tn γ s ds Q e (.rt r) ↔ Q e (.rt r) := Iff.rfl
@[simp] theorem tn_ex {γ : T → Ev → Option Ev} {ds : List D} {r : Xn} : Tn γ s ds Q e (.ex r) ↔ Q e (.ex r) := Iff.rfl
theorem wl_cons {γ : T → Ev → Option Ev} {d : D} {ds : List D} : Wl γ s (d :: ds) e Q ↔ Wg (γ (.sh d)) e fun e1 => Wp s e1 (Tn γ s ds Q) := by
  show Wo (forL γ s (d :: ds) e) _ ↔ _
  rw [forL_cons, wo_bind]
  refine exists_congr fun r => and_congr_right fun _ => ?_
  try dsimp only
  rw [wo_bind]
  refine exists_congr fun r => and_congr_right fun _ => ?_
  try dsimp only
  obtain ⟨e1, l⟩ := r
  cases l <;> first | exact Iff.rfl | exact wo_some
theorem wl_rg {γ : T → Ev → Option Ev} (n : Nat) (I : Nat → Ev → Prop) (step : ∀ k e, k < n → I k e → Wg (γ (.sh (.int (k : Int)))) e fun e1 => Wp s e1 fun e2 l => match l with
      | .nx => I (k + 1) e2
      | .ct => I (k + 1) e2
      | .bk => Q e2 .nx
      | fl => Q e2 fl) (stop : ∀ e, I n e → Q e .nx) {e : Ev} (h : I 0 e) : Wl γ s (rgItems 0 (n : Int)) e Q := by
  have key : rgItems 0 (n : Int) = (List.range n).map fun k : Nat => D.int (k : Int) := by
    unfold rgItems; simp
  rw [key]
  have : ∀ (m k : Nat) (e : Ev), k + m = n → I k e → Wl γ s ((List.range' k m).map fun k : Nat => D.int (k : Int)) e Q := by
    intro m
    induction m with
    | zero => intro k e hk hI; exact wl_nil.mpr (stop e (by have : k = n := by omega
                                                            subst this; exact hI))
    | succ m ih =>
      intro k e hk hI
      rw [List.range'_succ, List.map_cons, wl_cons]
      refine Wo.mono (step k e (by omega) hI) fun e1 h1 => Wp.mono h1 fun e2 l h2 => ?_
      cases l with
      | nx => exact ih (k + 1) e2 (by omega) h2
      | ct => exact ih (k + 1) e2 (by omega) h2
      | bk => exact h2
      | rt t => exact h2
      | ex x => exact h2
  rw [List.range_eq_range']
  exact this n 0 e (by omega) h
def wq (c : BV) (s : SV) (k : Nat) (r : Ev × Fl) : Option (Ev × Fl) := match r.2 with
  | .nx => whileN c s k r.1
  | .ct => whileN c s k r.1
  | .bk => some (r.1, .nx)
  | .rt t => some (r.1, .rt t)
  | .ex x => some (r.1, .ex x)
theorem wp_While {c : BV} (I : Nat → Ev → Prop) (step : ∀ n e, I n e → Wb c e fun e1 k => if k = true then Wp s e1 fun e2 l => match l with
      | .nx => ∃ m, m < n ∧ I m e2
      | .ct => ∃ m, m < n ∧ I m e2
      | .bk => Q e2 .nx
      | fl => Q e2 fl
    else Q e1 .nx) {n : Nat} {e : Ev} (h : I n e) : Wp (sWhile c s) e Q := by
  have key : ∀ (n : Nat) (e : Ev), I n e → ∃ k r, whileN c s k e = some r ∧ Q r.1 r.2 := by
    intro n
    induction n using Nat.strongRecOn with
    | ind n ih =>
      intro e hI
      obtain ⟨⟨e1, k⟩, hc, h1⟩ := step n e hI
      cases k with
      | false => exact ⟨1, (e1, .nx), CS.whileN_stop hc, h1⟩
      | true =>
        obtain ⟨⟨e2, l⟩, hb, h2⟩ := h1
        have un : ∀ k, whileN c s (k + 1) e = wq c s k (e2, l) := fun k => by
          show (c e).bind _ = _
          rw [hc]
          show (s e1).bind (wq c s k) = _
          have hb' : s e1 = some (e2, l) := hb
          rw [hb']
          rfl
        cases l with
        | nx =>
          obtain ⟨m, hm, hI2⟩ := h2
          obtain ⟨k, r, h3, h4⟩ := ih m hm e2 hI2
          exact ⟨k + 1, r, (un k).trans h3, h4⟩
        | ct =>
          obtain ⟨m, hm, hI2⟩ := h2
          obtain ⟨k, r, h3, h4⟩ := ih m hm e2 hI2
          exact ⟨k + 1, r, (un k).trans h3, h4⟩
        | bk => exact ⟨1, _, un 0, h2⟩
        | rt t => exact ⟨1, _, un 0, h2⟩
        | ex x => exact ⟨1, _, un 0, h2⟩
  obtain ⟨k, r, h1, h2⟩ := key n e h
  exact ⟨r, sWhile_eq h1, h2⟩
end
def En (ts : List T) (Q : List T → T → Prop) (e : Ev) : Fl → Prop
  | .nx => Wo (outs ts e) fun o => Q o (.sh .non)
  | .rt r => Wo (outs ts e) fun o => Q o r
  | _ => False
section
variable {ts : List T} {Q : List T → T → Prop} {e : Ev}
@[simp] theorem en_nx : En ts Q e .nx ↔ Wo (outs ts e) fun o => Q o (.sh .non) := Iff.rfl
@[simp] theorem en_rt {r : T} : En ts Q e (.rt r) ↔ Wo (outs ts e) fun o => Q o r := Iff.rfl
theorem wf_run {N : Nat} {β : SV} : Wf (run N β) ts Q ↔ Wp β (ts.map Sl.ok ++ List.replicate (N - ts.length) .un) (En ts Q) := by
  show Wo (run N β ts) _ ↔ _
  rw [run_eq, wo_bind]
  refine exists_congr fun r => and_congr_right fun _ => ?_
  try dsimp only
  obtain ⟨e1, l⟩ := r
  cases l with
  | nx =>
    show Wo ((outs ts e1).bind _) _ ↔ Wo _ _
    rw [wo_bind]
    refine exists_congr fun r => and_congr_right fun _ => ?_
    try dsimp only
    exact wo_some
  | rt t =>
    show Wo ((outs ts e1).bind _) _ ↔ Wo _ _
    rw [wo_bind]
    refine exists_congr fun r => and_congr_right fun _ => ?_
    try dsimp only
    exact wo_some
  | _ => exact wo_none
end
section
variable {e : Ev} {Q : Ev → T → Prop} {f g h : EV} {a : AV} {i j n : Nat}
@[simp] theorem we_Vw : We (eV i) e Q ↔ Wo (eV i e) fun r => Q r.1 r.2 := Iff.rfl
@[simp] theorem we_Mw : We (eM i) e Q ↔ Wo (eM i e) fun r => Q r.1 r.2 := Iff.rfl
@[simp] theorem we_LenVw : We (eLenV i) e Q ↔ Wo (eLenV i e) fun r => Q r.1 r.2 := Iff.rfl
def ixA (e : Ev) (i : Nat) : Option (Ev × Option D) := if isOw e i = true then some (e, none) else (eV i e).bind fun r => some (r.1, some (fz r.2))
@[simp] theorem ixA_ap : ixA e i = if isOw e i = true then some (e, none) else (eV i e).bind fun r => some (r.1, some (fz r.2)) := rfl
def ixB (e : Ev) (i : Nat) (k : D) : Option D → Option T
  | none => (match e[i]?, k with
    | some (.ok (.ow _ ts)), .int k => (match L2.atI ts k with
      | some (.sh d) => some (.sh d)
      | _ => none)
    | _, _ => none)
  | some d => pIx d k
@[simp] theorem ixB_some {k d : D} : ixB e i k (some d) = pIx d k := rfl
@[simp] theorem ixB_none {k : D} : ixB e i k none = match e[i]?, k with
    | some (.ok (.ow _ ts)), .int k => (match L2.atI ts k with
      | some (.sh d) => some (.sh d)
      | _ => none)
    | _, _ => none := rfl
@[simp] theorem we_IxVw : We (eIxV i f) e Q ↔ Wo (ixA e i) fun r => We f r.1 fun e1 k => Wo (ixB e1 i (fz k) r.2) fun t => Q e1 t := by
  rw [we_IxV]
  unfold ixA
  by_cases ho : isOw e i = true
  · rw [if_pos ho, if_pos ho, wo_some]
    refine ⟨fun h => Wo.mono h fun r q => ?_, fun h => Wo.mono h fun r q => ?_⟩
    · obtain ⟨e1, k⟩ := r
      show Wo (ixB e1 i (fz k) none) _
      unfold ixB
      revert q
      dsimp only
      cases e1[i]? with
      | none => intro q; exact q.elim
      | some s => cases s with
        | un => intro q; exact q.elim
        | mv => intro q; exact q.elim
        | ok t => cases t with
          | tu _ => intro q; exact q.elim
          | cn _ _ _ => intro q; exact q.elim
          | sh d => intro q; exact q.elim
          | ow b ts => cases fz k with
            | int k =>
              dsimp only
              cases L2.atI ts k with
              | none => intro q; exact q.elim
              | some t => cases t with
                | tu _ => intro q; exact q.elim
                | cn _ _ _ => intro q; exact q.elim
                | sh d => intro q; dsimp only at q ⊢; exact wo_some.mpr q
                | ow b us => intro q; exact q.elim
            | _ => intro q; exact q.elim
    · obtain ⟨e1, k⟩ := r
      replace q : Wo (ixB e1 i (fz k) none) fun t => Q e1 t := q
      unfold ixB at q
      revert q
      dsimp only
      cases e1[i]? with
      | none => intro q; exact (wo_none.mp q).elim
      | some s => cases s with
        | un => intro q; exact (wo_none.mp q).elim
        | mv => intro q; exact (wo_none.mp q).elim
        | ok t => cases t with
          | tu _ => intro q; exact (wo_none.mp q).elim
          | cn _ _ _ => intro q; exact (wo_none.mp q).elim
          | sh d => intro q; exact (wo_none.mp q).elim
          | ow b ts => cases fz k with
            | int k =>
              dsimp only
              cases L2.atI ts k with
              | none => intro q; exact (wo_none.mp q).elim
              | some t => cases t with
                | tu _ => intro q; exact (wo_none.mp q).elim
                | cn _ _ _ => intro q; exact (wo_none.mp q).elim
                | sh d => intro q; dsimp only at q ⊢; exact wo_some.mp q
                | ow b us => intro q; exact (wo_none.mp q).elim
            | _ => intro q; exact (wo_none.mp q).elim
  · rw [if_neg ho, if_neg ho, wo_bind, we_Bin]
    show Wo (eV i e) _ ↔ Wo (eV i e) _
    refine exists_congr fun r => and_congr_right fun _ => ?_
    dsimp only
    rw [wo_some]
    exact Iff.rfl
def appT (e : Ev) (i : Nat) (d : D) : Option Ev := match e[i]? with
  | some (.ok (.ow bb ts)) => if ts.length < 16777216 then some (e.set i (.ok (.ow bb (ts ++ [.sh d])))) else none
  | _ => none
@[simp] theorem appT_ap {d : D} : appT e i d = match e[i]? with
  | some (.ok (.ow bb ts)) => if ts.length < 16777216 then some (e.set i (.ok (.ow bb (ts ++ [.sh d])))) else none
  | _ => none := rfl
@[simp] theorem wp_Appw {Q : Ev → Fl → Prop} : Wp (sApp i f) e Q ↔ isOw e i = true ∧ We f e fun e1 x => Wo (appT e1 i (fz x)) fun e2 => Q e2 .nx := by
  rw [wp_App]
  refine and_congr_right fun _ => ?_
  have key : ∀ (e1 : Ev) (x : T), (match e1[i]? with
    | some (.ok (.ow bb ts)) => ts.length < 16777216 ∧ Q (e1.set i (.ok (.ow bb (ts ++ [.sh (fz x)])))) .nx
    | _ => False) ↔ Wo (appT e1 i (fz x)) fun e2 => Q e2 .nx := fun e1 x => by
    unfold appT
    cases e1[i]? with
    | none => exact wo_none.symm
    | some s => cases s with
      | un => exact wo_none.symm
      | mv => exact wo_none.symm
      | ok t => cases t with
        | tu _ => exact wo_none.symm
        | cn _ _ _ => exact wo_none.symm
        | sh d => exact wo_none.symm
        | ow b ts => dsimp only; rw [wo_iteN]
  exact ⟨fun h => Wo.mono h fun r q => (key _ _).mp q, fun h => Wo.mono h fun r q => (key _ _).mpr q⟩
end
end CW
namespace CL
open PySem PySem.Spec L2 Bv CS SX CW
set_option maxHeartbeats 4000000
theorem add_S {a b : List Nat} (ha : a.length ≤ 1000000) (hb : b.length ≤ 1000000) : pAdd (.str (S a)) (.str (S b)) = some (.sh (dS (a ++ b))) := by
  show (if (S a).length + (S b).length ≤ sizeLine then some (T.sh (.str (S a ++ S b))) else none) = _
  rw [S_len, S_len, sizeLine_num, if_pos (by omega), S_cat]
theorem pIx_S {l : List Nat} {i c : Nat} (h : l[i]? = some c) (hl : l.length ≤ 1000000) : pIx (.str (S l)) (.int (i : Int)) = some (.sh (.str (S [c]))) := by
  have e : pIx (.str (S l)) (.int (i : Int)) = if (S l).length ≤ sizeLine then (L2.atI (S l).cps.toList (i : Int)).bind fun c => some (T.sh (.str ⟨#[c]⟩)) else none := rfl
  rw [e, S_len, if_pos (by rw [sizeLine_num]; omega), atI_ofNat]
  show (l[i]?).bind _ = _
  rw [h]
  rfl
theorem pSl_S {t : List Nat} (h : t.length ≤ 1000000) (lo hi : Option Int) : pSl (.str (S t)) lo hi = some (.sh (.str (cutS (S t) lo hi))) := by
  show (if (S t).length ≤ sizeLine then some (T.sh (.str (cutS (S t) lo hi))) else none) = _
  rw [S_len, if_pos (by rw [sizeLine_num]; omega)]
theorem cutS_mid {t : List Nat} {a b : Nat} (h : a ≤ b) : cutS (S t) (some (a : Int)) (some (b : Int)) = S ((t.drop a).take (b - a)) := by
  unfold cutS
  rw [HT.sIx_nat, HT.sIx_nat]
  have e : (S t).cps.toList = t := rfl
  have el : (S t).length = t.length := S_len t
  rw [e, el]
  show S _ = S _
  congr 1
  rcases Nat.le_total t.length a with h1 | h1
  · rw [Nat.min_eq_right h1, List.drop_of_length_le (Nat.le_refl _), List.drop_of_length_le h1]; simp
  · rw [Nat.min_eq_left h1]
    refine List.take_eq_take_iff.mpr ?_
    simp
    omega
theorem find3_at {pre p q : List Nat} {c : Nat} (h : c ∉ p) : Txt.find3 (S (pre ++ (p ++ c :: q))) (S [c]) (pre.length : Int) = ((pre.length + p.length : Nat) : Int) := by
  have key : Builtin.Str.occurrences (S (pre ++ (p ++ c :: q))) (S [c]) pre.length (S (pre ++ (p ++ c :: q))).length 1 = [pre.length + p.length] := by
    rw [StrLaws.occ_eq]
    have hl : (S (pre ++ (p ++ c :: q))).length = pre.length + p.length + 1 + q.length := by rw [S_len]; simp; omega
    have sp : List.range' pre.length ((S (pre ++ (p ++ c :: q))).length + 1 - pre.length) = List.range' pre.length p.length ++ (pre.length + p.length) :: List.range' (pre.length + p.length + 1) (q.length + 1) := by
      rw [hl, show pre.length + p.length + 1 + q.length + 1 - pre.length = p.length + (1 + (q.length + 1)) by omega, List.range'_append_1 (m := p.length) |>.symm, Nat.add_comm 1, List.range'_succ]
    rw [sp]
    have a1 : ∀ i ∈ List.range' pre.length p.length, ¬ (i + (S [c]).length ≤ (S (pre ++ (p ++ c :: q))).length ∧ Builtin.Str.subAt (S (pre ++ (p ++ c :: q))) (S [c]) i = true) := fun i hi hc => by
      have := (StrLaws.subAt_one (S (pre ++ (p ++ c :: q))) c i).mp hc
      have hm := List.mem_range'_1.mp hi
      have e2 : (pre ++ (p ++ c :: q))[i]? = some c := this
      rw [List.getElem?_append_right (by omega), List.getElem?_append_left (by omega)] at e2
      exact h (List.mem_of_getElem? e2)
    have f1 : ∀ (l m : List Nat) (free : Nat), (∀ i ∈ l, ¬ (i + (S [c]).length ≤ (S (pre ++ (p ++ c :: q))).length ∧ Builtin.Str.subAt (S (pre ++ (p ++ c :: q))) (S [c]) i = true)) → (forIn (l ++ m) ((#[] : Array Nat), free) (StrLaws.occBody (S (pre ++ (p ++ c :: q))) (S [c]) (S (pre ++ (p ++ c :: q))).length 1) : Id _) = forIn m ((#[] : Array Nat), free) (StrLaws.occBody (S (pre ++ (p ++ c :: q))) (S [c]) (S (pre ++ (p ++ c :: q))).length 1) := by
      intro l m
      induction l with
      | nil => intro free _; rfl
      | cons i l ih =>
        intro free hl
        have hb : StrLaws.occBody (S (pre ++ (p ++ c :: q))) (S [c]) (S (pre ++ (p ++ c :: q))).length 1 i (#[], free) = pure (ForInStep.yield (#[], free)) := by
          unfold StrLaws.occBody
          rw [if_neg (fun h => hl i List.mem_cons_self ⟨h.1.2, h.2⟩)]
        rw [List.cons_append, List.forIn_cons, hb]
        exact ih free fun j hj => hl j (List.mem_cons_of_mem _ hj)
    rw [f1 _ _ _ a1]
    rw [List.forIn_cons]
    have hat : (pre.length + p.length) + (S [c]).length ≤ (S (pre ++ (p ++ c :: q))).length ∧ Builtin.Str.subAt (S (pre ++ (p ++ c :: q))) (S [c]) (pre.length + p.length) = true := by
      refine (StrLaws.subAt_one (S (pre ++ (p ++ c :: q))) c _).mpr ?_
      show (pre ++ (p ++ c :: q))[pre.length + p.length]? = some c
      rw [List.getElem?_append_right (by omega), List.getElem?_append_right (by omega)]
      simp
    have f2 : ∀ (l : List Nat) (x : Nat) (free : Nat), (forIn l ((#[x] : Array Nat), free) (StrLaws.occBody (S (pre ++ (p ++ c :: q))) (S [c]) (S (pre ++ (p ++ c :: q))).length 1) : Id _) = pure (#[x], free) := by
      intro l
      induction l with
      | nil => intro x free; rfl
      | cons i l ih =>
        intro x free
        rw [List.forIn_cons]
        unfold StrLaws.occBody
        rw [if_neg (fun h => absurd h.1.1.1 (by simp))]
        exact ih x free
    unfold StrLaws.occBody
    rw [if_pos ⟨⟨⟨by simp, by simp⟩, hat.1⟩, hat.2⟩]
    show (forIn (List.range' (pre.length + p.length + 1) (q.length + 1)) ((#[pre.length + p.length] : Array Nat), _) _ : Id _).run.fst.toList = _
    have := f2 (List.range' (pre.length + p.length + 1) (q.length + 1)) (pre.length + p.length) (pre.length + p.length + (S [c]).length)
    unfold StrLaws.occBody at this
    rw [this]
    rfl
  unfold Txt.find3
  have e : fromIndex (S (pre ++ (p ++ c :: q))).length (pre.length : Int) = pre.length := by
    unfold fromIndex
    rw [if_neg (by omega)]
    omega
  rw [e, key]
theorem find3_no {pre r : List Nat} {c : Nat} (h : c ∉ r) : Txt.find3 (S (pre ++ r)) (S [c]) (pre.length : Int) = -1 := by
  have key : Builtin.Str.occurrences (S (pre ++ r)) (S [c]) pre.length (S (pre ++ r)).length 1 = [] := by
    rw [StrLaws.occ_eq]
    have a1 : ∀ i ∈ List.range' pre.length ((S (pre ++ r)).length + 1 - pre.length), ¬ (i + (S [c]).length ≤ (S (pre ++ r)).length ∧ Builtin.Str.subAt (S (pre ++ r)) (S [c]) i = true) := fun i hi hc => by
      have := (StrLaws.subAt_one (S (pre ++ r)) c i).mp hc
      have hm := List.mem_range'_1.mp hi
      have e2 : (pre ++ r)[i]? = some c := this
      rw [List.getElem?_append_right (by omega)] at e2
      exact h (List.mem_of_getElem? e2)
    have := (StrLaws.occ_none (S (pre ++ r)) (S [c]) (S (pre ++ r)).length _ pre.length (fun i hi => (List.mem_range'_1.mp hi).1)).mpr a1
    rw [this]
  unfold Txt.find3
  have e : fromIndex (S (pre ++ r)).length (pre.length : Int) = pre.length := by
    unfold fromIndex
    rw [if_neg (by omega)]
    omega
  rw [e, key]
def sc (s : String) : List Nat := (s.toList.map Char.toNat)
def kwStr : List String := ["always", "and", "as", "at", "count", "delete", "div", "except", "exists", "from", "greatest", "group", "having", "insert", "intersect", "key", "known", "least", "mod", "most", "not", "number", "or", "refers", "require", "select", "set", "sum", "table", "text", "to", "union", "update", "where", "whole"]
def kws : List (List Nat) := kwStr.map sc
abbrev keysS : List Str := "always" :: "and" :: "as" :: "at" :: "count" :: "delete" :: "div" :: "except" :: "exists" :: "from" :: "greatest" :: "group" :: "having" :: "insert" :: "intersect" :: "key" :: "known" :: "least" :: "mod" :: "most" :: "not" :: "number" :: "or" :: "refers" :: "require" :: "select" :: "set" :: "sum" :: "table" :: "text" :: "to" :: "union" :: "update" :: "where" :: "whole" :: []
theorem keys_eq : keysS = kws.map S := by decide +kernel
theorem mem_keys (w : List Nat) : decide (S w ∈ keysS) = decide (w ∈ kws) := by
  rw [keys_eq, Bool.eq_iff_iff, decide_eq_true_iff, decide_eq_true_iff, List.mem_map]
  exact ⟨fun ⟨v, hv, e⟩ => S_inj e ▸ hv, fun h => ⟨w, h, rfl⟩⟩
def sgs : List Nat := [40, 41, 44, 46, 43, 45, 42, 61, 60, 62]
def lgs : List (List Nat) := [[60, 62], [60, 61], [62, 61]]
theorem l_sg : ("(),.+-*=<>" : Str) = S sgs := by decide +kernel
def MOSTn : Nat := 1000000000000000000
def tok : List Nat → D × D × Nat
  | [] => (.str "bad", dS [], 0)
  | c :: r => if isL c = true then
    (if (c :: r).takeWhile isI ∈ kws then (.str "keyword", dS ((c :: r).takeWhile isI), ((c :: r).takeWhile isI).length)
    else if 20 < ((c :: r).takeWhile isI).length then (.str "bad", dS [], 0) else (.str "name", dS ((c :: r).takeWhile isI), ((c :: r).takeWhile isI).length))
  else if isD c = true then
    (if 30 < ((c :: r).takeWhile isD).length ∨ MOSTn < NumText.digitsVal ((c :: r).takeWhile isD) then (.str "bad", dS [], 0) else (.str "number", .int ((NumText.digitsVal ((c :: r).takeWhile isD) : Nat) : Int), ((c :: r).takeWhile isD).length))
  else if c = 34 then
    (if 34 ∉ r ∨ 40 < (r.takeWhile (· != 34)).length ∨ 10 ∈ r.takeWhile (· != 34) then (.str "bad", dS [], 0) else (.str "text", dS (r.takeWhile (· != 34)), (r.takeWhile (· != 34)).length + 2))
  else if (c :: r).take 2 ∈ lgs then (.str "sign", dS ((c :: r).take 2), 2)
  else if c ∈ sgs then (.str "sign", dS [c], 1)
  else (.str "bad", dS [], 0)
def lexN : Nat → Nat → List Nat → List D
  | 0, _, _ => []
  | _ + 1, _, [] => []
  | n + 1, at_, c :: r => if c = 32 ∨ c = 10 then lexN n (at_ + 1) r
    else if (tok (c :: r)).2.2 = 0 then [.tup [(tok (c :: r)).1, (tok (c :: r)).2.1, .int (at_ : Int)]]
    else .tup [(tok (c :: r)).1, (tok (c :: r)).2.1, .int (at_ : Int)] :: lexN n (at_ + (tok (c :: r)).2.2) ((c :: r).drop (tok (c :: r)).2.2)
theorem tw_all {α : Type} (p : α → Bool) : ∀ {l : List α} {c : α}, c ∈ l.takeWhile p → p c = true
  | [], c, h => by cases h
  | x :: l, c, h => by
    rw [List.takeWhile_cons] at h
    split at h
    · rename_i hx
      rcases List.mem_cons.mp h with rfl | h
      · exact hx
      · exact tw_all p h
    · cases h
theorem tw_split {α : Type} (p : α → Bool) : ∀ l : List α, l = l.takeWhile p ++ l.dropWhile p := fun l => (List.takeWhile_append_dropWhile).symm
theorem end_of_run_eq (pre : List Nat) (cs : List Nat) (p : Nat → Bool) (hp : ∀ c, decide (c ∈ cs) = p c) (r : List Nat) (hl : (pre ++ r).length ≤ 100000) :
    PG.f_end_of_run [.sh (dS (pre ++ r)), .sh (.int (pre.length : Int)), .sh (dS cs)] = some ([.sh (dS (pre ++ r)), .sh (.int (pre.length : Int)), .sh (dS cs)], .sh (.int ((pre.length + (r.takeWhile p).length : Nat) : Int))) := by
  refine Wf.eq ?_
  unfold PG.f_end_of_run
  rw [wf_run]
  unfold PG.b_end_of_run
  obtain ⟨t, ht⟩ : ∃ t, t = pre ++ r := ⟨_, rfl⟩
  rw [← ht] at hl ⊢
  have hlen := pLen_S (l := t) (by omega)
  rw [wp_Seq]
  refine wp_While (fun n e => ∃ j, j ≤ (r.takeWhile p).length ∧ n = t.length - j ∧ e = [sSt t, sJ ((pre.length + j : Nat) : Int), sSt cs]) (fun n e hI => ?_) (n := t.length - 0) ⟨0, Nat.zero_le _, rfl, by simp⟩
  obtain ⟨j, hj, rfl, rfl⟩ := hI
  have hr := tw_split p r
  have hrl := congrArg List.length hr
  rw [List.length_append] at hrl
  have htl : t.length = pre.length + r.length := by rw [ht, List.length_append]
  simp [hlen]
  by_cases h1 : pre.length + j < t.length
  · have hjr : j < r.length := by omega
    obtain ⟨c, hc⟩ : ∃ c, r[j]? = some c := ⟨_, List.getElem?_eq_getElem hjr⟩
    have hat : t[pre.length + j]? = some c := by
      rw [ht, List.getElem?_append_right (by omega)]
      simpa using hc
    have hix := pIx_S hat (by omega)
    have hin := pIn_S false c cs
    rw [hp, if_neg Bool.false_ne_true] at hin
    have h1' : (pre.length : Int) + (j : Int) < (t.length : Int) := by omega
    have hix' : pIx (.str (S t)) (.int ((pre.length : Int) + (j : Int))) = some (.sh (.str (S [c]))) := by rw [← hix]; simp
    simp [h1', hix', hin]
    by_cases h2 : j < (r.takeWhile p).length
    · have hpc : p c = true := by
        have : (r.takeWhile p)[j]? = some c := by
          rw [hr, List.getElem?_append_left h2] at hc
          exact hc
        have := List.mem_of_getElem? this
        exact tw_all p this
      rw [if_pos hpc]
      unfold PG.l_end_of_run_1
      simp
      exact ⟨t.length - (j + 1), by omega, j + 1, by omega, rfl, by omega⟩
    · have hj2 : j = (r.takeWhile p).length := by omega
      have hpc : p c = false := by
        rw [hr, List.getElem?_append_right (by omega), hj2, Nat.sub_self] at hc
        cases hd : r.dropWhile p with
        | nil => rw [hd] at hc; cases hc
        | cons x l =>
          rw [hd] at hc
          have hx : x = c := by simpa using hc
          have := List.head?_dropWhile_not p r
          rw [hd] at this
          rw [← hx]
          simpa using this
      rw [if_neg (by rw [hpc]; exact Bool.false_ne_true)]
      unfold PG.b_end_of_run_1
      simp [hj2]
  · have h1' : ¬ (pre.length : Int) + (j : Int) < (t.length : Int) := by omega
    have hj2 : j = (r.takeWhile p).length := by
      omega
    simp [h1']
    unfold PG.b_end_of_run_1
    simp [hj2]
def tokD (r : List Nat) (at_ : Nat) : D := .tup [(tok r).1, (tok r).2.1, .int ((at_ + (tok r).2.2 : Nat) : Int)]
theorem l_q : ("\"" : Str) = S [34] := by decide +kernel
theorem l_nl : ("\n" : Str) = S [10] := by decide +kernel
theorem l_e : ("" : Str) = S [] := by decide +kernel
theorem quoted_eq (pre r : List Nat) (hl : (pre ++ 34 :: r).length ≤ 100000) :
    PG.f_quoted_word [.sh (dS (pre ++ 34 :: r)), .sh (.int (pre.length : Int))] = some ([.sh (dS (pre ++ 34 :: r)), .sh (.int (pre.length : Int))], .sh (tokD (34 :: r) pre.length)) := by
  refine Wf.eq ?_
  unfold PG.f_quoted_word
  rw [wf_run]
  have htk : tok (34 :: r) = if 34 ∉ r ∨ 40 < (r.takeWhile (· != 34)).length ∨ 10 ∈ r.takeWhile (· != 34) then (.str "bad", dS [], 0) else (.str "text", dS (r.takeWhile (· != 34)), (r.takeWhile (· != 34)).length + 2) := by
    rw [tok, if_neg (show ¬ isL 34 = true by decide), if_neg (show ¬ isD 34 = true by decide), if_pos rfl]
  unfold tokD
  rw [htk]
  obtain ⟨t, ht⟩ : ∃ t, t = pre ++ 34 :: r := ⟨_, rfl⟩
  unfold PG.b_quoted_word
  rw [l_q, ← ht]
  have ht2 : t = (pre ++ [34]) ++ r := by rw [ht]; simp
  have hpl : ((pre ++ [34]).length : Int) = (pre.length : Int) + 1 := by simp
  by_cases h34 : 34 ∈ r
  · obtain ⟨p, hp⟩ : ∃ p, p = r.takeWhile (· != 34) := ⟨_, rfl⟩
    obtain ⟨q, hq⟩ : ∃ q, r = p ++ 34 :: q := by
      have := tw_split (· != 34) r
      cases hd : r.dropWhile (· != 34) with
      | nil =>
        rw [hd, List.append_nil] at this
        rw [this] at h34
        have := tw_all _ h34
        simp at this
      | cons x l =>
        have hx := List.head?_dropWhile_not (· != 34) r
        rw [hd] at hx
        have hx : x = 34 := by simpa using hx
        subst hx
        exact ⟨l, by rw [hp, ← hd]; exact this⟩
    have hl2 : pre.length + 1 + p.length < t.length := by
      rw [ht2, hq]; simp; omega
    have hn : 34 ∉ p := fun h => by
      rw [hp] at h
      have := tw_all _ h
      simp at this
    have hf := find3_at (pre := pre ++ [34]) (p := p) (q := q) hn
    rw [← hq, ← ht2, hpl] at hf
    rw [← hp]
    simp [hf]
    unfold PG.b_quoted_word_1
    rw [l_e]
    have n0 : ¬ (pre.length : Int) + 1 + (p.length : Int) < 0 := by omega
    have e1 : (pre.length : Int) + 1 + (p.length : Int) - (pre.length : Int) = (p.length : Int) + 1 := by omega
    by_cases h40 : 40 < p.length
    · have h40' : (41 : Int) < (p.length : Int) + 1 := by omega
      simp [n0, e1, h40, h40']
    · have h40' : ¬ (41 : Int) < (p.length : Int) + 1 := by omega
      have hcut := cutS_mid (t := t) (a := pre.length + 1) (b := pre.length + 1 + p.length) (by omega)
      have hcut2 : (t.drop (pre.length + 1)).take (pre.length + 1 + p.length - (pre.length + 1)) = p := by
        rw [ht2, hq, show pre.length + 1 = (pre ++ [34]).length by simp, List.drop_left]
        simp
      rw [hcut2] at hcut
      have hs := pSl_S (t := t) (by rw [← ht] at hl; omega) (some ((pre.length : Int) + 1)) (some ((pre.length : Int) + 1 + (p.length : Int)))
      rw [show ((pre.length + 1 : Nat) : Int) = (pre.length : Int) + 1 by omega, show ((pre.length + 1 + p.length : Nat) : Int) = (pre.length : Int) + 1 + (p.length : Int) by omega] at hcut
      rw [hcut] at hs
      simp [n0, e1, h40']
      unfold PG.b_quoted_word_2
      simp [hs]
      unfold PG.b_quoted_word_3
      rw [l_nl, l_e]
      have hin := pIn_S false 10 p
      rw [if_neg Bool.false_ne_true] at hin
      by_cases h10 : 10 ∈ p
      · simp [hin, h10]
      · simp [hin, h10]
        unfold PG.b_quoted_word_4
        have hn34 : 34 ∈ r := h34
        simp [h40, hn34]
        omega
  · have hf := find3_no (pre := pre ++ [34]) h34
    rw [← ht2, hpl] at hf
    simp [hf]
    unfold PG.b_quoted_word_1
    rw [l_e]
    simp [h34]
theorem tok_L {c : Nat} {r : List Nat} (h : isL c = true) : tok (c :: r) = if (c :: r).takeWhile isI ∈ kws then (.str "keyword", dS ((c :: r).takeWhile isI), ((c :: r).takeWhile isI).length)
    else if 20 < ((c :: r).takeWhile isI).length then (.str "bad", dS [], 0) else (.str "name", dS ((c :: r).takeWhile isI), ((c :: r).takeWhile isI).length) := if_pos h
theorem tok_D {c : Nat} {r : List Nat} (h0 : isL c = false) (h : isD c = true) : tok (c :: r) = if 30 < ((c :: r).takeWhile isD).length ∨ MOSTn < NumText.digitsVal ((c :: r).takeWhile isD) then (.str "bad", dS [], 0) else (.str "number", .int ((NumText.digitsVal ((c :: r).takeWhile isD) : Nat) : Int), ((c :: r).takeWhile isD).length) :=
  (if_neg (by rw [h0]; exact Bool.false_ne_true)).trans (if_pos h)
theorem tok_S {c : Nat} {r : List Nat} (h0 : isL c = false) (h : isD c = false) (h34 : c ≠ 34) : tok (c :: r) = if (c :: r).take 2 ∈ lgs then (.str "sign", dS ((c :: r).take 2), 2)
    else if c ∈ sgs then (.str "sign", dS [c], 1) else (.str "bad", dS [], 0) :=
  (if_neg (by rw [h0]; exact Bool.false_ne_true)).trans ((if_neg (by rw [h]; exact Bool.false_ne_true)).trans (if_neg h34))
theorem l_u : ("_" : Str) = S [95] := by decide +kernel
theorem l_s1 : ("<>" : Str) = S [60, 62] := by decide +kernel
theorem l_s2 : ("<=" : Str) = S [60, 61] := by decide +kernel
theorem l_s3 : (">=" : Str) = S [62, 61] := by decide +kernel
theorem pIn_lg (w : List Nat) : pIn false (.str (S w)) (.tup [.str (S [60, 62]), .str (S [60, 61]), .str (S [62, 61])]) = some (.sh (.bl (decide (w ∈ lgs)))) := by
  have h : pIn false (.str (S w)) (.tup [.str (S [60, 62]), .str (S [60, 61]), .str (S [62, 61])]) = some (.sh (.bl (inV (.str (S w)) [.str (S [60, 62]), .str (S [60, 61]), .str (S [62, 61])]))) := rfl
  rw [h]
  congr 3
  show (eqV (.str (S [60, 62])) (.str (S w)) || (eqV (.str (S [60, 61])) (.str (S w)) || (eqV (.str (S [62, 61])) (.str (S w)) || false))) = _
  have q : ∀ v : List Nat, eqV (.str (S v)) (.str (S w)) = decide (w = v) := fun v => by
    have h1 : eqV (.str (S v)) (.str (S w)) = (S v == S w) := rfl
    rw [h1, S_beq_eq]
    by_cases hv : v = w
    · rw [decide_eq_true hv, decide_eq_true hv.symm]
    · rw [decide_eq_false hv, decide_eq_false fun z => hv z.symm]
  rw [q, q, q]
  unfold lgs
  rw [Bool.eq_iff_iff]
  simp
theorem pInt_S {w : List Nat} (ha : w.all isD = true) (hne : w ≠ []) (hl : w.length ≤ 640) : pInt [.str (S w)] = some (.sh (.int ((NumText.digitsVal w : Nat) : Int))) := by
  show (if (S w).length ≤ 640 then (PySem.intText? (S w)).bind fun n => some (T.sh (.int n)) else none) = _
  rw [S_len, if_pos hl, int_S ha hne (by omega)]
  rfl
theorem next_word_eq (pre : List Nat) (c : Nat) (r : List Nat) (hc : okC (pre ++ c :: r)) (hl : (pre ++ c :: r).length ≤ 100000) :
    PG.f_next_word [.sh (dS (pre ++ c :: r)), .sh (.int (pre.length : Int))] = some ([.sh (dS (pre ++ c :: r)), .sh (.int (pre.length : Int))], .sh (tokD (c :: r) pre.length)) := by
  have q0 := quoted_eq pre r
  have runI := end_of_run_eq pre (cL ++ cD ++ [95]) isI (fun c => by rw [List.append_assoc]; exact mem_cI c) (c :: r) hl
  have runD := end_of_run_eq pre cD isD mem_cD (c :: r) hl
  obtain ⟨t, ht⟩ : ∃ t, t = pre ++ c :: r := ⟨_, rfl⟩
  have hcut : ∀ w z : List Nat, c :: r = w ++ z → pSl (.str (S t)) (some (pre.length : Int)) (some ((pre.length : Int) + (w.length : Int))) = some (.sh (dS w)) := fun w z e => by
    have h1 := cutS_mid (t := t) (a := pre.length) (b := pre.length + w.length) (by omega)
    rw [show ((pre.length + w.length : Nat) : Int) = (pre.length : Int) + (w.length : Int) by omega] at h1
    rw [pSl_S (by rw [ht]; omega), h1, ht, List.drop_left, e]
    simp
  have hix : pIx (.str (S t)) (.int (pre.length : Int)) = some (.sh (.str (S [c]))) := pIx_S (by rw [ht]; simp) (by rw [ht]; omega)
  have hct : c < 0x110000 := hc c (by simp)
  rw [← ht] at runI runD ⊢
  have i1 := pIn_S false c cL
  have i2 := pIn_S false c cD
  have i4 := pIn_S false c sgs
  rw [if_neg Bool.false_ne_true] at i1 i2 i4
  rw [mem_cL] at i1
  rw [mem_cD] at i2
  refine Wf.eq ?_
  unfold PG.f_next_word
  rw [wf_run]
  unfold PG.b_next_word
  rw [l_L, l_D9, l_u, l_e]
  have hok : ∀ x ∈ [cL, cD, [95]], x.length ≤ 1000 := by decide
  have a1 := add_S (a := cL) (b := cD) (by decide) (by decide)
  have a2 := add_S (a := cL ++ cD) (b := [95]) (by decide) (by decide)
  obtain ⟨A, hA⟩ : ∃ A, A = cL ++ cD ++ [95] := ⟨_, rfl⟩
  rw [← hA] at a2 runI
  obtain ⟨B, hB⟩ : ∃ B, B = cL ++ cD := ⟨_, rfl⟩
  rw [← hB] at a1 a2
  obtain ⟨L, hL⟩ : ∃ L, L = cL := ⟨_, rfl⟩
  rw [← hL] at a1 i1 ⊢
  obtain ⟨Dg, hDg⟩ : ∃ L, L = cD := ⟨_, rfl⟩
  rw [← hDg] at a1 i2 runD ⊢
  cases h1 : isL c with
  | true =>
    rw [h1] at i1
    obtain ⟨w, hw⟩ : ∃ w, w = (c :: r).takeWhile isI := ⟨_, rfl⟩
    have hcw := hcut w ((c :: r).dropWhile isI) (by rw [hw]; exact tw_split _ _)
    have hwl : w.length ≤ 100000 := by
      have := congrArg List.length (tw_split isI (c :: r))
      rw [List.length_append, ← hw] at this
      simp at this hl
      omega
    rw [← hw] at runI
    have hk := mem_keys w
    obtain ⟨ky, hky⟩ : ∃ ky, ky = keysS := ⟨_, rfl⟩
    unfold keysS at hky hk
    rw [← hky] at hk ⊢
    have hlen := pLen_S (l := w) (by omega)
    unfold tokD
    rw [tok_L h1, ← hw]
    simp [hix, i1, a1, a2]
    refine wf_of runI ?_
    simp [hcw]
    by_cases h2 : w ∈ kws
    · have hk' : S w ∈ ky := of_decide_eq_true (hk.trans (decide_eq_true h2))
      simp [hk', h2]
    · have hk' : ¬ S w ∈ ky := of_decide_eq_false (hk.trans (decide_eq_false h2))
      by_cases h3 : 20 < w.length
      · have h3' : (20 : Int) < (w.length : Int) := by omega
        simp [hk', h2, hlen, h3, h3']
      · have h3' : ¬ (20 : Int) < (w.length : Int) := by omega
        simp [hk', h2, hlen, h3, h3']
  | false =>
    rw [h1] at i1
    simp [hix, i1]
    unfold PG.b_next_word_1
    rw [l_D9, l_e, ← hDg]
    cases h2 : isD c with
    | true =>
      rw [h2] at i2
      obtain ⟨w, hw⟩ : ∃ w, w = (c :: r).takeWhile isD := ⟨_, rfl⟩
      have hcw := hcut w ((c :: r).dropWhile isD) (by rw [hw]; exact tw_split _ _)
      have hwne : w ≠ [] := by rw [hw, List.takeWhile_cons, if_pos h2]; exact List.cons_ne_nil _ _
      have hwa : w.all isD = true := by
        rw [List.all_eq_true]
        intro x hx
        rw [hw] at hx
        exact tw_all _ hx
      rw [← hw] at runD
      unfold tokD
      rw [tok_D h1 h2, ← hw]
      simp [hix, i2]
      refine wf_of runD ?_
      have e1 : (pre.length : Int) + (w.length : Int) - (pre.length : Int) = (w.length : Int) := by omega
      by_cases h3 : 30 < w.length
      · have h3' : (30 : Int) < (w.length : Int) := by omega
        simp [e1, h3, h3']
      · have h3' : ¬ (30 : Int) < (w.length : Int) := by omega
        have hpi := pInt_S hwa hwne (by omega)
        by_cases h4 : MOSTn < NumText.digitsVal w
        · have h4' : (1000000000000000000 : Int) < (NumText.digitsVal w : Int) := by unfold MOSTn at h4; omega
          simp [e1, h3, h3', hcw, hpi, h4, h4']
        · have h4' : ¬ (1000000000000000000 : Int) < (NumText.digitsVal w : Int) := by unfold MOSTn at h4; omega
          simp [e1, h3, h3', hcw, hpi, h4, h4']
    | false =>
      rw [h2] at i2
      simp [hix, i2]
      unfold PG.b_next_word_2
      rw [l_q]
      have heq := pEq_S2 false (a := [c]) (b := [34]) (by intro x hx; rw [List.mem_singleton.mp hx]; exact hct) (by intro x hx; rw [List.mem_singleton.mp hx]; decide)
      rw [if_neg Bool.false_ne_true] at heq
      by_cases h34 : c = 34
      · subst h34
        have q1 := q0 hl
        rw [← ht] at q1
        simp [hix, heq]
        refine wf_of q1 ?_
        simp
      · have hne : ¬ [c] = [34] := fun q => h34 (List.cons.inj q).1
        rw [decide_eq_false hne] at heq
        simp [hix, heq]
        unfold PG.b_next_word_3
        unfold tokD
        rw [tok_S h1 h2 h34, l_s1, l_s2, l_s3]
        have h1c := cutS_mid (t := t) (a := pre.length) (b := pre.length + 2) (by omega)
        rw [show pre.length + 2 - pre.length = 2 by omega, ht, List.drop_left, ← ht, show ((pre.length + 2 : Nat) : Int) = (pre.length : Int) + 2 by omega] at h1c
        have hs := pSl_S (t := t) (by rw [ht]; omega) (some (pre.length : Int)) (some ((pre.length : Int) + 2))
        rw [h1c] at hs
        obtain ⟨w, hw⟩ : ∃ w, w = (c :: r).take 2 := ⟨_, rfl⟩
        rw [← hw] at hs ⊢
        have hin := pIn_lg w
        by_cases h5 : w ∈ lgs
        · simp [hs, hin, h5]
        · simp [hs, hin, h5]
          unfold PG.b_next_word_4
          rw [l_sg]
          by_cases h6 : c ∈ sgs
          · simp [hix, i4, h6]
          · simp [hix, i4, h6]
            unfold PG.b_next_word_5
            rw [l_e]
            simp
theorem eq_lit {x y : Str} (a b : List Nat) (hx : x = S a) (hy : y = S b) (ha : okC a) (hb : okC b) {k : Bool} (hk : decide (a = b) = k) : pEq false (.str x) (.str y) = some (.sh (.bl k)) := by
  rw [hx, hy, pEq_S2 false ha hb, if_neg Bool.false_ne_true, hk]
theorem eb1 : pEq false (.str "keyword") (.str "bad") = some (.sh (.bl false)) := eq_lit [107, 101, 121, 119, 111, 114, 100] [98, 97, 100] (by decide +kernel) (by decide +kernel) (by unfold okC; decide) (by unfold okC; decide) (by decide)
theorem eb2 : pEq false (.str "name") (.str "bad") = some (.sh (.bl false)) := eq_lit [110, 97, 109, 101] [98, 97, 100] (by decide +kernel) (by decide +kernel) (by unfold okC; decide) (by unfold okC; decide) (by decide)
theorem eb3 : pEq false (.str "number") (.str "bad") = some (.sh (.bl false)) := eq_lit [110, 117, 109, 98, 101, 114] [98, 97, 100] (by decide +kernel) (by decide +kernel) (by unfold okC; decide) (by unfold okC; decide) (by decide)
theorem eb4 : pEq false (.str "text") (.str "bad") = some (.sh (.bl false)) := eq_lit [116, 101, 120, 116] [98, 97, 100] (by decide +kernel) (by decide +kernel) (by unfold okC; decide) (by unfold okC; decide) (by decide)
theorem eb5 : pEq false (.str "sign") (.str "bad") = some (.sh (.bl false)) := eq_lit [115, 105, 103, 110] [98, 97, 100] (by decide +kernel) (by decide +kernel) (by unfold okC; decide) (by unfold okC; decide) (by decide)
theorem eb6 : pEq false (.str "bad") (.str "bad") = some (.sh (.bl true)) := eq_lit [98, 97, 100] [98, 97, 100] (by decide +kernel) (by decide +kernel) (by unfold okC; decide) (by unfold okC; decide) (by decide)
theorem tok_is (c : Nat) (r : List Nat) : ∃ s : Str, (tok (c :: r)).1 = .str s ∧ pEq false (.str s) (.str "bad") = some (.sh (.bl (decide ((tok (c :: r)).2.2 = 0)))) ∧ (tok (c :: r)).2.2 ≤ (c :: r).length := by
  have ln : ∀ p : Nat → Bool, p c = true → ((c :: r).takeWhile p).length ≠ 0 ∧ ((c :: r).takeWhile p).length ≤ (c :: r).length := fun p h => by
    have := congrArg List.length (tw_split p (c :: r))
    rw [List.length_append] at this
    refine ⟨?_, by omega⟩
    rw [List.takeWhile_cons, if_pos h]
    simp
  have bad : ∃ s : Str, ((.str "bad", dS [], 0) : D × D × Nat).1 = .str s ∧ pEq false (.str s) (.str "bad") = some (.sh (.bl (decide (((.str "bad", dS [], 0) : D × D × Nat).2.2 = 0)))) ∧ ((.str "bad", dS [], 0) : D × D × Nat).2.2 ≤ (c :: r).length := ⟨"bad", rfl, eb6, Nat.zero_le _⟩
  rw [tok]
  split
  · rename_i h
    obtain ⟨l1, l2⟩ := ln isI (by unfold isI; rw [h]; rfl)
    split
    · exact ⟨"keyword", rfl, by rw [decide_eq_false l1]; exact eb1, l2⟩
    · split
      · exact bad
      · exact ⟨"name", rfl, by rw [decide_eq_false l1]; exact eb2, l2⟩
  · split
    · rename_i h
      obtain ⟨l1, l2⟩ := ln isD h
      split
      · exact bad
      · exact ⟨"number", rfl, by rw [decide_eq_false l1]; exact eb3, l2⟩
    · split
      · split
        · exact bad
        · rename_i h
          refine ⟨"text", rfl, by rw [decide_eq_false (Nat.succ_ne_zero _)]; exact eb4, ?_⟩
          have h34 : 34 ∈ r := Classical.byContradiction fun q => h (.inl q)
          have := congrArg List.length (tw_split (· != 34) r)
          rw [List.length_append] at this
          have hd : (r.dropWhile (· != 34)).length ≠ 0 := fun q => by
            have e := List.length_eq_zero_iff.mp q
            have := tw_split (· != 34) r
            rw [e, List.append_nil] at this
            rw [this] at h34
            have := tw_all _ h34
            simp at this
          show _ + 2 ≤ r.length + 1
          omega
      · split
        · rename_i h
          refine ⟨"sign", rfl, by rw [decide_eq_false (Nat.succ_ne_zero _)]; exact eb5, ?_⟩
          cases r with
          | nil => simp [lgs] at h
          | cons x l => simp
        · split
          · exact ⟨"sign", rfl, by rw [decide_eq_false (Nat.succ_ne_zero _)]; exact eb5, by simp⟩
          · exact bad
theorem l_ws : (" \n" : Str) = S [32, 10] := by decide +kernel
theorem words_eq (t : List Nat) (hc : okC t) (hl : t.length ≤ 100000) : PG.f_words [.sh (dS t)] = some ([.sh (dS t)], .ow false ((lexN t.length 0 t).map T.sh)) := by
  refine Wf.eq ?_
  unfold PG.f_words
  rw [wf_run]
  unfold PG.b_words
  simp
  unfold PG.b_words_1
  simp
  unfold PG.b_words_2
  have hlen := pLen_S (l := t) (by omega)
  rw [wp_Seq]
  refine wp_While (fun n e => ∃ (pre r : List Nat) (acc : List D) (x3 x4 x5 : Sl), t = pre ++ r ∧ r.length ≤ n ∧ stk? x3 = true ∧ stk? x4 = true ∧ stk? x5 = true ∧ acc.length ≤ pre.length ∧
    acc ++ lexN n pre.length r = lexN t.length 0 t ∧ e = [sSt t, .ok (.ow false (acc.map T.sh)), sJ (pre.length : Int), x3, x4, x5]) (fun n e hI => ?_) (n := t.length) ⟨[], t, [], .un, .un, .un, rfl, Nat.le_refl _, rfl, rfl, rfl, by simp, by simp, rfl⟩
  obtain ⟨pre, r, acc, x3, x4, x5, ht, hrn, s3, s4, s5, hacc, hL, rfl⟩ := hI
  have htl : t.length = pre.length + r.length := by rw [ht, List.length_append]
  simp [hlen]
  cases r with
  | nil =>
    have h1 : ¬ pre.length < t.length := by simp at htl; omega
    rw [if_neg h1]
    unfold PG.b_words_3
    have : lexN n pre.length [] = [] := by cases n <;> rfl
    rw [this, List.append_nil] at hL
    simp [hL]
  | cons c r =>
    have h1 : pre.length < t.length := by simp at htl; omega
    rw [if_pos h1]
    unfold PG.l_words_1
    rw [l_ws]
    have hix : pIx (.str (S t)) (.int (pre.length : Int)) = some (.sh (.str (S [c]))) := pIx_S (by rw [ht]; simp) (by omega)
    have hin := pIn_S false c [32, 10]
    rw [if_neg Bool.false_ne_true] at hin
    simp [hix, hin]
    obtain ⟨m, rfl⟩ : ∃ m, n = m + 1 := ⟨n - 1, by simp at hrn; omega⟩
    have hrm : r.length ≤ m := by simpa using hrn
    by_cases hb : c = 32 ∨ c = 10
    · simp [hb]
      refine ⟨m, by omega, pre ++ [c], r, by rw [ht]; simp, hrm, acc, x3, s3, x4, s4, x5, s5, by simp; omega, ?_, by simp⟩
      rw [← hL, lexN, if_pos hb, List.length_append]
      rfl
    · have nw := next_word_eq pre c r (by rw [← ht]; exact hc) (by rw [← ht]; exact hl)
      rw [← ht] at nw
      simp [hb]
      refine wf_of nw ?_
      obtain ⟨s, hs, hbad, htk⟩ := tok_is c r
      have hal : acc.length < 16777216 := by omega
      rw [lexN, if_neg hb] at hL
      unfold tokD
      rw [hs] at hL ⊢
      obtain ⟨v, hv⟩ : ∃ v, v = (tok (c :: r)).2.1 := ⟨_, rfl⟩
      obtain ⟨k, hk⟩ : ∃ k, k = (tok (c :: r)).2.2 := ⟨_, rfl⟩
      rw [← hk] at hL hbad htk ⊢
      rw [← hv] at hL ⊢
      by_cases h0 : k = 0
      · rw [if_pos h0] at hL
        simp [s3, s4, s5, hal, hbad, h0]
        rw [← hL]
        simp
      · rw [if_neg h0] at hL
        simp [s3, s4, s5, hal, hbad, h0]
        have hkl : k ≤ r.length + 1 := by simpa using htk
        refine ⟨m, by omega, pre ++ (c :: r).take k, (c :: r).drop k, ?_, ?_, acc ++ [.tup [.str s, v, .int (pre.length : Int)]], .ok (.sh (.str s)), rfl, .ok (.sh v), rfl, sJ ((pre.length : Int) + (k : Int)), rfl, ?_, ?_, ?_⟩
        · rw [ht, List.append_assoc, List.take_append_drop]
        · rw [List.length_drop]; simp; omega
        · simp; omega
        · rw [← hL]
          have : (pre ++ (c :: r).take k).length = pre.length + k := by
            rw [List.length_append, List.length_take]; simp; omega
          rw [this]
          simp
        · have : (pre ++ (c :: r).take k).length = pre.length + k := by
            rw [List.length_append, List.length_take]; simp; omega
          rw [this]
          simp
end CL
namespace CL
open PySem PySem.Spec L2 Bv CS SX CW
set_option maxHeartbeats 4000000
@[simp] theorem putBack_some {i : Nat} {b : Bool} {us ts : List T} {ms : List (Option (Nat × Bool))} {e : Ev} : putBack (some (i, b) :: ms) (.ow true us :: ts) e = match e[i]? with
    | some .mv => putBack ms ts (e.set i (.ok (.ow b us)))
    | _ => none := rfl
def rp (s : DS) (r p : Int) : DS := { s with rest := r, pos := p }
@[simp] theorem rp_rp (s : DS) (r p r' p' : Int) : rp (rp s r p) r' p' = rp s r' p' := rfl
@[simp] theorem rp_it (s : DS) (r p : Int) : (rp s r p).it = s.it := rfl
@[simp] theorem rp_len (s : DS) (r p : Int) : (rp s r p).len = s.len := rfl
@[simp] theorem rp_cnt (s : DS) (r p : Int) : (rp s r p).cnt = s.cnt := rfl
@[simp] theorem rp_flag (s : DS) (r p : Int) : (rp s r p).flag = s.flag := rfl
@[simp] theorem rp_ns (s : DS) (r p : Int) : (rp s r p).ns = s.ns := rfl
def NJ (w rest : List Nat) : Prop := ∀ c, rest.head? = some c → jn w c = false
structure Wd (w : List Nat) (s v : D) : Prop where
  tk : ∀ rest, NJ w rest → tok (w ++ rest) = (s, v, w.length)
  hd : ∃ c r, w = c :: r ∧ c ≠ 32 ∧ c ≠ 10
  ok : okC w
  len : w.length ≤ 900
theorem tw_app {p : Nat → Bool} {w rest : List Nat} (hw : w.all p = true) (hr : ∀ c, rest.head? = some c → p c = false) : (w ++ rest).takeWhile p = w := by
  rw [List.takeWhile_append_of_pos (fun x hx => List.all_eq_true.mp hw x hx)]
  cases rest with
  | nil => simp
  | cons c r => rw [List.takeWhile_cons, if_neg (by rw [hr c rfl]; exact Bool.false_ne_true)]; simp
theorem isL_isD {c : Nat} (h : isD c = true) : isL c = false := by
  unfold isD at h; unfold isL
  simp at h ⊢
  omega
theorem wd_num {w : List Nat} {n : Nat} (ha : w.all isD = true) (hne : w ≠ []) (hl : w.length ≤ 30) (hv : NumText.digitsVal w = n) (hn : n ≤ MOSTn) : Wd w (.str "number") (.int (n : Int)) := by
  obtain ⟨c, r, e⟩ := List.exists_cons_of_ne_nil hne
  have hc : isD c = true := List.all_eq_true.mp ha c (by rw [e]; simp)
  have hD : ∀ x, isD x = true → x < 0x110000 ∧ x ≠ 32 ∧ x ≠ 10 := fun x hx => by
    unfold isD at hx
    simp at hx
    omega
  refine ⟨fun rest hr => ?_, ⟨c, r, e, ?_⟩, fun x hx => (hD x (List.all_eq_true.mp ha x hx)).1, by omega⟩
  · have htw := tw_app ha (rest := rest) fun x hx => by
      have := hr x hx
      unfold jn at this
      rw [e] at this
      have h1 : ¬ ((c :: r).head?.elim false isL) = true := by show ¬ isL c = true; rw [isL_isD hc]; exact Bool.false_ne_true
      have h2 : ((c :: r).head?.elim false isD) = true := hc
      rw [if_neg h1, if_pos h2] at this
      exact this
    rw [e] at htw ⊢
    rw [List.cons_append] at htw ⊢
    rw [tok_D (isL_isD hc) hc, htw, ← e, hv, if_neg (by omega)]
  · have := hD c hc
    exact ⟨this.2.1, this.2.2⟩
theorem wd_text {w : List Nat} (h34 : 34 ∉ w) (h10 : 10 ∉ w) (hl : w.length ≤ 40) (hc : okC w) : Wd (34 :: (w ++ [34])) (.str "text") (dS w) := by
  refine ⟨fun rest hr => ?_, ⟨34, _, rfl, by decide, by decide⟩, fun x hx => ?_, by simp; omega⟩
  · have e : (34 :: (w ++ [34])) ++ rest = 34 :: (w ++ 34 :: rest) := by simp
    have htw : (w ++ 34 :: rest).takeWhile (· != 34) = w := tw_app (by rw [List.all_eq_true]; intro x hx; simp; intro q; exact h34 (q ▸ hx)) (by intro c hc; simp at hc; simp [hc])
    rw [e, tok, if_neg (show ¬ isL 34 = true by decide), if_neg (show ¬ isD 34 = true by decide), if_pos rfl, htw, if_neg ?_]
    · simp
    · intro q
      rcases q with q | q | q
      · exact q (by simp)
      · omega
      · exact h10 q
  · simp at hx
    rcases hx with rfl | hx | rfl
    · decide
    · exact hc x hx
    · decide
theorem jn_blank (l : List Nat) {c : Nat} (h : c = 32 ∨ c = 10) : jn l c = false := by
  unfold jn
  split
  · rcases h with rfl | rfl <;> decide
  · split
    · rcases h with rfl | rfl <;> decide
    · rw [show decide (c ∈ [60, 62, 61]) = false by rcases h with rfl | rfl <;> decide, Bool.and_false]
def Lx (ws : List (List Nat)) (L : List D) : Prop := ∀ rest, (∀ l, ws.getLast? = some l → NJ l rest) → ∀ n, (ws.flatten ++ rest).length ≤ n → ∃ n', rest.length ≤ n' ∧ lexN n 0 (ws.flatten ++ rest) = L ++ lexN n' ws.flatten.length rest
theorem lx_nil : Lx [] [] := fun rest _ n hn => ⟨n, by simpa using hn, by simp⟩
theorem lexN_nil (n at_ : Nat) : lexN n at_ [] = [] := by cases n <;> rfl
theorem lexN_blank : ∀ (bl rest : List Nat) (n at_ : Nat), (∀ c ∈ bl, c = 32 ∨ c = 10) → (bl ++ rest).length ≤ n → ∃ n', rest.length ≤ n' ∧ lexN n at_ (bl ++ rest) = lexN n' (at_ + bl.length) rest
  | [], rest, n, at_, _, h => ⟨n, by simpa using h, by simp⟩
  | c :: bl, rest, n, at_, hb, h => by
    obtain ⟨m, rfl⟩ : ∃ m, n = m + 1 := ⟨n - 1, by simp at h; omega⟩
    obtain ⟨n', h1, h2⟩ := lexN_blank bl rest m (at_ + 1) (fun x hx => hb x (List.mem_cons_of_mem _ hx)) (by simp at h ⊢; omega)
    refine ⟨n', h1, ?_⟩
    rw [List.cons_append, lexN, if_pos (hb c List.mem_cons_self), h2, List.length_cons]
    congr 1
    omega
theorem lexN_word {w rest : List Nat} {s v : D} {n at_ : Nat} (h : Wd w s v) (hr : NJ w rest) (hn : (w ++ rest).length ≤ n) : ∃ n', rest.length ≤ n' ∧ lexN n at_ (w ++ rest) = .tup [s, v, .int (at_ : Int)] :: lexN n' (at_ + w.length) rest := by
  obtain ⟨c, r, e, h32, h10⟩ := h.hd
  have htk := h.tk rest hr
  obtain ⟨m, rfl⟩ : ∃ m, n = m + 1 := ⟨n - 1, by rw [e] at hn; simp at hn; omega⟩
  have hd : (w ++ rest).drop w.length = rest := by simp
  refine ⟨m, by rw [e] at hn; simp at hn; omega, ?_⟩
  rw [e] at htk hd ⊢
  rw [List.cons_append] at htk hd ⊢
  rw [lexN, if_neg (fun q => q.elim h32 h10), htk]
  show (if (c :: r).length = 0 then _ else _ :: lexN m (at_ + (c :: r).length) ((c :: (r ++ rest)).drop (c :: r).length)) = _
  rw [if_neg (by simp), hd]
theorem flat_len (ws : List (List Nat)) (bl w : List Nat) : (ws ++ [bl] ++ [w]).flatten = ws.flatten ++ (bl ++ w) := by simp
theorem nj_blank {ws : List (List Nat)} {bl w : List Nat} {c : Nat} {r rest : List Nat} (e : w = c :: r) (hb : ∀ c ∈ bl, c = 32 ∨ c = 10) (hj : bl = [] → ∀ l, ws.getLast? = some l → jn l c = false) : ∀ l, ws.getLast? = some l → NJ l (bl ++ (w ++ rest)) := fun l hl x hx => by
  cases bl with
  | nil =>
    rw [e] at hx
    have : c = x := by simpa using hx
    subst this
    exact hj rfl l hl
  | cons b bl =>
    have : b = x := by simpa using hx
    subst this
    exact jn_blank l (hb b List.mem_cons_self)
theorem lx_snoc {ws : List (List Nat)} {L : List D} {bl w : List Nat} {s v : D} (h : Lx ws L) (hb : ∀ c ∈ bl, c = 32 ∨ c = 10) (hw : Wd w s v) (hj : bl = [] → ∀ c r, w = c :: r → ∀ l, ws.getLast? = some l → jn l c = false) :
    Lx (ws ++ [bl] ++ [w]) (L ++ [.tup [s, v, .int ((ws.flatten.length + bl.length : Nat) : Int)]]) := fun rest hr n hn => by
  obtain ⟨c, r, e, h32, h10⟩ := hw.hd
  rw [flat_len] at hn ⊢
  have hnj : NJ w rest := hr w (by simp)
  obtain ⟨n1, l1, e1⟩ := h (bl ++ (w ++ rest)) (nj_blank e hb fun q => hj q c r e) n (by simp at hn ⊢; omega)
  obtain ⟨n2, l2, e2⟩ := lexN_blank bl (w ++ rest) n1 ws.flatten.length hb l1
  obtain ⟨n3, l3, e3⟩ := lexN_word (at_ := ws.flatten.length + bl.length) hw hnj l2
  refine ⟨n3, l3, ?_⟩
  rw [show ws.flatten ++ (bl ++ w) ++ rest = ws.flatten ++ (bl ++ (w ++ rest)) by simp, e1, e2, e3]
  simp [Nat.add_assoc]
theorem lx_end {ws : List (List Nat)} {L : List D} {bl : List Nat} (h : Lx ws L) (hb : ∀ c ∈ bl, c = 32 ∨ c = 10) : lexN (ws.flatten ++ bl).length 0 (ws.flatten ++ bl) = L := by
  obtain ⟨n1, l1, e1⟩ := h bl (fun l hl x hx => jn_blank l (hb x (List.mem_of_mem_head? hx))) _ (Nat.le_refl _)
  obtain ⟨n2, l2, e2⟩ := lexN_blank bl [] n1 ws.flatten.length hb (by simpa using l1)
  rw [List.append_nil] at e2
  rw [e1, e2, lexN_nil, List.append_nil]
theorem okDs_map {α : Type} (f : α → D) : ∀ l : List α, (∀ x ∈ l, okD (f x) = true) → okDs (l.map f) = true
  | [], _ => rfl
  | x :: l, h => by
    show (okD (f x) && okDs (l.map f)) = true
    rw [h x List.mem_cons_self, okDs_map f l fun y hy => h y (List.mem_cons_of_mem _ hy)]
    rfl
structure Sm (d : D) : Prop where
  ok : okD d = true
  dp : dep d ≤ 10
  wt : wt d ≤ 20000
theorem sm_list {L : List D} (h : ∀ d ∈ L, Sm d) (hl : L.length ≤ 800) : pRepr [.lst L] = some (.sh (.str (shD (.lst L)))) := by
  have a1 : okDs L = true := by
    have := okDs_map id L fun x hx => (h x hx).ok
    rwa [List.map_id] at this
  have a2 : ∀ L : List D, (∀ d ∈ L, Sm d) → deps L ≤ 10 := by
    intro L
    induction L with
    | nil => intro _; exact Nat.zero_le _
    | cons d L ih =>
      intro h
      exact Nat.max_le.mpr ⟨(h d List.mem_cons_self).dp, ih fun x hx => h x (List.mem_cons_of_mem _ hx)⟩
  have a3 : ∀ L : List D, (∀ d ∈ L, Sm d) → wts L ≤ 20002 * L.length := by
    intro L
    induction L with
    | nil => intro _; exact Nat.zero_le _
    | cons d L ih =>
      intro h
      have h1 := (h d List.mem_cons_self).wt
      have h2 := ih fun x hx => h x (List.mem_cons_of_mem _ hx)
      show wt d + 2 + wts L ≤ 20002 * (L.length + 1)
      omega
  refine pRepr_eq a1 ?_ ?_
  · have := a2 L h
    show 1 + deps L ≤ 60
    omega
  · have := a3 L h
    show 4 + wts L ≤ 16777216
    have : 20002 * L.length ≤ 20002 * 800 := Nat.mul_le_mul_left _ hl
    omega
theorem sm_int {i : Int} (h : i.natAbs < 2 ^ 100) : okD (.int i) = true ∧ wt (.int i) ≤ 200 := by
  have := log2_le (z := i) (k := 100) h
  refine ⟨decide_eq_true (by omega), ?_⟩
  show i.natAbs.log2 + 4 ≤ 200
  omega
theorem sm_S {l : List Nat} (h : okC l) (hl : l.length ≤ 1000) : okD (dS l) = true ∧ wt (dS l) ≤ 10002 := by
  refine ⟨?_, ?_⟩
  · show l.all (fun c => decide (c < 16 ^ 8)) = true
    rw [List.all_eq_true]
    intro c hc
    have := h c hc
    exact decide_eq_true (by omega)
  · show 10 * (S l).length + 2 ≤ 10002
    rw [S_len]
    omega
end CL
namespace Lk64
open PySem PySem.Spec PyProof.Rows L2 Bv
set_option maxHeartbeats 4000000
def topS (i : Nat) : Stmt := PySem.Challenge.pw_pastamended_k64_values_and_their_text.main.body.getD i (.Pass ⟨0, 0, 0, 0⟩)
abbrev s_kind_of : Stmt := topS 4
abbrev N_kind_of : List Str := ["value"]
theorem sc_kind_of : FnScope N_kind_of ["value"] (defScope s_kind_of) := ⟨rfl, rfl, rfl, by decide +kernel, rfl, by decide +kernel, by decide +kernel⟩
abbrev s_write_value : Stmt := topS 5
abbrev N_write_value : List Str := ["value"]
theorem sc_write_value : FnScope N_write_value ["value"] (defScope s_write_value) := ⟨rfl, rfl, rfl, by decide +kernel, rfl, by decide +kernel, by decide +kernel⟩
abbrev s_end_of_run : Stmt := topS 20
abbrev N_end_of_run : List Str := ["text", "at", "signs"]
theorem sc_end_of_run : FnScope N_end_of_run ["text", "at", "signs"] (defScope s_end_of_run) := ⟨rfl, rfl, rfl, by decide +kernel, rfl, by decide +kernel, by decide +kernel⟩
abbrev s_quoted_word : Stmt := topS 21
abbrev N_quoted_word : List Str := ["text", "at", "end", "value"]
theorem sc_quoted_word : FnScope N_quoted_word ["text", "at"] (defScope s_quoted_word) := ⟨rfl, rfl, rfl, by decide +kernel, rfl, by decide +kernel, by decide +kernel⟩
abbrev s_next_word : Stmt := topS 22
abbrev N_next_word : List Str := ["text", "at", "end", "name"]
theorem sc_next_word : FnScope N_next_word ["text", "at"] (defScope s_next_word) := ⟨rfl, rfl, rfl, by decide +kernel, rfl, by decide +kernel, by decide +kernel⟩
abbrev s_words : Stmt := topS 23
abbrev N_words : List Str := ["text", "result", "at", "sort", "value", "end"]
theorem sc_words : FnScope N_words ["text"] (defScope s_words) := ⟨rfl, rfl, rfl, by decide +kernel, rfl, by decide +kernel, by decide +kernel⟩
abbrev s_w_cell : Stmt := topS 25
abbrev N_w_cell : List Str := ["_law_script", "_law_k"]
theorem sc_w_cell : FnScope N_w_cell ["_law_script", "_law_k"] (defScope s_w_cell) := ⟨rfl, rfl, rfl, by decide +kernel, rfl, by decide +kernel, by decide +kernel⟩
abbrev s_w_fields : Stmt := topS 26
abbrev N_w_fields : List Str := ["_law_number", "_law_text", "e", "_law_told"]
theorem sc_w_fields : FnScope N_w_fields ["_law_number", "_law_text"] (defScope s_w_fields) := ⟨rfl, rfl, rfl, by decide +kernel, rfl, by decide +kernel, by decide +kernel⟩
abbrev s_law : Stmt := topS 27
abbrev N_law : List Str := ["_law_script", "_law_number", "_law_chars", "_law_text", "_law_k", "_law_due", "_law_written"]
theorem sc_law : FnScope N_law ["_law_script"] (defScope s_law) := ⟨rfl, rfl, rfl, by decide +kernel, rfl, by decide +kernel, by decide +kernel⟩
abbrev keys_KEYWORDS : List Str := "always" :: "and" :: "as" :: "at" :: "count" :: "delete" :: "div" :: "except" :: "exists" :: "from" :: "greatest" :: "group" :: "having" :: "insert" :: "intersect" :: "key" :: "known" :: "least" :: "mod" :: "most" :: "not" :: "number" :: "or" :: "refers" :: "require" :: "select" :: "set" :: "sum" :: "table" :: "text" :: "to" :: "union" :: "update" :: "where" :: "whole" :: []
def xl_Conflict : List (Str × Bool) := [("RuleBroken", false), ("NotYetKnown", false), ("Conflict", true), ("SyntaxFault", false), ("WrongRule", false)]
def xl_NotYetKnown : List (Str × Bool) := [("RuleBroken", false), ("NotYetKnown", true), ("Conflict", false), ("SyntaxFault", false), ("WrongRule", false)]
def xl_RuleBroken : List (Str × Bool) := [("RuleBroken", true), ("NotYetKnown", false), ("Conflict", false), ("SyntaxFault", false), ("WrongRule", false)]
def xl_SyntaxFault : List (Str × Bool) := [("RuleBroken", false), ("NotYetKnown", false), ("Conflict", false), ("SyntaxFault", true), ("WrongRule", false)]
def xl_WrongRule : List (Str × Bool) := [("RuleBroken", false), ("NotYetKnown", false), ("Conflict", false), ("SyntaxFault", false), ("WrongRule", true)]
def xn_moment : List Str := ["RuleBroken"]
def xn_rule : List Str := ["RuleBroken"]
def xn_table : List Str := ["RuleBroken"]
def xn_known : List Str := ["NotYetKnown"]
def xn_index : List Str := ["Conflict"]
def xn_place : List Str := ["SyntaxFault", "WrongRule"]
abbrev s_i_RuleBroken : Stmt := inClass (topS 12) 0
theorem sc_i_RuleBroken : FnScope ["self", "table", "rule", "moment"] ["self", "table", "rule", "moment"] (defScope s_i_RuleBroken) := ⟨rfl, rfl, rfl, by decide +kernel, rfl, by decide +kernel, by decide +kernel⟩
abbrev s_i_NotYetKnown : Stmt := inClass (topS 11) 0
theorem sc_i_NotYetKnown : FnScope ["self", "known"] ["self", "known"] (defScope s_i_NotYetKnown) := ⟨rfl, rfl, rfl, by decide +kernel, rfl, by decide +kernel, by decide +kernel⟩
abbrev s_i_Conflict : Stmt := inClass (topS 13) 0
theorem sc_i_Conflict : FnScope ["self", "index"] ["self", "index"] (defScope s_i_Conflict) := ⟨rfl, rfl, rfl, by decide +kernel, rfl, by decide +kernel, by decide +kernel⟩
abbrev s_i_StatementError : Stmt := inClass (topS 8) 0
theorem sc_i_StatementError : FnScope ["self", "place"] ["self", "place"] (defScope s_i_StatementError) := ⟨rfl, rfl, rfl, by decide +kernel, rfl, by decide +kernel, by decide +kernel⟩
noncomputable def b_kind_of_1 : SV := sRet (eC (.str "number"))
noncomputable def b_kind_of : SV := sSeq (sIf (bE tru (eCB pIsi (aV (eV 0) (aV (eC (.ty "str")) (aNil))))) (sRet (eC (.str "text"))) (sNil)) (b_kind_of_1)
noncomputable def f_kind_of : List T → Option (List T × T) := run 1 b_kind_of
noncomputable def b_write_value_1 : SV := sRet (eCB pStr (aV (eV 0) (aNil)))
noncomputable def b_write_value : SV := sSeq (sIf (bE tru (eCB pIsi (aV (eV 0) (aV (eC (.ty "str")) (aNil))))) (sRet (eBin pAdd (eBin pAdd (eC (.str "\"")) (eV 0)) (eC (.str "\"")))) (sNil)) (b_write_value_1)
noncomputable def f_write_value : List T → Option (List T × T) := run 1 b_write_value
noncomputable abbrev f_end_of_run := PG.f_end_of_run
noncomputable abbrev f_quoted_word := PG.f_quoted_word
noncomputable abbrev f_next_word := PG.f_next_word
noncomputable abbrev f_words := PG.f_words
noncomputable abbrev f_w_cell := PG.f_w_cell
noncomputable def b_w_fields_5 : SV := sRet (eBin (pEq false) (eV 3) (eLst (aV (eV 1) (aV (eC (.int 3)) (aV (eV 0) (aV (eV 0) (aV (eV 0) (aV (eV 0) (aV (eV 0) (aNil))))))))))
noncomputable def b_w_fields_4 : SV := sSeq (sTryF 2 (xt xl_WrongRule) (sRaiseF "WrongRule" ["place"] (aV (eV 0) (aNil))) (fun a dd y => sApp 3 (eXf 2 a dd y "place" xn_place))) (b_w_fields_5)
noncomputable def b_w_fields_3 : SV := sSeq (sTryF 2 (xt xl_SyntaxFault) (sRaiseF "SyntaxFault" ["place"] (aV (eV 0) (aNil))) (fun a dd y => sApp 3 (eXf 2 a dd y "place" xn_place))) (b_w_fields_4)
noncomputable def b_w_fields_2 : SV := sSeq (sTryF 2 (xt xl_Conflict) (sRaiseF "Conflict" ["index"] (aV (eV 0) (aNil))) (fun a dd y => sApp 3 (eXf 2 a dd y "index" xn_index))) (b_w_fields_3)
noncomputable def b_w_fields_1 : SV := sSeq (sTryF 2 (xt xl_NotYetKnown) (sRaiseF "NotYetKnown" ["known"] (aV (eV 0) (aNil))) (fun a dd y => sApp 3 (eXf 2 a dd y "known" xn_known))) (b_w_fields_2)
noncomputable def b_w_fields : SV := sSeq (sTryF 2 (xt xl_RuleBroken) (sRaiseF "RuleBroken" ["table", "rule", "moment"] (aV (eV 1) (aV (eC (.int 3)) (aV (eV 0) (aNil))))) (fun a dd y => sAsg (gV 3) (eLst (aV (eXf 2 a dd y "table" xn_table) (aV (eXf 2 a dd y "rule" xn_rule) (aV (eXf 2 a dd y "moment" xn_moment) (aNil))))))) (b_w_fields_1)
noncomputable def f_w_fields : List T → Option (List T × T) := run 4 b_w_fields
noncomputable def l_law_1 : SV := sAsg (gV 3) (eBin pAdd (eV 3) (eIxV 2 (eBin pMod (eCB pInt (aV (eBin pAdd (eBin pMul (eCall 2 PG.f_w_cell [none, none] (aV (eV 0) (aV (eBin pAdd (eC (.int 3)) (eBin pMod (eV 4) (eC (.int 4)))) (aNil)))) (eBin pAdd (eV 4) (eC (.int 1)))) (eBin pMul (eV 4) (eV 4))) (aNil))) (eC (.int 93)))))
noncomputable def b_law_13 : SV := sRet (eAnd (eBin (pEq false) (eV 6) (eBin pAdd (eBin pAdd (eC (.str "\"")) (eV 3)) (eC (.str "\"")))) (eBin (pEqS false) (eCB pRepr (aV (eCall 1 PG.f_words [none] (aV (eV 6) (aNil))) (aNil))) (eCB pRepr (aV (eLst (aV (eTup (aV (eC (.str "text")) (aV (eV 3) (aV (eC (.int 0)) (aNil))))) (aNil))) (aNil)))))
noncomputable def b_law_12 : SV := sSeq (sAsg (gV 6) (eCall 1 f_write_value [none] (aV (eV 3) (aNil)))) (b_law_13)
noncomputable def b_law_11 : SV := sSeq (sIf (bCmp (pEq true) (eCall 1 f_write_value [none] (aV (eV 1) (aNil))) (eV 5)) (sRet (eC (.bl false))) (sNil)) (b_law_12)
noncomputable def b_law_10 : SV := sSeq (sIf (bCmp pLt (eV 1) (eC (.int 0))) (sAsg (gV 5) (eBin pAdd (eC (.str "-")) (eV 5))) (sNil)) (b_law_11)
noncomputable def b_law_9 : SV := sSeq (sIf (bCmp (pEqS true) (eCB pRepr (aV (eCall 1 PG.f_words [none] (aV (eV 5) (aNil))) (aNil))) (eCB pRepr (aV (eLst (aV (eTup (aV (eC (.str "number")) (aV (eCB pAbs (aV (eV 1) (aNil))) (aV (eC (.int 0)) (aNil))))) (aNil))) (aNil)))) (sRet (eC (.bl false))) (sNil)) (b_law_10)
noncomputable def b_law_8 : SV := sSeq (sAsg (gV 5) (eCB pStr (aV (eCB pAbs (aV (eV 1) (aNil))) (aNil)))) (b_law_9)
noncomputable def b_law_7 : SV := sSeq (sIf (bNot (bE tru (eCall 2 f_w_fields [none, none] (aV (eV 1) (aV (eV 3) (aNil)))))) (sRet (eC (.bl false))) (sNil)) (b_law_8)
noncomputable def b_law_6 : SV := sSeq (sIf (bOr (bCmp (pEq true) (eCall 1 f_kind_of [none] (aV (eV 1) (aNil))) (eC (.str "number"))) (bCmp (pEq true) (eCall 1 f_kind_of [none] (aV (eV 3) (aNil))) (eC (.str "text")))) (sRet (eC (.bl false))) (sNil)) (b_law_7)
noncomputable def b_law_5 : SV := sSeq (sIf (bOr (bCmp (pEq true) (eC (.int 1000000000000000000)) (eBin pPow (eC (.int 10)) (eC (.int 18)))) (bOr (bCmp (pEq true) (eC (.int 1000000)) (eC (.int 1000000))) (bCmp (pEq true) (eC (.int 1000000)) (eC (.int 1000000))))) (sRet (eC (.bl false))) (sNil)) (b_law_6)
noncomputable def b_law_4 : SV := sSeq (sFor (iR1 (aV (eBin pMod (eCall 2 PG.f_w_cell [none, none] (aV (eV 0) (aV (eC (.int 2)) (aNil)))) (eC (.int 41))) (aNil))) (gV 4) (l_law_1)) (b_law_5)
noncomputable def b_law_3 : SV := sSeq (sAsg (gV 3) (eC (.str ""))) (b_law_4)
noncomputable def b_law_2 : SV := sSeq (sAsg (gV 2) (eC (.str " !#$&'()*+,-./0123456789:;<=>?@ABCDEFGHIJKLMNOPQRSTUVWXYZ[\\]^_`abcdefghijklmnopqrstuvwxyz{|}~"))) (b_law_3)
noncomputable def b_law_1 : SV := sSeq (sIf (bCmp (pEq false) (eBin pMod (eCall 2 PG.f_w_cell [none, none] (aV (eV 0) (aV (eC (.int 1)) (aNil)))) (eC (.int 2))) (eC (.int 1))) (sAsg (gV 1) (eBin pSub (eBin pMod (eV 1) (eC (.int 41))) (eC (.int 20)))) (sNil)) (b_law_2)
noncomputable def b_law : SV := sSeq (sAsg (gV 1) (eBin pSub (eBin pMod (eCall 2 PG.f_w_cell [none, none] (aV (eV 0) (aV (eC (.int 0)) (aNil)))) (eBin pAdd (eBin pMul (eC (.int 2)) (eBin pPow (eC (.int 10)) (eC (.int 18)))) (eC (.int 1)))) (eBin pPow (eC (.int 10)) (eC (.int 18))))) (b_law_1)
noncomputable def f_law : List T → Option (List T × T) := run 7 b_law
structure Facts (w : World) (K : PySem.W.Frag) (mg : Str → Option Value) (aq0 aq1 aq2 aq3 aq4 aq5 aq6 aq7 aq8 aq9 aq10 aq11 aq12 aq13 aq14 aq15 aq16 aq17 : Addr) (dq18 dq19 dq20 dq21 dq22 dq23 dq24 dq25 dq26 dq27 dq28 dq29 dq30 : FuncData) : Prop where
  F_kind_of : Fun K "kind_of" "kind_of" s_kind_of aq0 dq18
  g_kind_of : mg "kind_of" = some (.ref aq0)
  b_kind_of : Binds K dq18 ["value"] []
  F_write_value : Fun K "write_value" "write_value" s_write_value aq1 dq19
  g_write_value : mg "write_value" = some (.ref aq1)
  b_write_value : Binds K dq19 ["value"] []
  F_end_of_run : Fun K "end_of_run" "end_of_run" s_end_of_run aq2 dq20
  g_end_of_run : mg "end_of_run" = some (.ref aq2)
  b_end_of_run : Binds K dq20 ["text", "at", "signs"] []
  F_quoted_word : Fun K "quoted_word" "quoted_word" s_quoted_word aq3 dq21
  g_quoted_word : mg "quoted_word" = some (.ref aq3)
  b_quoted_word : Binds K dq21 ["text", "at"] []
  F_next_word : Fun K "next_word" "next_word" s_next_word aq4 dq22
  g_next_word : mg "next_word" = some (.ref aq4)
  b_next_word : Binds K dq22 ["text", "at"] []
  F_words : Fun K "words" "words" s_words aq5 dq23
  g_words : mg "words" = some (.ref aq5)
  b_words : Binds K dq23 ["text"] []
  F_w_cell : Fun K "_law_cell" "_law_cell" s_w_cell aq6 dq24
  g_w_cell : mg "_law_cell" = some (.ref aq6)
  b_w_cell : Binds K dq24 ["_law_script", "_law_k"] []
  F_w_fields : Fun K "_law_fields" "_law_fields" s_w_fields aq7 dq25
  g_w_fields : mg "_law_fields" = some (.ref aq7)
  b_w_fields : Binds K dq25 ["_law_number", "_law_text"] []
  F_law : Fun K "law" "law" s_law aq8 dq26
  g_law : mg "law" = some (.ref aq8)
  b_law : Binds K dq26 ["_law_script"] []
  m_abs : mg "abs" = none
  m_int : mg "int" = none
  m_isinstance : mg "isinstance" = none
  m_len : mg "len" = none
  m_range : mg "range" = none
  m_repr : mg "repr" = none
  m_str : mg "str" = none
  gc_Conflict : mg "Conflict" = some (.ref aq9)
  gc_NotYetKnown : mg "NotYetKnown" = some (.ref aq10)
  gc_RuleBroken : mg "RuleBroken" = some (.ref aq11)
  gc_SyntaxFault : mg "SyntaxFault" = some (.ref aq12)
  gc_WrongRule : mg "WrongRule" = some (.ref aq13)
  rf_RuleBroken : RaiseF K "RuleBroken" aq11 aq14 ["table", "rule", "moment"]
  rf_NotYetKnown : RaiseF K "NotYetKnown" aq10 aq15 ["known"]
  rf_Conflict : RaiseF K "Conflict" aq9 aq16 ["index"]
  rf_SyntaxFault : RaiseF K "SyntaxFault" aq12 aq17 ["place"]
  rf_WrongRule : RaiseF K "WrongRule" aq13 aq17 ["place"]
  F_i_RuleBroken : Fun K "__init__" "RuleBroken.__init__" s_i_RuleBroken aq14 dq27
  b_i_RuleBroken : Binds K dq27 ["self", "table", "rule", "moment"] []
  F_i_NotYetKnown : Fun K "__init__" "NotYetKnown.__init__" s_i_NotYetKnown aq15 dq28
  b_i_NotYetKnown : Binds K dq28 ["self", "known"] []
  F_i_Conflict : Fun K "__init__" "Conflict.__init__" s_i_Conflict aq16 dq29
  b_i_Conflict : Binds K dq29 ["self", "index"] []
  F_i_StatementError : Fun K "__init__" "StatementError.__init__" s_i_StatementError aq17 dq30
  b_i_StatementError : Binds K dq30 ["self", "place"] []
  xf_moment : XfOk K "moment" xn_moment
  xf_rule : XfOk K "rule" xn_rule
  xf_table : XfOk K "table" xn_table
  xf_known : XfOk K "known" xn_known
  xf_index : XfOk K "index" xn_index
  xf_place : XfOk K "place" xn_place
  ct_RuleBroken : CatchOk K (.ref aq11) (xt xl_RuleBroken)
  ct_NotYetKnown : CatchOk K (.ref aq10) (xt xl_NotYetKnown)
  ct_Conflict : CatchOk K (.ref aq9) (xt xl_Conflict)
  ct_SyntaxFault : CatchOk K (.ref aq12) (xt xl_SyntaxFault)
  ct_WrongRule : CatchOk K (.ref aq13) (xt xl_WrongRule)
  t_LONG_SIGNS : KTup K mg "LONG_SIGNS" [.str "<>", .str "<=", .str ">="]
  k_KEYWORDS : KSet K w mg "KEYWORDS" keys_KEYWORDS
  c_DIGITS : ∃ t, mg "DIGITS" = some (.str "0123456789" t)
  c_END : ∃ t, mg "END" = some (.int 1000000 t)
  c_LETTERS : ∃ t, mg "LETTERS" = some (.str "abcdefghijklmnopqrstuvwxyz" t)
  c_MOST : ∃ t, mg "MOST" = some (.int 1000000000000000000 t)
  c_OPEN : ∃ t, mg "OPEN" = some (.int 1000000 t)
  c_SHORT_SIGNS : ∃ t, mg "SHORT_SIGNS" = some (.str "(),.+-*=<>" t)
section
variable {P : Program} {w : World} {K : PySem.W.Frag} {mg : Str → Option Value} {base : Heap} {aq0 aq1 aq2 aq3 aq4 aq5 aq6 aq7 aq8 aq9 aq10 aq11 aq12 aq13 aq14 aq15 aq16 aq17 : Addr} {dq18 dq19 dq20 dq21 dq22 dq23 dq24 dq25 dq26 dq27 dq28 dq29 dq30 : FuncData}
theorem ok_i_RuleBroken (Fa : Facts w K mg aq0 aq1 aq2 aq3 aq4 aq5 aq6 aq7 aq8 aq9 aq10 aq11 aq12 aq13 aq14 aq15 aq16 aq17 dq18 dq19 dq20 dq21 dq22 dq23 dq24 dq25 dq26 dq27 dq28 dq29 dq30) : FnOk P w K mg base CX0 1 aq14 dq27 ["self", "table", "rule", "moment"] (spI K ["table", "rule", "moment"]) :=
  Fun.ok (N := ["self", "table", "rule", "moment"]) Fa.F_i_RuleBroken sc_i_RuleBroken (init_len rfl) fun cdv A outer s H vs Q E hr hsp => ⟨_, pss_cons (ps_st 0) (pss_cons (ps_st 1) (pss_one (ps_st 2))), init3_run hsp⟩
theorem ok_i_NotYetKnown (Fa : Facts w K mg aq0 aq1 aq2 aq3 aq4 aq5 aq6 aq7 aq8 aq9 aq10 aq11 aq12 aq13 aq14 aq15 aq16 aq17 dq18 dq19 dq20 dq21 dq22 dq23 dq24 dq25 dq26 dq27 dq28 dq29 dq30) : FnOk P w K mg base CX0 1 aq15 dq28 ["self", "known"] (spI K ["known"]) :=
  Fun.ok (N := ["self", "known"]) Fa.F_i_NotYetKnown sc_i_NotYetKnown (init_len rfl) fun cdv A outer s H vs Q E hr hsp => ⟨_, pss_one (ps_st 0), init1_run hsp⟩
theorem ok_i_Conflict (Fa : Facts w K mg aq0 aq1 aq2 aq3 aq4 aq5 aq6 aq7 aq8 aq9 aq10 aq11 aq12 aq13 aq14 aq15 aq16 aq17 dq18 dq19 dq20 dq21 dq22 dq23 dq24 dq25 dq26 dq27 dq28 dq29 dq30) : FnOk P w K mg base CX0 1 aq16 dq29 ["self", "index"] (spI K ["index"]) :=
  Fun.ok (N := ["self", "index"]) Fa.F_i_Conflict sc_i_Conflict (init_len rfl) fun cdv A outer s H vs Q E hr hsp => ⟨_, pss_one (ps_st 0), init1_run hsp⟩
theorem ok_i_StatementError (Fa : Facts w K mg aq0 aq1 aq2 aq3 aq4 aq5 aq6 aq7 aq8 aq9 aq10 aq11 aq12 aq13 aq14 aq15 aq16 aq17 dq18 dq19 dq20 dq21 dq22 dq23 dq24 dq25 dq26 dq27 dq28 dq29 dq30) : FnOk P w K mg base CX0 1 aq17 dq30 ["self", "place"] (spI K ["place"]) :=
  Fun.ok (N := ["self", "place"]) Fa.F_i_StatementError sc_i_StatementError (init_len rfl) fun cdv A outer s H vs Q E hr hsp => ⟨_, pss_one (ps_st 0), init1_run hsp⟩
theorem ok_kind_of (Fa : Facts w K mg aq0 aq1 aq2 aq3 aq4 aq5 aq6 aq7 aq8 aq9 aq10 aq11 aq12 aq13 aq14 aq15 aq16 aq17 dq18 dq19 dq20 dq21 dq22 dq23 dq24 dq25 dq26 dq27 dq28 dq29 dq30) : FnG P w K mg base 1 aq0 dq18 ["value"] (spB K 1 f_kind_of) :=
  fn_ok (N := N_kind_of) Fa.F_kind_of sc_kind_of (by decide) fun cdv A outer s H E hr tk po => yss_cons (ys_if (xt_e (x_cb c_isi (by rfl) Fa.m_isinstance (by decide +kernel) (xa_v (x_var 0) (xa_v (x_ty (by rfl) Fa.m_str (by decide +kernel)) (xa_nil))))) (yss_one (ys_ret (x_str))) (yss_nil)) (yss_one (ys_ret (x_str)))
theorem ok_write_value (Fa : Facts w K mg aq0 aq1 aq2 aq3 aq4 aq5 aq6 aq7 aq8 aq9 aq10 aq11 aq12 aq13 aq14 aq15 aq16 aq17 dq18 dq19 dq20 dq21 dq22 dq23 dq24 dq25 dq26 dq27 dq28 dq29 dq30) : FnG P w K mg base 1 aq1 dq19 ["value"] (spB K 1 f_write_value) :=
  fn_ok (N := N_write_value) Fa.F_write_value sc_write_value (by decide) fun cdv A outer s H E hr tk po => yss_cons (ys_if (xt_e (x_cb c_isi (by rfl) Fa.m_isinstance (by decide +kernel) (xa_v (x_var 0) (xa_v (x_ty (by rfl) Fa.m_str (by decide +kernel)) (xa_nil))))) (yss_one (ys_ret (x_op o_add (x_op o_add (x_str) (x_var 0)) (x_str)))) (yss_nil)) (yss_one (ys_ret (x_ct c_str (by rfl) Fa.m_str (by decide +kernel) (xa_v (x_var 0) (xa_nil)))))
theorem ok_end_of_run (Fa : Facts w K mg aq0 aq1 aq2 aq3 aq4 aq5 aq6 aq7 aq8 aq9 aq10 aq11 aq12 aq13 aq14 aq15 aq16 aq17 dq18 dq19 dq20 dq21 dq22 dq23 dq24 dq25 dq26 dq27 dq28 dq29 dq30) : FnG P w K mg base 1 aq2 dq20 ["text", "at", "signs"] (spB K 3 f_end_of_run) :=
  fn_ok (N := N_end_of_run) Fa.F_end_of_run sc_end_of_run (by decide) fun cdv A outer s H E hr tk po => yss_cons (ys_while po (PW.pt (xt_and (xt_cmp o_lt (x_var 1) (x_lenV 0 (by rfl) Fa.m_len) (by rfl)) (xt_and1 (xt_cmp o_in (x_ixV 0 (x_var 1)) (x_var 2) (by rfl))))) (yss_one (ys_set 1 (x_op o_add (x_var 1) (x_int)) sc_end_of_run.nd))) (yss_one (ys_ret (x_mov 1)))
theorem ok_quoted_word (Fa : Facts w K mg aq0 aq1 aq2 aq3 aq4 aq5 aq6 aq7 aq8 aq9 aq10 aq11 aq12 aq13 aq14 aq15 aq16 aq17 dq18 dq19 dq20 dq21 dq22 dq23 dq24 dq25 dq26 dq27 dq28 dq29 dq30) : FnG P w K mg base 1 aq3 dq21 ["text", "at"] (spB K 2 f_quoted_word) :=
  fn_ok (N := N_quoted_word) Fa.F_quoted_word sc_quoted_word (by decide) fun cdv A outer s H E hr tk po => yss_cons (ys_set 2 (x_find2 (x_var 0) (x_str) (x_op o_add (x_var 1) (x_int))) sc_quoted_word.nd) (yss_cons (ys_if (PW.pt (xt_or (xt_cmp o_lt (x_var 2) (x_int) (by rfl)) (xt_or1 (xt_cmp o_gt (x_op o_sub (x_var 2) (x_var 1)) (x_int) (by rfl))))) (yss_one (ys_ret (x_tup (xa_v (x_str) (xa_v (x_str) (xa_v (x_var 1) (xa_nil))))))) (yss_nil)) (yss_cons (ys_set 3 (x_sl o_sl (x_var 0) (xo_some (x_op o_add (x_var 1) (x_int))) (xo_some (x_var 2))) sc_quoted_word.nd) (yss_cons (ys_if (xt_cmp o_in (x_str) (x_var 3) (by rfl)) (yss_one (ys_ret (x_tup (xa_v (x_str) (xa_v (x_str) (xa_v (x_var 1) (xa_nil))))))) (yss_nil)) (yss_one (ys_ret (x_tup (xa_v (x_str) (xa_v (x_var 3) (xa_v (x_op o_add (x_var 2) (x_int)) (xa_nil))))))))))
theorem ok_next_word (Fa : Facts w K mg aq0 aq1 aq2 aq3 aq4 aq5 aq6 aq7 aq8 aq9 aq10 aq11 aq12 aq13 aq14 aq15 aq16 aq17 dq18 dq19 dq20 dq21 dq22 dq23 dq24 dq25 dq26 dq27 dq28 dq29 dq30) : FnG P w K mg base 2 aq4 dq22 ["text", "at"] (spB K 2 f_next_word) :=
  fn_ok (N := N_next_word) Fa.F_next_word sc_next_word (by decide) fun cdv A outer s H E hr tk po => yss_cons (ys_if (xt_cmp o_in (x_ixV 0 (x_var 1)) (x_globS (by rfl) Fa.c_LETTERS) (by rfl)) (yss_cons (ys_set 2 (x_call (ok_end_of_run Fa) (hr.mono (by decide)) (by rfl) Fa.g_end_of_run Fa.F_end_of_run.kp Fa.b_end_of_run (xa_v (x_var 0) (xa_v (x_var 1) (xa_v (x_op o_add (x_op o_add (x_globS (by rfl) Fa.c_LETTERS) (x_globS (by rfl) Fa.c_DIGITS)) (x_str)) (xa_nil))))) sc_next_word.nd) (yss_cons (ys_set 3 (x_sl o_sl (x_var 0) (xo_some (x_var 1)) (xo_some (x_var 2))) sc_next_word.nd) (yss_cons (ys_if (xt_inK Fa.k_KEYWORDS (by rfl) (x_var 3)) (yss_one (ys_ret (x_tup (xa_v (x_str) (xa_v (x_var 3) (xa_v (x_var 2) (xa_nil))))))) (yss_nil)) (yss_cons (ys_if (xt_cmp o_gt (x_lenV 3 (by rfl) Fa.m_len) (x_int) (by rfl)) (yss_one (ys_ret (x_tup (xa_v (x_str) (xa_v (x_str) (xa_v (x_var 1) (xa_nil))))))) (yss_nil)) (yss_one (ys_ret (x_tup (xa_v (x_str) (xa_v (x_var 3) (xa_v (x_var 2) (xa_nil))))))))))) (yss_nil)) (yss_cons (ys_if (xt_cmp o_in (x_ixV 0 (x_var 1)) (x_globS (by rfl) Fa.c_DIGITS) (by rfl)) (yss_cons (ys_set 2 (x_call (ok_end_of_run Fa) (hr.mono (by decide)) (by rfl) Fa.g_end_of_run Fa.F_end_of_run.kp Fa.b_end_of_run (xa_v (x_var 0) (xa_v (x_var 1) (xa_v (x_globS (by rfl) Fa.c_DIGITS) (xa_nil))))) sc_next_word.nd) (yss_cons (ys_if (PW.pt (xt_or (xt_cmp o_gt (x_op o_sub (x_var 2) (x_var 1)) (x_int) (by rfl)) (xt_or1 (xt_cmp o_gt (x_ct c_int (by rfl) Fa.m_int (by decide +kernel) (xa_v (x_sl o_sl (x_var 0) (xo_some (x_var 1)) (xo_some (x_var 2))) (xa_nil))) (x_globI (by rfl) Fa.c_MOST) (by rfl))))) (yss_one (ys_ret (x_tup (xa_v (x_str) (xa_v (x_str) (xa_v (x_var 1) (xa_nil))))))) (yss_nil)) (yss_one (ys_ret (x_tup (xa_v (x_str) (xa_v (x_ct c_int (by rfl) Fa.m_int (by decide +kernel) (xa_v (x_sl o_sl (x_var 0) (xo_some (x_var 1)) (xo_some (x_var 2))) (xa_nil))) (xa_v (x_var 2) (xa_nil))))))))) (yss_nil)) (yss_cons (ys_if (xt_cmp (o_eq hr.units) (x_ixV 0 (x_var 1)) (x_str) (by rfl)) (yss_one (ys_ret (x_call (ok_quoted_word Fa) (hr.mono (by decide)) (by rfl) Fa.g_quoted_word Fa.F_quoted_word.kp Fa.b_quoted_word (xa_v (x_var 0) (xa_v (x_var 1) (xa_nil)))))) (yss_nil)) (yss_cons (ys_if (xt_inKT (x_sl o_sl (x_var 0) (xo_some (x_var 1)) (xo_some (x_op o_add (x_var 1) (x_int)))) (by rfl) Fa.t_LONG_SIGNS) (yss_one (ys_ret (x_tup (xa_v (x_str) (xa_v (x_sl o_sl (x_var 0) (xo_some (x_var 1)) (xo_some (x_op o_add (x_var 1) (x_int)))) (xa_v (x_op o_add (x_var 1) (x_int)) (xa_nil))))))) (yss_nil)) (yss_cons (ys_if (xt_cmp o_in (x_ixV 0 (x_var 1)) (x_globS (by rfl) Fa.c_SHORT_SIGNS) (by rfl)) (yss_one (ys_ret (x_tup (xa_v (x_str) (xa_v (x_ixV 0 (x_var 1)) (xa_v (x_op o_add (x_var 1) (x_int)) (xa_nil))))))) (yss_nil)) (yss_one (ys_ret (x_tup (xa_v (x_str) (xa_v (x_str) (xa_v (x_var 1) (xa_nil)))))))))))
theorem ok_words (Fa : Facts w K mg aq0 aq1 aq2 aq3 aq4 aq5 aq6 aq7 aq8 aq9 aq10 aq11 aq12 aq13 aq14 aq15 aq16 aq17 dq18 dq19 dq20 dq21 dq22 dq23 dq24 dq25 dq26 dq27 dq28 dq29 dq30) : FnG P w K mg base 3 aq5 dq23 ["text"] (spB K 1 f_words) :=
  fn_ok (N := N_words) Fa.F_words sc_words (by decide) fun cdv A outer s H E hr tk po => yss_cons (ys_set 1 (x_lst (xa_nil)) sc_words.nd) (yss_cons (ys_set 2 (x_int) sc_words.nd) (yss_cons (ys_while po (xt_cmp o_lt (x_var 2) (x_lenV 0 (by rfl) Fa.m_len) (by rfl)) (yss_cons (ys_if (xt_cmp o_in (x_ixV 0 (x_var 2)) (x_str) (by rfl)) (yss_cons (ys_set 2 (x_op o_add (x_var 2) (x_int)) sc_words.nd) (yss_one (ys_cont))) (yss_nil)) (yss_cons (ys_asg (x_call (ok_next_word Fa) (hr.mono (by decide)) (by rfl) Fa.g_next_word Fa.F_next_word.kp Fa.b_next_word (xa_v (x_var 0) (xa_v (x_var 2) (xa_nil)))) (xg_unp rfl (xgs_cons (xg_name 3 sc_words.nd) (xgs_cons (xg_name 4 sc_words.nd) (xgs_cons (xg_name 5 sc_words.nd) (xgs_nil)))))) (yss_cons (ys_app 1 (x_tup (xa_v (x_var 3) (xa_v (x_var 4) (xa_v (x_var 2) (xa_nil)))))) (yss_cons (ys_if (xt_cmp (o_eq hr.units) (x_var 3) (x_str) (by rfl)) (yss_one (ys_ret (x_mov 1))) (yss_nil)) (yss_one (ys_set 2 (x_var 5) sc_words.nd))))))) (yss_one (ys_ret (x_mov 1)))))
theorem ok_w_cell (Fa : Facts w K mg aq0 aq1 aq2 aq3 aq4 aq5 aq6 aq7 aq8 aq9 aq10 aq11 aq12 aq13 aq14 aq15 aq16 aq17 dq18 dq19 dq20 dq21 dq22 dq23 dq24 dq25 dq26 dq27 dq28 dq29 dq30) : FnG P w K mg base 1 aq6 dq24 ["_law_script", "_law_k"] (spB K 2 f_w_cell) :=
  fn_ok (N := N_w_cell) Fa.F_w_cell sc_w_cell (by decide) fun cdv A outer s H E hr tk po => yss_cons (ys_if (xt_cmp o_lt (x_var 1) (x_lenV 0 (by rfl) Fa.m_len) (by rfl)) (yss_one (ys_ret (x_ixV 0 (x_var 1)))) (yss_nil)) (yss_one (ys_ret (x_int)))
theorem ok_w_fields (Fa : Facts w K mg aq0 aq1 aq2 aq3 aq4 aq5 aq6 aq7 aq8 aq9 aq10 aq11 aq12 aq13 aq14 aq15 aq16 aq17 dq18 dq19 dq20 dq21 dq22 dq23 dq24 dq25 dq26 dq27 dq28 dq29 dq30) : FnG P w K mg base 3 aq7 dq25 ["_law_number", "_law_text"] (spB K 2 f_w_fields) :=
  fn_ok (N := N_w_fields) Fa.F_w_fields sc_w_fields (by decide) fun cdv A outer s H E hr tk po => yss_cons (ys_tryF 2 sc_w_fields.nd ⟨by rfl, by decide, .inl Fa.gc_RuleBroken⟩ tk Fa.ct_RuleBroken (fun W pn xe tk po => yss_one (ys_raiseF Fa.rf_RuleBroken (ok_i_RuleBroken Fa) (hr.mono (by decide)).rm Fa.b_i_RuleBroken rfl tk (by rfl) Fa.gc_RuleBroken (by decide) (xa_v (x_var 1) (xa_v (x_int) (xa_v (x_var 0) (xa_nil)))))) (fun a oe cls dd pn y z1 z2 hy => yss_one (ys_set 3 (x_lst (xa_v (x_xf 2 hy z1 z2 Fa.xf_table) (xa_v (x_xf 2 hy z1 z2 Fa.xf_rule) (xa_v (x_xf 2 hy z1 z2 Fa.xf_moment) (xa_nil))))) sc_w_fields.nd))) (yss_cons (ys_tryF 2 sc_w_fields.nd ⟨by rfl, by decide, .inl Fa.gc_NotYetKnown⟩ tk Fa.ct_NotYetKnown (fun W pn xe tk po => yss_one (ys_raiseF Fa.rf_NotYetKnown (ok_i_NotYetKnown Fa) (hr.mono (by decide)).rm Fa.b_i_NotYetKnown rfl tk (by rfl) Fa.gc_NotYetKnown (by decide) (xa_v (x_var 0) (xa_nil)))) (fun a oe cls dd pn y z1 z2 hy => yss_one (ys_app 3 (x_xf 2 hy z1 z2 Fa.xf_known)))) (yss_cons (ys_tryF 2 sc_w_fields.nd ⟨by rfl, by decide, .inl Fa.gc_Conflict⟩ tk Fa.ct_Conflict (fun W pn xe tk po => yss_one (ys_raiseF Fa.rf_Conflict (ok_i_Conflict Fa) (hr.mono (by decide)).rm Fa.b_i_Conflict rfl tk (by rfl) Fa.gc_Conflict (by decide) (xa_v (x_var 0) (xa_nil)))) (fun a oe cls dd pn y z1 z2 hy => yss_one (ys_app 3 (x_xf 2 hy z1 z2 Fa.xf_index)))) (yss_cons (ys_tryF 2 sc_w_fields.nd ⟨by rfl, by decide, .inl Fa.gc_SyntaxFault⟩ tk Fa.ct_SyntaxFault (fun W pn xe tk po => yss_one (ys_raiseF Fa.rf_SyntaxFault (ok_i_StatementError Fa) (hr.mono (by decide)).rm Fa.b_i_StatementError rfl tk (by rfl) Fa.gc_SyntaxFault (by decide) (xa_v (x_var 0) (xa_nil)))) (fun a oe cls dd pn y z1 z2 hy => yss_one (ys_app 3 (x_xf 2 hy z1 z2 Fa.xf_place)))) (yss_cons (ys_tryF 2 sc_w_fields.nd ⟨by rfl, by decide, .inl Fa.gc_WrongRule⟩ tk Fa.ct_WrongRule (fun W pn xe tk po => yss_one (ys_raiseF Fa.rf_WrongRule (ok_i_StatementError Fa) (hr.mono (by decide)).rm Fa.b_i_StatementError rfl tk (by rfl) Fa.gc_WrongRule (by decide) (xa_v (x_var 0) (xa_nil)))) (fun a oe cls dd pn y z1 z2 hy => yss_one (ys_app 3 (x_xf 2 hy z1 z2 Fa.xf_place)))) (yss_one (ys_ret (x_cmp (o_eq hr.units) (x_var 3) (x_lst (xa_v (x_var 1) (xa_v (x_int) (xa_v (x_var 0) (xa_v (x_var 0) (xa_v (x_var 0) (xa_v (x_var 0) (xa_v (x_var 0) (xa_nil))))))))) (by rfl))))))))
theorem ok_law (Fa : Facts w K mg aq0 aq1 aq2 aq3 aq4 aq5 aq6 aq7 aq8 aq9 aq10 aq11 aq12 aq13 aq14 aq15 aq16 aq17 dq18 dq19 dq20 dq21 dq22 dq23 dq24 dq25 dq26 dq27 dq28 dq29 dq30) : FnG P w K mg base 4 aq8 dq26 ["_law_script"] (spB K 1 f_law) :=
  fn_ok (N := N_law) Fa.F_law sc_law (by decide) fun cdv A outer s H E hr tk po => yss_cons (ys_set 1 (x_op o_sub (x_op o_mod (x_call (ok_w_cell Fa) (hr.mono (by decide)) (by rfl) Fa.g_w_cell Fa.F_w_cell.kp Fa.b_w_cell (xa_v (x_var 0) (xa_v (x_int) (xa_nil)))) (x_op o_add (x_op o_mul (x_int) (x_op o_pow (x_int) (x_int))) (x_int))) (x_op o_pow (x_int) (x_int))) sc_law.nd) (yss_cons (ys_if (xt_cmp (o_eq hr.units) (x_op o_mod (x_call (ok_w_cell Fa) (hr.mono (by decide)) (by rfl) Fa.g_w_cell Fa.F_w_cell.kp Fa.b_w_cell (xa_v (x_var 0) (xa_v (x_int) (xa_nil)))) (x_int)) (x_int) (by rfl)) (yss_one (ys_set 1 (x_op o_sub (x_op o_mod (x_var 1) (x_int)) (x_int)) sc_law.nd)) (yss_nil)) (yss_cons (ys_set 2 (x_str) sc_law.nd) (yss_cons (ys_set 3 (x_str) sc_law.nd) (yss_cons (ys_for po rfl (xi_r1 (by rfl) Fa.m_range (xa_v (x_op o_mod (x_call (ok_w_cell Fa) (hr.mono (by decide)) (by rfl) Fa.g_w_cell Fa.F_w_cell.kp Fa.b_w_cell (xa_v (x_var 0) (xa_v (x_int) (xa_nil)))) (x_int)) (xa_nil))) (xg_name 4 sc_law.nd) (yss_one (ys_set 3 (x_op o_add (x_var 3) (x_ixV 2 (x_op o_mod (x_ct c_int (by rfl) Fa.m_int (by decide +kernel) (xa_v (x_op o_add (x_op o_mul (x_call (ok_w_cell Fa) (hr.mono (by decide)) (by rfl) Fa.g_w_cell Fa.F_w_cell.kp Fa.b_w_cell (xa_v (x_var 0) (xa_v (x_op o_add (x_int) (x_op o_mod (x_var 4) (x_int))) (xa_nil)))) (x_op o_add (x_var 4) (x_int))) (x_op o_mul (x_var 4) (x_var 4))) (xa_nil))) (x_int)))) sc_law.nd))) (yss_cons (ys_if (PW.pt (xt_or (xt_cmp (o_ne hr.units) (x_globI (by rfl) Fa.c_MOST) (x_op o_pow (x_int) (x_int)) (by rfl)) (xt_or (xt_cmp (o_ne hr.units) (x_globI (by rfl) Fa.c_END) (x_int) (by rfl)) (xt_or1 (xt_cmp (o_ne hr.units) (x_globI (by rfl) Fa.c_OPEN) (x_int) (by rfl)))))) (yss_one (ys_ret (x_bl))) (yss_nil)) (yss_cons (ys_if (PW.pt (xt_or (xt_cmp (o_ne hr.units) (x_call (ok_kind_of Fa) (hr.mono (by decide)) (by rfl) Fa.g_kind_of Fa.F_kind_of.kp Fa.b_kind_of (xa_v (x_var 1) (xa_nil))) (x_str) (by rfl)) (xt_or1 (xt_cmp (o_ne hr.units) (x_call (ok_kind_of Fa) (hr.mono (by decide)) (by rfl) Fa.g_kind_of Fa.F_kind_of.kp Fa.b_kind_of (xa_v (x_var 3) (xa_nil))) (x_str) (by rfl))))) (yss_one (ys_ret (x_bl))) (yss_nil)) (yss_cons (ys_if (xt_not (xt_e (x_call (ok_w_fields Fa) (hr.mono (by decide)) (by rfl) Fa.g_w_fields Fa.F_w_fields.kp Fa.b_w_fields (xa_v (x_var 1) (xa_v (x_var 3) (xa_nil)))))) (yss_one (ys_ret (x_bl))) (yss_nil)) (yss_cons (ys_set 5 (x_ct c_str (by rfl) Fa.m_str (by decide +kernel) (xa_v (x_cb c_abs (by rfl) Fa.m_abs (by decide +kernel) (xa_v (x_var 1) (xa_nil))) (xa_nil))) sc_law.nd) (yss_cons (ys_if (xt_cmp o_neS (x_cb (c_repr hr.gd hr.units) (by rfl) Fa.m_repr (by decide +kernel) (xa_v (x_call (ok_words Fa) (hr.mono (by decide)) (by rfl) Fa.g_words Fa.F_words.kp Fa.b_words (xa_v (x_var 5) (xa_nil))) (xa_nil))) (x_cb (c_repr hr.gd hr.units) (by rfl) Fa.m_repr (by decide +kernel) (xa_v (x_lst (xa_v (x_tup (xa_v (x_str) (xa_v (x_cb c_abs (by rfl) Fa.m_abs (by decide +kernel) (xa_v (x_var 1) (xa_nil))) (xa_v (x_int) (xa_nil))))) (xa_nil))) (xa_nil))) (by rfl)) (yss_one (ys_ret (x_bl))) (yss_nil)) (yss_cons (ys_if (xt_cmp o_lt (x_var 1) (x_int) (by rfl)) (yss_one (ys_set 5 (x_op o_add (x_str) (x_var 5)) sc_law.nd)) (yss_nil)) (yss_cons (ys_if (xt_cmp (o_ne hr.units) (x_call (ok_write_value Fa) (hr.mono (by decide)) (by rfl) Fa.g_write_value Fa.F_write_value.kp Fa.b_write_value (xa_v (x_var 1) (xa_nil))) (x_var 5) (by rfl)) (yss_one (ys_ret (x_bl))) (yss_nil)) (yss_cons (ys_set 6 (x_call (ok_write_value Fa) (hr.mono (by decide)) (by rfl) Fa.g_write_value Fa.F_write_value.kp Fa.b_write_value (xa_v (x_var 3) (xa_nil))) sc_law.nd) (yss_one (ys_ret (x_and (x_cmp (o_eq hr.units) (x_var 6) (x_op o_add (x_op o_add (x_str) (x_var 3)) (x_str)) (by rfl)) (x_one (x_cmp o_eqS (x_cb (c_repr hr.gd hr.units) (by rfl) Fa.m_repr (by decide +kernel) (xa_v (x_call (ok_words Fa) (hr.mono (by decide)) (by rfl) Fa.g_words Fa.F_words.kp Fa.b_words (xa_v (x_var 6) (xa_nil))) (xa_nil))) (x_cb (c_repr hr.gd hr.units) (by rfl) Fa.m_repr (by decide +kernel) (xa_v (x_lst (xa_v (x_tup (xa_v (x_str) (xa_v (x_var 3) (xa_v (x_int) (xa_nil))))) (xa_nil))) (xa_nil))) (by rfl))))))))))))))))))
end
end Lk64
namespace Lk64
open PySem PySem.Spec L2 Bv CS SX CW CL
set_option maxHeartbeats 4000000
abbrev YES : List T → T → Prop := fun _ r => r = .sh (.bl true)
theorem wp_TryF {i : Nat} {t : Xn → Option Bool} {β : SV} {ρ : Addr → Addr → Xn → SV} {e e1 e2 : Ev} {n : Str} {fs : List Str} {ds : List D} {Q : Ev → Fl → Prop} (hb : β e = some (e1, .ex (.ownF n fs ds))) (ht : t (.ownF n fs ds) = some true) (hu : e1[i]? = some .un)
    (hr : ∀ a dd, ∃ e3, ρ a dd (.ownF n fs ds) (e1.set i (.ok (.sh (.cn (.xo a dd fs) ds)))) = some (e3, .nx) ∧ e3.set i .un = e2) (K : Q e2 .nx) : Wp (sTryF i t β ρ) e Q := by
  refine ⟨(e2, .nx), ?_, K⟩
  show ((β e).bind fun q => match q.2 with
    | .ex x => (t x).bind fun b => if b = true then (match q.1[i]? with
      | some .un => pickA fun a => pickA fun dd => (exD a dd x).bind fun D => (ρ a dd x (q.1.set i (.ok (.sh D)))).bind (behind i)
      | _ => none) else some q
    | _ => some q) = _
  rw [hb]
  show ((t (.ownF n fs ds)).bind fun b => if b = true then (match e1[i]? with
      | some .un => pickA fun a => pickA fun dd => (exD a dd (.ownF n fs ds)).bind fun D => (ρ a dd (.ownF n fs ds) (e1.set i (.ok (.sh D)))).bind (behind i)
      | _ => none) else some (e1, .ex (.ownF n fs ds))) = _
  rw [ht]
  show (match e1[i]? with
      | some .un => pickA fun a => pickA fun dd => (exD a dd (.ownF n fs ds)).bind fun D => (ρ a dd (.ownF n fs ds) (e1.set i (.ok (.sh D)))).bind (behind i)
      | _ => none) = _
  rw [hu]
  refine pickA_eq fun a => pickA_eq fun dd => ?_
  obtain ⟨e3, h1, h2⟩ := hr a dd
  show (ρ a dd (.ownF n fs ds) (e1.set i (.ok (.sh (.cn (.xo a dd fs) ds))))).bind (behind i) = _
  rw [h1, ← h2]; rfl
theorem eXf_eq {i : Nat} {a dd : Addr} {n f : Str} {fs0 fs : List Str} {ds0 ds : List D} {cs : List Str} {e : Ev} {d : D} (hi : e[i]? = some (.ok (.sh (.cn (.xo a dd fs) ds)))) (hn : n ∈ cs) (hl : (fs.zip ds).lookup f = some d) : eXf i a dd (.ownF n fs0 ds0) f cs e = some (e, .sh d) := by
  unfold eXf
  rw [hi]
  show (if n ∈ cs ∧ a = a ∧ dd = dd then ((fs.zip ds).lookup f).bind fun d => some (e, T.sh d) else none) = _
  rw [if_pos ⟨hn, rfl, rfl⟩, hl]; rfl
section
variable {nn : Int} {w : D}
abbrev eF (nn : Int) (w : D) (U : List T) : Ev := [.ok (.sh (.int nn)), .ok (.sh w), .un, .ok (.ow false U)]
theorem one_more {c f : Str} {cs : List Str} {tb : List (Str × Bool)} {U : List T} {Q : Ev → Fl → Prop} (hc : c ∈ cs) (ht : xt tb (.ownF c [f] [.int nn]) = some true) (hU : U.length ≤ 100) (K : Q (eF nn w (U ++ [.sh (.int nn)])) .nx) :
    Wp (sTryF 2 (xt tb) (sRaiseF c [f] (aV (eV 0) (aNil))) (fun a dd y => sApp 3 (eXf 2 a dd y f cs))) (eF nn w U) Q := by
  refine wp_TryF (e1 := eF nn w U) (e2 := eF nn w (U ++ [.sh (.int nn)])) (n := c) (fs := [f]) (ds := [.int nn]) rfl ht rfl (fun a dd => ⟨[.ok (.sh (.int nn)), .ok (.sh w), .ok (.sh (.cn (.xo a dd [f]) [.int nn])), .ok (.ow false (U ++ [.sh (.int nn)]))], ?_, rfl⟩) K
  have hx : eXf 2 a dd (.ownF c [f] [.int nn]) f cs [.ok (.sh (.int nn)), .ok (.sh w), .ok (.sh (.cn (.xo a dd [f]) [.int nn])), .ok (.ow false U)] = some ([.ok (.sh (.int nn)), .ok (.sh w), .ok (.sh (.cn (.xo a dd [f]) [.int nn])), .ok (.ow false U)], .sh (.int nn)) :=
    eXf_eq (fs := [f]) (ds := [.int nn]) rfl hc (by simp)
  show sApp 3 (eXf 2 a dd (.ownF c [f] [.int nn]) f cs) [.ok (.sh (.int nn)), .ok (.sh w), .ok (.sh (.cn (.xo a dd [f]) [.int nn])), .ok (.ow false U)] = _
  have hl : U.length < sizeLine := by rw [sizeLine_num]; omega
  unfold sApp
  rw [hx]
  show (if true = true then (if U.length < sizeLine then _ else none) else none) = _
  rw [if_pos rfl, if_pos hl]; rfl
theorem fields_wf {l : List Nat} (hw : w = dS l) (hl : okC l) {Q : List T → T → Prop} (K : Q [.sh (.int nn), .sh w] (.sh (.bl true))) : Wf f_w_fields [.sh (.int nn), .sh w] Q := by
  unfold f_w_fields
  rw [wf_run]
  unfold b_w_fields
  show Wp _ [.ok (.sh (.int nn)), .ok (.sh w), .un, .un] _
  refine wp_Seq.mpr ?_
  refine wp_TryF (e1 := [.ok (.sh (.int nn)), .ok (.sh w), .un, .un]) (e2 := eF nn w [.sh w, .sh (.int 3), .sh (.int nn)]) (n := "RuleBroken") (fs := ["moment", "rule", "table"]) (ds := [.int nn, .int 3, w]) rfl rfl rfl (fun a dd => ⟨[.ok (.sh (.int nn)), .ok (.sh w), .ok (.sh (.cn (.xo a dd ["moment", "rule", "table"]) [.int nn, .int 3, w])), .ok (.ow false [.sh w, .sh (.int 3), .sh (.int nn)])], ?_, rfl⟩) ?_
  · have h1 : eXf 2 a dd (.ownF "RuleBroken" ["moment", "rule", "table"] [.int nn, .int 3, w]) "table" xn_table [.ok (.sh (.int nn)), .ok (.sh w), .ok (.sh (.cn (.xo a dd ["moment", "rule", "table"]) [.int nn, .int 3, w])), .un] = some ([.ok (.sh (.int nn)), .ok (.sh w), .ok (.sh (.cn (.xo a dd ["moment", "rule", "table"]) [.int nn, .int 3, w])), .un], .sh w) := eXf_eq rfl (by unfold xn_table; simp) rfl
    have h2 : eXf 2 a dd (.ownF "RuleBroken" ["moment", "rule", "table"] [.int nn, .int 3, w]) "rule" xn_rule [.ok (.sh (.int nn)), .ok (.sh w), .ok (.sh (.cn (.xo a dd ["moment", "rule", "table"]) [.int nn, .int 3, w])), .un] = some ([.ok (.sh (.int nn)), .ok (.sh w), .ok (.sh (.cn (.xo a dd ["moment", "rule", "table"]) [.int nn, .int 3, w])), .un], .sh (.int 3)) := eXf_eq rfl (by unfold xn_rule; simp) rfl
    have h3 : eXf 2 a dd (.ownF "RuleBroken" ["moment", "rule", "table"] [.int nn, .int 3, w]) "moment" xn_moment [.ok (.sh (.int nn)), .ok (.sh w), .ok (.sh (.cn (.xo a dd ["moment", "rule", "table"]) [.int nn, .int 3, w])), .un] = some ([.ok (.sh (.int nn)), .ok (.sh w), .ok (.sh (.cn (.xo a dd ["moment", "rule", "table"]) [.int nn, .int 3, w])), .un], .sh (.int nn)) := eXf_eq rfl (by unfold xn_moment; simp) rfl
    show sAsg (gV 3) (eLst (aV (eXf 2 a dd (.ownF "RuleBroken" ["moment", "rule", "table"] [.int nn, .int 3, w]) "table" xn_table) (aV (eXf 2 a dd (.ownF "RuleBroken" ["moment", "rule", "table"] [.int nn, .int 3, w]) "rule" xn_rule) (aV (eXf 2 a dd (.ownF "RuleBroken" ["moment", "rule", "table"] [.int nn, .int 3, w]) "moment" xn_moment) (aNil))))) [.ok (.sh (.int nn)), .ok (.sh w), .ok (.sh (.cn (.xo a dd ["moment", "rule", "table"]) [.int nn, .int 3, w])), .un] = _
    simp [h1, h2, h3]
  · show Wp b_w_fields_1 (eF nn w [.sh w, .sh (.int 3), .sh (.int nn)]) _
    unfold b_w_fields_1
    refine wp_Seq.mpr (one_more (by unfold xn_known; simp) rfl (by simp) ?_)
    show Wp b_w_fields_2 _ _
    unfold b_w_fields_2
    refine wp_Seq.mpr (one_more (by unfold xn_index; simp) rfl (by simp) ?_)
    show Wp b_w_fields_3 _ _
    unfold b_w_fields_3
    refine wp_Seq.mpr (one_more (by unfold xn_place; simp) rfl (by simp) ?_)
    show Wp b_w_fields_4 _ _
    unfold b_w_fields_4
    refine wp_Seq.mpr (one_more (by unfold xn_place; simp) rfl (by simp) ?_)
    show Wp b_w_fields_5 (eF nn w [.sh w, .sh (.int 3), .sh (.int nn), .sh (.int nn), .sh (.int nn), .sh (.int nn), .sh (.int nn)]) _
    have he : pEq false (.lst [w, .int 3, .int nn, .int nn, .int nn, .int nn, .int nn]) (.lst [w, .int 3, .int nn, .int nn, .int nn, .int nn, .int nn]) = some (.sh (.bl true)) := by
      subst hw
      refine pEq_self false ?_ (Nat.le_of_ble_eq_true rfl)
      show (PyData.canLay0 (.str (S l)) && true) = true
      rw [Bool.and_true]
      exact strOk_S hl
    unfold b_w_fields_5
    simp [fzs, he]
    exact K
end
theorem sm_tup {s v : D} (h1 : okD s = true ∧ wt s ≤ 9000) (h2 : okD v = true ∧ wt v ≤ 9000) (d1 : dep s = 0) (d2 : dep v = 0) (k : Int) (h0 : 0 ≤ k) (hk : k < 10000000) : Sm (.tup [s, v, .int k]) := by
  obtain ⟨h3, h4⟩ := sm_int (i := k) (by omega)
  refine ⟨?_, ?_, ?_⟩
  · show (okD s && (okD v && (okD (.int k) && true))) = true
    rw [h1.1, h2.1, h3]; rfl
  · show 1 + max (dep s) (max (dep v) (max 0 0)) ≤ 10
    rw [d1, d2]; decide
  · show 4 + (wt s + 2 + (wt v + 2 + (wt (.int k) + 2 + 0))) ≤ 20000
    omega
theorem lit_sm (x : Str) (a : List Nat) (h : x = S a) (hc : okC a) (hl : a.length ≤ 20) : okD (.str x) = true ∧ wt (.str x) ≤ 9000 := by
  rw [h]
  have h1 := (sm_S hc (by omega)).1
  refine ⟨h1, ?_⟩
  show 10 * (S a).length + 2 ≤ 9000
  rw [S_len]; omega
theorem smS {l : List Nat} (h : okC l) (hl : l.length ≤ 100) : okD (dS l) = true ∧ wt (dS l) ≤ 9000 := by
  refine ⟨(sm_S h (by omega)).1, ?_⟩
  show 10 * (S l).length + 2 ≤ 9000
  rw [S_len]; omega
theorem s_num : okD (.str "number") = true ∧ wt (.str "number") ≤ 9000 := lit_sm "number" [110, 117, 109, 98, 101, 114] (by decide +kernel) (by unfold okC; decide) (by decide)
theorem s_text : okD (.str "text") = true ∧ wt (.str "text") ≤ 9000 := lit_sm "text" [116, 101, 120, 116] (by decide +kernel) (by unfold okC; decide) (by decide)
theorem numL_isD (n : Nat) : (TL.numL n).all isD = true := by
  rw [List.all_eq_true]
  intro c hc
  have := TL.numL_digits n c hc
  unfold isD
  rw [decide_eq_true this.1, decide_eq_true this.2]
  rfl
theorem neg_S (m : Nat) : Str.ofString (toString (Int.negSucc m)) = S (45 :: TL.numL (m + 1)) := by
  have h := num_S (m + 1)
  have e : toString (Int.negSucc m) = "-" ++ toString ((m + 1 : Nat) : Int) := rfl
  rw [e, Str.ofString_eq_toList, String.toList_append, List.map_append]
  rw [Str.ofString_eq_toList] at h
  have h2 : ((toString ((m + 1 : Nat) : Int)).toList.map Char.toNat) = TL.numL (m + 1) := by
    have := congrArg (fun z : Str => z.cps.toList) h
    simpa [S] using this
  rw [h2]
  rfl
theorem words_one {w : List Nat} {s v : D} (h : Wd w s v) (hl : w.length ≤ 1000) : PG.f_words [.sh (dS w)] = some ([.sh (dS w)], .ow false [.sh (.tup [s, v, .int 0])]) := by
  have l1 := lx_snoc (bl := []) lx_nil (fun c hc => (List.not_mem_nil hc).elim) h (fun _ c r e l hl => by simp at hl)
  have l2 := lx_end (bl := []) l1 (fun c hc => (List.not_mem_nil hc).elim)
  have e : ([] ++ [[]] ++ [w] : List (List Nat)).flatten ++ [] = w := by simp
  rw [e] at l2
  rw [words_eq w h.ok (by omega), l2]
  rfl
theorem wd_n (n : Nat) (hn : n ≤ MOSTn) : Wd (TL.numL n) (.str "number") (.int (n : Int)) := by
  have hl : (TL.numL n).length ≤ 19 := TL.numL_len (by decide) (by unfold MOSTn at hn; omega)
  exact wd_num (numL_isD n) (TL.numL_ne n) (by omega) (TL.numL_val n) hn
def chC : List Nat := [32, 33, 35, 36, 38, 39, 40, 41, 42, 43, 44, 45, 46, 47, 48, 49, 50, 51, 52, 53, 54, 55, 56, 57, 58, 59, 60, 61, 62, 63, 64, 65, 66, 67, 68, 69, 70, 71, 72, 73, 74, 75, 76, 77, 78, 79, 80, 81, 82, 83, 84, 85, 86, 87, 88, 89, 90, 91, 92, 93, 94, 95, 96, 97, 98, 99, 100, 101, 102, 103, 104, 105, 106, 107, 108, 109, 110, 111, 112, 113, 114, 115, 116, 117, 118, 119, 120, 121, 122, 123, 124, 125, 126]
theorem l_ch : (" !#$&'()*+,-./0123456789:;<=>?@ABCDEFGHIJKLMNOPQRSTUVWXYZ[\\]^_`abcdefghijklmnopqrstuvwxyz{|}~" : Str) = S chC := by decide +kernel
theorem ch_ok {l : List Nat} (h : ∀ c ∈ l, c ∈ chC) : okC l ∧ 34 ∉ l ∧ 10 ∉ l := by
  have a : ∀ c ∈ chC, c < 0x110000 ∧ ¬ (0xD800 ≤ c ∧ c ≤ 0xDFFF) ∧ c ≠ 34 ∧ c ≠ 10 := by decide
  refine ⟨fun c hc => ?_, fun hc => (a _ (h _ hc)).2.2.1 rfl, fun hc => (a _ (h _ hc)).2.2.2 rfl⟩
  have := a _ (h _ hc)
  omega
theorem cell_bits {ns : List Int} (h : Small ns) (k : Nat) : Builtin.Int.intBits (cell ns k) ≤ 1048576 := by
  unfold cell
  rw [List.getD_eq_getElem?_getD]
  cases e : ns[k]? with
  | none => exact (by decide : Builtin.Int.intBits 0 ≤ 1048576)
  | some z => exact h z (List.mem_of_getElem? e)
section
variable {ns : List Int} {nn : Int}
abbrev eT (ns : List Int) (nn : Int) (w : List Nat) (x4 x5 x6 : Sl) : Ev := [.ok (.sh (.scr ns)), .ok (.sh (.int nn)), .ok (.sh (.str (S chC))), .ok (.sh (dS w)), x4, x5, x6]
theorem law_12 {w : List Nat} (hw : ∀ c ∈ w, c ∈ chC) (hl : w.length ≤ 40) {x4 x5 : Sl} : Wp b_law_12 (eT ns nn w x4 x5 .un) (En [.sh (.scr ns)] YES) := by
  obtain ⟨h1, h2, h3⟩ := ch_ok hw
  have hi : pIsi [dS w, .ty "str"] = some (.sh (.bl true)) := rfl
  have hq : ("\"" : Str) = S [34] := by decide +kernel
  have a1 := add_S (a := [34]) (b := w) (by simp) (by omega)
  have a2 := add_S (a := [34] ++ w) (b := [34]) (by simp; omega) (by simp)
  have e0 : [34] ++ w ++ [34] = 34 :: (w ++ [34]) := by simp
  rw [e0] at a2
  have hok : okC (34 :: (w ++ [34])) := fun c hc => by
    rcases List.mem_cons.mp hc with rfl | hc
    · decide
    · rcases List.mem_append.mp hc with hc | hc
      · exact h1 c hc
      · rw [List.mem_singleton.mp hc]; decide
  have he : pEq false (dS (34 :: (w ++ [34]))) (dS (34 :: (w ++ [34]))) = some (.sh (.bl true)) := by
    rw [pEq_S2 false hok hok]; simp
  have wo := words_one (wd_text h2 h3 hl h1) (by simp; omega)
  have rp := sm_list (L := [.tup [.str "text", dS w, .int 0]]) (fun d hd => by
    rw [List.mem_singleton.mp hd]
    exact sm_tup s_text (smS h1 (by omega)) rfl rfl 0 (by decide) (by decide)) (by simp)
  obtain ⟨R, hR⟩ : ∃ R, R = shD (.lst [.tup [.str "text", dS w, .int 0]]) := ⟨_, rfl⟩
  rw [← hR] at rp
  obtain ⟨WD, hWD⟩ : ∃ WD, WD = dS w := ⟨_, rfl⟩
  obtain ⟨QD, hQD⟩ : ∃ QD, QD = dS (34 :: (w ++ [34])) := ⟨_, rfl⟩
  obtain ⟨CD, hCD⟩ : ∃ CD, CD = D.str (S chC) := ⟨_, rfl⟩
  obtain ⟨MD, hMD⟩ : ∃ MD, MD = dS ([34] ++ w) := ⟨_, rfl⟩
  have a1' : pAdd (.str (S [34])) WD = some (.sh MD) := by rw [hWD, hMD]; exact a1
  have a2 : pAdd MD (.str (S [34])) = some (.sh (dS (34 :: (w ++ [34])))) := by rw [hMD]; exact a2
  rw [← hWD] at hi wo rp
  rw [← hQD] at a2 he wo
  unfold eT
  rw [← hWD, ← hCD]
  have hwv : Wf f_write_value [.sh WD] fun ts r => ts = [.sh WD] ∧ r = .sh QD := by
    unfold f_write_value
    rw [wf_run]
    unfold b_write_value
    rw [hq]
    simp [hi, a1', a2]
  obtain ⟨⟨t1, r1⟩, hf, ht, hr⟩ := hwv
  have ht : t1 = _ := ht
  have hr : r1 = _ := hr
  subst ht; subst hr
  unfold b_law_12
  simp
  refine wf_of hf ?_
  simp
  unfold b_law_13
  rw [hq]
  simp [a1', a2, he]
  refine wf_of wo ?_
  simp [rp]
theorem law_8 (h1 : -1000000000000000000 ≤ nn) (h2 : nn ≤ 1000000000000000000) {w : List Nat} (hw : ∀ c ∈ w, c ∈ chC) (hl : w.length ≤ 40) {x4 : Sl} : Wp b_law_8 (eT ns nn w x4 .un .un) (En [.sh (.scr ns)] YES) := by
  obtain ⟨m, hm⟩ : ∃ m : Nat, m = nn.natAbs := ⟨_, rfl⟩
  have hmM : m ≤ MOSTn := by unfold MOSTn; omega
  have hab : pAbs [.int nn] = some (.sh (.int (m : Int))) := by
    show some (T.sh (.int (if nn < 0 then -nn else nn))) = _
    congr 3
    split <;> omega
  have hst := pStr_nat (n := m) (by unfold MOSTn at hmM; omega)
  have hml : (TL.numL m).length ≤ 19 := TL.numL_len (by decide) (by unfold MOSTn at hmM; omega)
  have wo := words_one (wd_n m hmM) (by omega)
  have rp := sm_list (L := [.tup [.str "number", .int (m : Int), .int 0]]) (fun d hd => by
    rw [List.mem_singleton.mp hd]
    obtain ⟨a, b⟩ := sm_int (i := (m : Int)) (by unfold MOSTn at hmM; omega)
    exact sm_tup s_num ⟨a, by omega⟩ rfl rfl 0 (by decide) (by decide)) (by simp)
  have hd : okC (TL.numL m) := fun c hc => by have := TL.numL_digits m c hc; omega
  have ad := add_S (a := [45]) (b := TL.numL m) (by simp) (by omega)
  have hq : ("-" : Str) = S [45] := by decide +kernel
  have hi : pIsi [.int nn, .ty "str"] = some (.sh (.bl false)) := rfl
  obtain ⟨due, hdue, hdok, hds⟩ : ∃ due : List Nat, due = (if nn < 0 then 45 :: TL.numL m else TL.numL m) ∧ okC due ∧ pStr [.int nn] = some (.sh (dS due)) := by
    refine ⟨_, rfl, ?_, ?_⟩
    · split
      · intro c hc
        rcases List.mem_cons.mp hc with rfl | hc
        · decide
        · exact hd c hc
      · exact hd
    · by_cases hn : nn < 0
      · rw [if_pos hn]
        obtain ⟨k, rfl⟩ : ∃ k, nn = Int.negSucc k := ⟨nn.natAbs - 1, by omega⟩
        have hk : m = k + 1 := by omega
        have e : pStr [.int (Int.negSucc k)] = if (Int.negSucc k).natAbs.log2 < 1920 then some (T.sh (.str (Str.ofString (toString (Int.negSucc k))))) else none := rfl
        have hlg := log2_le (z := Int.negSucc k) (k := 64) (by unfold MOSTn at hmM; omega)
        rw [e, if_pos (by omega), neg_S, hk]
      · rw [if_neg hn]
        have : nn = (m : Int) := by omega
        rw [this]; exact hst
  have hwv : Wf f_write_value [.sh (.int nn)] fun ts r => ts = [.sh (.int nn)] ∧ r = .sh (dS due) := by
    unfold f_write_value
    rw [wf_run]
    unfold b_write_value
    obtain ⟨DD, hDD⟩ : ∃ DD, DD = dS due := ⟨_, rfl⟩
    rw [← hDD] at hds ⊢
    simp [hi]
    unfold b_write_value_1
    simp [hds]
  obtain ⟨⟨t1, r1⟩, hf, ht, hr⟩ := hwv
  have ht : t1 = _ := ht
  have hr : r1 = _ := hr
  subst ht; subst hr
  have he : pEq true (dS due) (dS due) = some (.sh (.bl false)) := by
    rw [pEq_S2 true hdok hdok]; simp
  have tail := fun x5 => law_12 (ns := ns) (nn := nn) hw hl (x4 := x4) (x5 := x5)
  obtain ⟨R, hR⟩ : ∃ R, R = shD (.lst [.tup [.str "number", .int (m : Int), .int 0]]) := ⟨_, rfl⟩
  rw [← hR] at rp
  obtain ⟨WD, hWD⟩ : ∃ WD, WD = dS w := ⟨_, rfl⟩
  obtain ⟨CD, hCD⟩ : ∃ CD, CD = D.str (S chC) := ⟨_, rfl⟩
  unfold eT at tail ⊢
  rw [← hWD, ← hCD] at tail ⊢
  -- from the comparison on
  have l11 : Wp b_law_11 [.ok (.sh (.scr ns)), .ok (.sh (.int nn)), .ok (.sh CD), .ok (.sh WD), x4, .ok (.sh (dS due)), .un] (En [.sh (.scr ns)] YES) := by
    obtain ⟨DD, hDD⟩ : ∃ DD, DD = dS due := ⟨_, rfl⟩
    rw [← hDD] at he hf ⊢
    unfold b_law_11
    simp
    refine wf_of hf ?_
    simp [he]
    exact tail _
  obtain ⟨ND, hND⟩ : ∃ ND, ND = dS (TL.numL m) := ⟨_, rfl⟩
  have hst' : pStr [.int (m : Int)] = some (.sh ND) := by rw [hND]; exact hst
  have ad' : pAdd (.str (S [45])) ND = some (.sh (dS (45 :: TL.numL m))) := by rw [hND]; exact ad
  rw [← hND] at wo
  unfold b_law_8
  simp [hab, hst']
  unfold b_law_9
  simp
  refine wf_of wo ?_
  simp [rp, hab]
  unfold b_law_10
  rw [hq]
  by_cases hn : nn < 0
  · rw [if_pos hn] at hdue
    rw [hdue] at l11
    obtain ⟨DD, hDD⟩ : ∃ DD, DD = dS (45 :: TL.numL m) := ⟨_, rfl⟩
    rw [← hDD] at ad' l11
    simp [hn, ad']
    exact l11
  · rw [if_neg hn] at hdue
    rw [hdue, ← hND] at l11
    simp [hn]
    exact l11
theorem law_5 (h1 : -1000000000000000000 ≤ nn) (h2 : nn ≤ 1000000000000000000) {w : List Nat} (hw : ∀ c ∈ w, c ∈ chC) (hl : w.length ≤ 40) {x4 : Sl} : Wp b_law_5 (eT ns nn w x4 .un .un) (En [.sh (.scr ns)] YES) := by
  obtain ⟨c1, c2, c3⟩ := ch_ok hw
  have l8 := law_8 (ns := ns) h1 h2 hw hl (x4 := x4)
  have fw := fun {Q : List T → T → Prop} => fields_wf (nn := nn) (w := dS w) rfl c1 (Q := Q)
  have hi1 : pIsi [dS w, .ty "str"] = some (.sh (.bl true)) := rfl
  have hi2 : pIsi [.int nn, .ty "str"] = some (.sh (.bl false)) := rfl
  have e1 : pEq true (.str "number") (.str "number") = some (.sh (.bl false)) := by
    have h : ("number" : Str) = S [110, 117, 109, 98, 101, 114] := by decide +kernel
    rw [h, pEq_S2 true (by unfold okC; decide) (by unfold okC; decide)]; rfl
  have e2 : pEq true (.str "text") (.str "text") = some (.sh (.bl false)) := by
    have h : ("text" : Str) = S [116, 101, 120, 116] := by decide +kernel
    rw [h, pEq_S2 true (by unfold okC; decide) (by unfold okC; decide)]; rfl
  have hp : pPow (.int 10) (.int 18) = some (.sh (.int 1000000000000000000)) := rfl
  have k1 : Wf f_kind_of [.sh (.int nn)] fun ts r => ts = [.sh (.int nn)] ∧ r = .sh (.str "number") := by
    unfold f_kind_of
    rw [wf_run]
    unfold b_kind_of
    simp [hi2]
    unfold b_kind_of_1
    simp
  obtain ⟨WD, hWD⟩ : ∃ WD, WD = dS w := ⟨_, rfl⟩
  obtain ⟨CD, hCD⟩ : ∃ CD, CD = D.str (S chC) := ⟨_, rfl⟩
  unfold eT at l8 ⊢
  simp only [← hWD, ← hCD] at l8 hi1 fw ⊢
  have k2 : Wf f_kind_of [.sh WD] fun ts r => ts = [.sh WD] ∧ r = .sh (.str "text") := by
    unfold f_kind_of
    rw [wf_run]
    unfold b_kind_of
    simp [hi1]
  obtain ⟨⟨t1, r1⟩, hf1, ht, hr⟩ := k1
  have ht : t1 = _ := ht
  have hr : r1 = _ := hr
  subst ht; subst hr
  obtain ⟨⟨t2, r2⟩, hf2, ht, hr⟩ := k2
  have ht : t2 = _ := ht
  have hr : r2 = _ := hr
  subst ht; subst hr
  have q1 : ∀ i : Int, pEq true (.int i) (.int i) = some (.sh (.bl false)) := fun i => by
    rw [pEq_self true (by rfl) (Nat.le_of_ble_eq_true rfl)]; rfl
  unfold b_law_5
  simp [hp, q1]
  unfold b_law_6
  simp
  refine wf_of hf1 ?_
  simp [e1]
  refine wf_of hf2 ?_
  simp [e2]
  unfold b_law_7
  simp
  refine fw ?_
  simp
  exact l8
def ITx (ns : List Int) (nn : Int) (k : Nat) (e : Ev) : Prop := ∃ (w : List Nat) (x4 : Sl), (∀ c ∈ w, c ∈ chC) ∧ w.length = k ∧ stk? x4 = true ∧ e = eT ns nn w x4 .un .un
theorem law_2 (hs : Small ns) (h1 : -1000000000000000000 ≤ nn) (h2 : nn ≤ 1000000000000000000) : Wp b_law_2 [.ok (.sh (.scr ns)), .ok (.sh (.int nn)), .un, .un, .un, .un, .un] (En [.sh (.scr ns)] YES) := by
  have c2 : PG.f_w_cell [.sh (.scr ns), .sh (.int 2)] = some ([.sh (.scr ns), .sh (.int 2)], .sh (.int (cell ns 2))) := cell_eq ns 2
  obtain ⟨n, hn, hnl⟩ : ∃ n : Nat, (cell ns 2).fmod 41 = (n : Int) ∧ n ≤ 40 := by
    obtain ⟨a, b⟩ := fmod_lt (x := cell ns 2) (b := 41) (by decide)
    exact ⟨((cell ns 2).fmod 41).toNat, by omega, by omega⟩
  have hcl : chC.length = 93 := by decide
  have he : ("" : Str) = S [] := by decide +kernel
  have hchs : ∀ j : Nat, j < 93 → ∃ c ∈ chC, pIx (.str (S chC)) (.int (j : Int)) = some (.sh (.str (S [c]))) := fun j hj => by
    have hj' : j < chC.length := by rw [hcl]; exact hj
    exact ⟨chC[j], List.getElem_mem hj', pIx_S (List.getElem?_eq_getElem hj') (by rw [hcl]; decide)⟩
  unfold b_law_2
  rw [l_ch]
  simp
  unfold b_law_3
  rw [he]
  simp
  unfold b_law_4
  have base : ITx ns nn 0 (eT ns nn [] .un .un .un) := ⟨[], .un, fun c h => (List.not_mem_nil h).elim, rfl, rfl, rfl⟩
  have fin : ∀ e, ITx ns nn n e → Wp b_law_5 e (En [.sh (.scr ns)] YES) := fun e ⟨w, x4, hw, hl, h4, he⟩ => by
    subst he
    exact law_5 h1 h2 hw (by omega)
  have step : ∀ k e, k < n → ITx ns nn k e → Wg (gV 4 (.sh (.int (k : Int)))) e fun e1 => Wp l_law_1 e1 fun e2 l => match l with
      | .nx => ITx ns nn (k + 1) e2
      | .ct => ITx ns nn (k + 1) e2
      | .bk => Nx b_law_5 (En [.sh (.scr ns)] YES) e2 .nx
      | fl => Nx b_law_5 (En [.sh (.scr ns)] YES) e2 fl := fun k e hk ⟨w, x4, hw, hl, h4, he⟩ => by
    subst he
    have hk3 : (3 : Int) + (k : Int).fmod 4 = ((3 + k % 4 : Nat) : Int) := by
      rw [Int.fmod_eq_emod_of_nonneg _ (by decide)]; omega
    have cl := cell_eq ns (3 + k % 4)
    have m1 : mulOk (cell ns (3 + k % 4)) ((k : Int) + 1) = true := mulOk_bits (cell_bits hs _) (by omega)
    have m2 : mulOk (k : Int) (k : Int) = true := mulOk_of (by omega) (by omega)
    obtain ⟨z, hz⟩ : ∃ z, z = cell ns (3 + k % 4) * ((k : Int) + 1) + (k : Int) * (k : Int) := ⟨_, rfl⟩
    obtain ⟨j, hj, hjl⟩ : ∃ j : Nat, z.fmod 93 = (j : Int) ∧ j < 93 := by
      obtain ⟨a, b⟩ := fmod_lt (x := z) (b := 93) (by decide)
      exact ⟨(z.fmod 93).toNat, by omega, by omega⟩
    obtain ⟨c, hc, hix⟩ := hchs j hjl
    have ad := add_S (a := w) (b := [c]) (by omega) (by simp)
    have next : ITx ns nn (k + 1) (eT ns nn (w ++ [c]) (.ok (.sh (.int (k : Int)))) .un .un) := ⟨w ++ [c], _, fun y hy => by
      rcases List.mem_append.mp hy with hy | hy
      · exact hw y hy
      · rw [List.mem_singleton.mp hy]; exact hc, by simp [hl], rfl, rfl⟩
    obtain ⟨q, hq⟩ : ∃ q : Int, q = ((3 + k % 4 : Nat) : Int) := ⟨_, rfl⟩
    rw [← hq] at hk3 cl
    obtain ⟨CD, hCD⟩ : ∃ CD, CD = D.str (S chC) := ⟨_, rfl⟩
    obtain ⟨cc, hcc⟩ : ∃ cc, cc = cell ns (3 + k % 4) := ⟨_, rfl⟩
    rw [← hcc] at cl m1 hz
    unfold eT at next ⊢
    rw [← hCD] at hix next ⊢
    refine wg_V.mpr ⟨h4, ?_⟩
    show Wp l_law_1 [.ok (.sh (.scr ns)), .ok (.sh (.int nn)), .ok (.sh CD), .ok (.sh (dS w)), .ok (.sh (.int (k : Int))), .un, .un] _
    unfold l_law_1
    simp [hk3]
    refine wf_of cl ?_
    simp [m1, m2, ← hz, hj, hix, ad]
    exact next
  have lp : Wl (gV 4) l_law_1 (rgItems 0 (n : Int)) (eT ns nn [] .un .un .un) (Nx b_law_5 (En [.sh (.scr ns)] YES)) := by
    refine wl_rg n (ITx ns nn) ?_ ?_ base
    · intro k e hk hI
      exact step k e hk hI
    · intro e hI
      exact fin e hI
  unfold eT at lp
  obtain ⟨CD, hCD⟩ : ∃ CD, CD = D.str (S chC) := ⟨_, rfl⟩
  rw [← hCD] at lp ⊢
  simp
  refine wf_of c2 ?_
  simp [hn]
  exact ⟨rgOk_nat (by omega), lp⟩
theorem law_wf (ns : List Int) (hs : Small ns) : Wf f_law [.sh (.scr ns)] YES := by
  have c0 : PG.f_w_cell [.sh (.scr ns), .sh (.int 0)] = some ([.sh (.scr ns), .sh (.int 0)], .sh (.int (cell ns 0))) := cell_eq ns 0
  have c1 : PG.f_w_cell [.sh (.scr ns), .sh (.int 1)] = some ([.sh (.scr ns), .sh (.int 1)], .sh (.int (cell ns 1))) := cell_eq ns 1
  have hp : pPow (.int 10) (.int 18) = some (.sh (.int 1000000000000000000)) := rfl
  have hm : mulOk 2 1000000000000000000 = true := mulOk_of (by decide) (by decide)
  obtain ⟨a, b⟩ := fmod_lt (x := cell ns 0) (b := 2000000000000000001) (by decide)
  obtain ⟨nn, hnn⟩ : ∃ nn, nn = (cell ns 0).fmod 2000000000000000001 - 1000000000000000000 := ⟨_, rfl⟩
  obtain ⟨a2, b2⟩ := fmod_lt (x := nn) (b := 41) (by decide)
  unfold f_law
  rw [wf_run]
  unfold b_law
  simp [hp]
  refine wf_of c0 ?_
  simp [hp, hm, ← hnn]
  unfold b_law_1
  simp
  refine wf_of c1 ?_
  by_cases h : (cell ns 1).fmod 2 = 1
  · simp [h]
    exact law_2 hs (by omega) (by omega)
  · simp [h]
    exact law_2 hs (by omega) (by omega)
theorem law_true : ∀ ns : List Int, ns.length ≤ 63 → Small ns → ∃ ts', f_law [.sh (.scr ns)] = some (ts', .sh (.bl true)) := by
  intro ns _ hs
  obtain ⟨⟨a, b⟩, e, q⟩ := law_wf ns hs
  exact ⟨a, by rw [e]; exact congrArg (fun t => some (a, t)) q⟩
end
end Lk64
namespace Lk64
open PySem PySem.Spec PyProof.Rows L2 Bv
set_option maxHeartbeats 8000000 in
theorem all_mk {l : PySem.W.OpenLaw} {w : World} {K : PySem.W.Frag} {h : Heap} {mg : Str → Option Value} {fa : Addr} {aq0 aq1 aq2 aq3 aq4 aq5 aq6 aq7 aq8 aq9 aq10 aq11 aq12 aq13 aq14 aq15 aq16 aq17 : Addr} (X : K.In h) (G : h.Ns mainGlobals mg) (hfa : mg "law" = some (.ref fa))
    {od0 an0 : Option Addr} {sl0 : Array (Option Value)} {oc0 kV0 dc0 pm0 cd0 ct0 : Value} {od1 an1 : Option Addr} {sl1 : Array (Option Value)} {oc1 kV1 dc1 pm1 cd1 ct1 : Value} {od2 an2 : Option Addr} {sl2 : Array (Option Value)} {oc2 kV2 dc2 pm2 cd2 ct2 : Value} {od3 an3 : Option Addr} {sl3 : Array (Option Value)} {oc3 kV3 dc3 pm3 cd3 ct3 : Value} {od4 an4 : Option Addr} {sl4 : Array (Option Value)} {oc4 kV4 dc4 pm4 cd4 ct4 : Value} {od5 an5 : Option Addr} {sl5 : Array (Option Value)} {oc5 kV5 dc5 pm5 cd5 ct5 : Value} {od6 an6 : Option Addr} {sl6 : Array (Option Value)} {oc6 kV6 dc6 pm6 cd6 ct6 : Value} {od7 an7 : Option Addr} {sl7 : Array (Option Value)} {oc7 kV7 dc7 pm7 cd7 ct7 : Value} {od8 an8 : Option Addr} {sl8 : Array (Option Value)} {oc8 kV8 dc8 pm8 cd8 ct8 : Value}
    {t_DIGITS : Tok} {t_END : Tok} {t_LETTERS : Tok} {t_MOST : Tok} {t_OPEN : Tok} {t_SHORT_SIGNS : Tok} {tp_LONG_SIGNS : Addr} {to_LONG_SIGNS : Option Addr} {ti_LONG_SIGNS : Array Value} {tn_LONG_SIGNS : Nat} {ts_LONG_SIGNS : Array (Option Value)} {dp_KEYWORDS : Addr} {de_KEYWORDS : Array DictEntry} {dn_KEYWORDS : Nat} {xnm_RuleBroken xqn_RuleBroken : Str} {xN_RuleBroken : Addr} {xbs_RuleBroken xbm_RuleBroken xsu_RuleBroken : List Value} {xsn_RuleBroken : List Str} {xab_RuleBroken : Bool} {xco_RuleBroken : Option Bool} {xdd_RuleBroken : Option Addr} {xk0_RuleBroken xk1_RuleBroken xk2_RuleBroken xk3_RuleBroken xk5_RuleBroken : Option Value} {xnm_NotYetKnown xqn_NotYetKnown : Str} {xN_NotYetKnown : Addr} {xbs_NotYetKnown xbm_NotYetKnown xsu_NotYetKnown : List Value} {xsn_NotYetKnown : List Str} {xab_NotYetKnown : Bool} {xco_NotYetKnown : Option Bool} {xdd_NotYetKnown : Option Addr} {xk0_NotYetKnown xk1_NotYetKnown xk2_NotYetKnown xk3_NotYetKnown xk5_NotYetKnown : Option Value} {xnm_Conflict xqn_Conflict : Str} {xN_Conflict : Addr} {xbs_Conflict xbm_Conflict xsu_Conflict : List Value} {xsn_Conflict : List Str} {xab_Conflict : Bool} {xco_Conflict : Option Bool} {xdd_Conflict : Option Addr} {xk0_Conflict xk1_Conflict xk2_Conflict xk3_Conflict xk5_Conflict : Option Value} {xnm_SyntaxFault xqn_SyntaxFault : Str} {xN_SyntaxFault : Addr} {xbs_SyntaxFault xbm_SyntaxFault xsu_SyntaxFault : List Value} {xsn_SyntaxFault : List Str} {xab_SyntaxFault : Bool} {xco_SyntaxFault : Option Bool} {xdd_SyntaxFault : Option Addr} {xk0_SyntaxFault xk1_SyntaxFault xk2_SyntaxFault xk3_SyntaxFault xk5_SyntaxFault : Option Value} {xnm_WrongRule xqn_WrongRule : Str} {xN_WrongRule : Addr} {xbs_WrongRule xbm_WrongRule xsu_WrongRule : List Value} {xsn_WrongRule : List Str} {xab_WrongRule : Bool} {xco_WrongRule : Option Bool} {xdd_WrongRule : Option Addr} {xk0_WrongRule xk1_WrongRule xk2_WrongRule xk3_WrongRule xk5_WrongRule : Option Value} {iod_RuleBroken ian_RuleBroken : Option Addr} {isl_RuleBroken : Array (Option Value)} {ioc_RuleBroken ikV_RuleBroken idc_RuleBroken ipm_RuleBroken icd_RuleBroken ict_RuleBroken : Value} {iod_NotYetKnown ian_NotYetKnown : Option Addr} {isl_NotYetKnown : Array (Option Value)} {ioc_NotYetKnown ikV_NotYetKnown idc_NotYetKnown ipm_NotYetKnown icd_NotYetKnown ict_NotYetKnown : Value} {iod_Conflict ian_Conflict : Option Addr} {isl_Conflict : Array (Option Value)} {ioc_Conflict ikV_Conflict idc_Conflict ipm_Conflict icd_Conflict ict_Conflict : Value} {iod_StatementError ian_StatementError : Option Addr} {isl_StatementError : Array (Option Value)} {ioc_StatementError ikV_StatementError idc_StatementError ipm_StatementError icd_StatementError ict_StatementError : Value}
    (a0 : PySem.W.nsIn K mainGlobals "kind_of" = some (some (.ref aq0)))
    (l0 : K.lookup aq0 = some ⟨oc0, od0, .func (PySem.W.fnOf "kind_of" "kind_of" (defArgs s_kind_of) (defBody s_kind_of) (defScope s_kind_of) .none kV0 dc0 pm0 an0 cd0 ct0), sl0⟩)
    (c0 : PySem.W.codeIn K cd0 "kind_of" = true)
    (k0 : PySem.W.keepIn K (.ref aq0) = true)
    (a1 : PySem.W.nsIn K mainGlobals "write_value" = some (some (.ref aq1)))
    (l1 : K.lookup aq1 = some ⟨oc1, od1, .func (PySem.W.fnOf "write_value" "write_value" (defArgs s_write_value) (defBody s_write_value) (defScope s_write_value) .none kV1 dc1 pm1 an1 cd1 ct1), sl1⟩)
    (c1 : PySem.W.codeIn K cd1 "write_value" = true)
    (k1 : PySem.W.keepIn K (.ref aq1) = true)
    (a2 : PySem.W.nsIn K mainGlobals "end_of_run" = some (some (.ref aq2)))
    (l2 : K.lookup aq2 = some ⟨oc2, od2, .func (PySem.W.fnOf "end_of_run" "end_of_run" (defArgs s_end_of_run) (defBody s_end_of_run) (defScope s_end_of_run) .none kV2 dc2 pm2 an2 cd2 ct2), sl2⟩)
    (c2 : PySem.W.codeIn K cd2 "end_of_run" = true)
    (k2 : PySem.W.keepIn K (.ref aq2) = true)
    (a3 : PySem.W.nsIn K mainGlobals "quoted_word" = some (some (.ref aq3)))
    (l3 : K.lookup aq3 = some ⟨oc3, od3, .func (PySem.W.fnOf "quoted_word" "quoted_word" (defArgs s_quoted_word) (defBody s_quoted_word) (defScope s_quoted_word) .none kV3 dc3 pm3 an3 cd3 ct3), sl3⟩)
    (c3 : PySem.W.codeIn K cd3 "quoted_word" = true)
    (k3 : PySem.W.keepIn K (.ref aq3) = true)
    (a4 : PySem.W.nsIn K mainGlobals "next_word" = some (some (.ref aq4)))
    (l4 : K.lookup aq4 = some ⟨oc4, od4, .func (PySem.W.fnOf "next_word" "next_word" (defArgs s_next_word) (defBody s_next_word) (defScope s_next_word) .none kV4 dc4 pm4 an4 cd4 ct4), sl4⟩)
    (c4 : PySem.W.codeIn K cd4 "next_word" = true)
    (k4 : PySem.W.keepIn K (.ref aq4) = true)
    (a5 : PySem.W.nsIn K mainGlobals "words" = some (some (.ref aq5)))
    (l5 : K.lookup aq5 = some ⟨oc5, od5, .func (PySem.W.fnOf "words" "words" (defArgs s_words) (defBody s_words) (defScope s_words) .none kV5 dc5 pm5 an5 cd5 ct5), sl5⟩)
    (c5 : PySem.W.codeIn K cd5 "words" = true)
    (k5 : PySem.W.keepIn K (.ref aq5) = true)
    (a6 : PySem.W.nsIn K mainGlobals "_law_cell" = some (some (.ref aq6)))
    (l6 : K.lookup aq6 = some ⟨oc6, od6, .func (PySem.W.fnOf "_law_cell" "_law_cell" (defArgs s_w_cell) (defBody s_w_cell) (defScope s_w_cell) .none kV6 dc6 pm6 an6 cd6 ct6), sl6⟩)
    (c6 : PySem.W.codeIn K cd6 "_law_cell" = true)
    (k6 : PySem.W.keepIn K (.ref aq6) = true)
    (a7 : PySem.W.nsIn K mainGlobals "_law_fields" = some (some (.ref aq7)))
    (l7 : K.lookup aq7 = some ⟨oc7, od7, .func (PySem.W.fnOf "_law_fields" "_law_fields" (defArgs s_w_fields) (defBody s_w_fields) (defScope s_w_fields) .none kV7 dc7 pm7 an7 cd7 ct7), sl7⟩)
    (c7 : PySem.W.codeIn K cd7 "_law_fields" = true)
    (k7 : PySem.W.keepIn K (.ref aq7) = true)
    (a8 : PySem.W.nsIn K mainGlobals "law" = some (some (.ref aq8)))
    (l8 : K.lookup aq8 = some ⟨oc8, od8, .func (PySem.W.fnOf "law" "law" (defArgs s_law) (defBody s_law) (defScope s_law) .none kV8 dc8 pm8 an8 cd8 ct8), sl8⟩)
    (c8 : PySem.W.codeIn K cd8 "law" = true)
    (k8 : PySem.W.keepIn K (.ref aq8) = true)
    (z_abs : PySem.W.nsIn K mainGlobals "abs" = some none)
    (z_int : PySem.W.nsIn K mainGlobals "int" = some none)
    (z_isinstance : PySem.W.nsIn K mainGlobals "isinstance" = some none)
    (z_len : PySem.W.nsIn K mainGlobals "len" = some none)
    (z_range : PySem.W.nsIn K mainGlobals "range" = some none)
    (z_repr : PySem.W.nsIn K mainGlobals "repr" = some none)
    (z_str : PySem.W.nsIn K mainGlobals "str" = some none)
    (v_DIGITS : PySem.W.nsIn K mainGlobals "DIGITS" = some (some (.str "0123456789" t_DIGITS)))
    (v_END : PySem.W.nsIn K mainGlobals "END" = some (some (.int 1000000 t_END)))
    (v_LETTERS : PySem.W.nsIn K mainGlobals "LETTERS" = some (some (.str "abcdefghijklmnopqrstuvwxyz" t_LETTERS)))
    (v_MOST : PySem.W.nsIn K mainGlobals "MOST" = some (some (.int 1000000000000000000 t_MOST)))
    (v_OPEN : PySem.W.nsIn K mainGlobals "OPEN" = some (some (.int 1000000 t_OPEN)))
    (v_SHORT_SIGNS : PySem.W.nsIn K mainGlobals "SHORT_SIGNS" = some (some (.str "(),.+-*=<>" t_SHORT_SIGNS)))
    (ta_LONG_SIGNS : PySem.W.nsIn K mainGlobals "LONG_SIGNS" = some (some (.ref tp_LONG_SIGNS)))
    (tl_LONG_SIGNS : K.lookup tp_LONG_SIGNS = some ⟨.type "tuple", to_LONG_SIGNS, .seq ti_LONG_SIGNS tn_LONG_SIGNS, ts_LONG_SIGNS⟩)
    (tz_LONG_SIGNS : ti_LONG_SIGNS.size ≤ sizeLine)
    (tv_LONG_SIGNS : Vals [.str "<>", .str "<=", .str ">="] ti_LONG_SIGNS.toList)
    (da_KEYWORDS : PySem.W.nsIn K mainGlobals "KEYWORDS" = some (some (.ref dp_KEYWORDS)))
    (dl_KEYWORDS : K.lookup dp_KEYWORDS = some ⟨.type "dict", none, .dict de_KEYWORDS dn_KEYWORDS, #[]⟩)
    (dk_KEYWORDS : de_KEYWORDS.toList.map He.keyOf = He.keysIn w.params keys_KEYWORDS)
    (dw_KEYWORDS : (dp_KEYWORDS == sysModules) = false)
    (xa_Conflict : PySem.W.nsIn K mainGlobals "Conflict" = some (some (.ref aq9)))
    (xs_Conflict : PySem.W.subIn K (.ref aq9) (.type "BaseException") = some true)
    (xy_Conflict : PySem.W.typeIn K (.ref aq9) = some (.type "type"))
    (xh_Conflict : PySem.W.hasDictIn K aq9 = true)
    (xa_NotYetKnown : PySem.W.nsIn K mainGlobals "NotYetKnown" = some (some (.ref aq10)))
    (xs_NotYetKnown : PySem.W.subIn K (.ref aq10) (.type "BaseException") = some true)
    (xy_NotYetKnown : PySem.W.typeIn K (.ref aq10) = some (.type "type"))
    (xh_NotYetKnown : PySem.W.hasDictIn K aq10 = true)
    (xa_RuleBroken : PySem.W.nsIn K mainGlobals "RuleBroken" = some (some (.ref aq11)))
    (xs_RuleBroken : PySem.W.subIn K (.ref aq11) (.type "BaseException") = some true)
    (xy_RuleBroken : PySem.W.typeIn K (.ref aq11) = some (.type "type"))
    (xh_RuleBroken : PySem.W.hasDictIn K aq11 = true)
    (xa_SyntaxFault : PySem.W.nsIn K mainGlobals "SyntaxFault" = some (some (.ref aq12)))
    (xs_SyntaxFault : PySem.W.subIn K (.ref aq12) (.type "BaseException") = some true)
    (xy_SyntaxFault : PySem.W.typeIn K (.ref aq12) = some (.type "type"))
    (xh_SyntaxFault : PySem.W.hasDictIn K aq12 = true)
    (xa_WrongRule : PySem.W.nsIn K mainGlobals "WrongRule" = some (some (.ref aq13)))
    (xs_WrongRule : PySem.W.subIn K (.ref aq13) (.type "BaseException") = some true)
    (xy_WrongRule : PySem.W.typeIn K (.ref aq13) = some (.type "type"))
    (xh_WrongRule : PySem.W.hasDictIn K aq13 = true)
    (xo_RuleBroken : K.lookup aq11 = some (excClassObj xnm_RuleBroken xqn_RuleBroken aq11 xN_RuleBroken xbs_RuleBroken xbm_RuleBroken true xsn_RuleBroken xsu_RuleBroken xab_RuleBroken xco_RuleBroken xdd_RuleBroken xk0_RuleBroken xk1_RuleBroken xk2_RuleBroken xk3_RuleBroken xk5_RuleBroken "ValueError.__new__"))
    (xv_RuleBroken : PySem.HandSPX.refsVE xbm_RuleBroken = true)
    (xw_RuleBroken : PySem.W.findIn K (.ref aq11) "__setattr__" = some (some (.builtin "object.__setattr__")))
    (xk_RuleBroken : PySem.W.keepIn K (.ref aq11) = true)
    (xi_RuleBroken : PySem.W.findIn K (.ref aq11) "__init__" = some (some (.ref aq14)))
    (xt_RuleBroken : PySem.W.typeIn K (.ref aq14) = some (.type "function"))
    (xn_RuleBroken_table : PySem.W.findIn K (.ref aq11) "table" = some none)
    (xn_RuleBroken_rule : PySem.W.findIn K (.ref aq11) "rule" = some none)
    (xn_RuleBroken_moment : PySem.W.findIn K (.ref aq11) "moment" = some none)
    (xp_RuleBroken_Conflict : PySem.W.subIn K (.ref aq11) (.ref aq9) = some false)
    (xp_RuleBroken_NotYetKnown : PySem.W.subIn K (.ref aq11) (.ref aq10) = some false)
    (xp_RuleBroken_RuleBroken : PySem.W.subIn K (.ref aq11) (.ref aq11) = some true)
    (xp_RuleBroken_SyntaxFault : PySem.W.subIn K (.ref aq11) (.ref aq12) = some false)
    (xp_RuleBroken_WrongRule : PySem.W.subIn K (.ref aq11) (.ref aq13) = some false)
    (xc0_RuleBroken : PySem.W.findIn K (.ref aq11) "__getattribute__" = some (some (.builtin "BaseException.__getattribute__")))
    (xc1_RuleBroken : PySem.W.findIn K (.ref aq11) "__getattr__" = some none)
    (xo_NotYetKnown : K.lookup aq10 = some (excClassObj xnm_NotYetKnown xqn_NotYetKnown aq10 xN_NotYetKnown xbs_NotYetKnown xbm_NotYetKnown true xsn_NotYetKnown xsu_NotYetKnown xab_NotYetKnown xco_NotYetKnown xdd_NotYetKnown xk0_NotYetKnown xk1_NotYetKnown xk2_NotYetKnown xk3_NotYetKnown xk5_NotYetKnown "ValueError.__new__"))
    (xv_NotYetKnown : PySem.HandSPX.refsVE xbm_NotYetKnown = true)
    (xw_NotYetKnown : PySem.W.findIn K (.ref aq10) "__setattr__" = some (some (.builtin "object.__setattr__")))
    (xk_NotYetKnown : PySem.W.keepIn K (.ref aq10) = true)
    (xi_NotYetKnown : PySem.W.findIn K (.ref aq10) "__init__" = some (some (.ref aq15)))
    (xt_NotYetKnown : PySem.W.typeIn K (.ref aq15) = some (.type "function"))
    (xn_NotYetKnown_known : PySem.W.findIn K (.ref aq10) "known" = some none)
    (xp_NotYetKnown_Conflict : PySem.W.subIn K (.ref aq10) (.ref aq9) = some false)
    (xp_NotYetKnown_NotYetKnown : PySem.W.subIn K (.ref aq10) (.ref aq10) = some true)
    (xp_NotYetKnown_RuleBroken : PySem.W.subIn K (.ref aq10) (.ref aq11) = some false)
    (xp_NotYetKnown_SyntaxFault : PySem.W.subIn K (.ref aq10) (.ref aq12) = some false)
    (xp_NotYetKnown_WrongRule : PySem.W.subIn K (.ref aq10) (.ref aq13) = some false)
    (xc0_NotYetKnown : PySem.W.findIn K (.ref aq10) "__getattribute__" = some (some (.builtin "BaseException.__getattribute__")))
    (xc1_NotYetKnown : PySem.W.findIn K (.ref aq10) "__getattr__" = some none)
    (xo_Conflict : K.lookup aq9 = some (excClassObj xnm_Conflict xqn_Conflict aq9 xN_Conflict xbs_Conflict xbm_Conflict true xsn_Conflict xsu_Conflict xab_Conflict xco_Conflict xdd_Conflict xk0_Conflict xk1_Conflict xk2_Conflict xk3_Conflict xk5_Conflict "ValueError.__new__"))
    (xv_Conflict : PySem.HandSPX.refsVE xbm_Conflict = true)
    (xw_Conflict : PySem.W.findIn K (.ref aq9) "__setattr__" = some (some (.builtin "object.__setattr__")))
    (xk_Conflict : PySem.W.keepIn K (.ref aq9) = true)
    (xi_Conflict : PySem.W.findIn K (.ref aq9) "__init__" = some (some (.ref aq16)))
    (xt_Conflict : PySem.W.typeIn K (.ref aq16) = some (.type "function"))
    (xn_Conflict_index : PySem.W.findIn K (.ref aq9) "index" = some none)
    (xp_Conflict_Conflict : PySem.W.subIn K (.ref aq9) (.ref aq9) = some true)
    (xp_Conflict_NotYetKnown : PySem.W.subIn K (.ref aq9) (.ref aq10) = some false)
    (xp_Conflict_RuleBroken : PySem.W.subIn K (.ref aq9) (.ref aq11) = some false)
    (xp_Conflict_SyntaxFault : PySem.W.subIn K (.ref aq9) (.ref aq12) = some false)
    (xp_Conflict_WrongRule : PySem.W.subIn K (.ref aq9) (.ref aq13) = some false)
    (xc0_Conflict : PySem.W.findIn K (.ref aq9) "__getattribute__" = some (some (.builtin "BaseException.__getattribute__")))
    (xc1_Conflict : PySem.W.findIn K (.ref aq9) "__getattr__" = some none)
    (xo_SyntaxFault : K.lookup aq12 = some (excClassObj xnm_SyntaxFault xqn_SyntaxFault aq12 xN_SyntaxFault xbs_SyntaxFault xbm_SyntaxFault true xsn_SyntaxFault xsu_SyntaxFault xab_SyntaxFault xco_SyntaxFault xdd_SyntaxFault xk0_SyntaxFault xk1_SyntaxFault xk2_SyntaxFault xk3_SyntaxFault xk5_SyntaxFault "ValueError.__new__"))
    (xv_SyntaxFault : PySem.HandSPX.refsVE xbm_SyntaxFault = true)
    (xw_SyntaxFault : PySem.W.findIn K (.ref aq12) "__setattr__" = some (some (.builtin "object.__setattr__")))
    (xk_SyntaxFault : PySem.W.keepIn K (.ref aq12) = true)
    (xi_SyntaxFault : PySem.W.findIn K (.ref aq12) "__init__" = some (some (.ref aq17)))
    (xt_SyntaxFault : PySem.W.typeIn K (.ref aq17) = some (.type "function"))
    (xn_SyntaxFault_place : PySem.W.findIn K (.ref aq12) "place" = some none)
    (xp_SyntaxFault_Conflict : PySem.W.subIn K (.ref aq12) (.ref aq9) = some false)
    (xp_SyntaxFault_NotYetKnown : PySem.W.subIn K (.ref aq12) (.ref aq10) = some false)
    (xp_SyntaxFault_RuleBroken : PySem.W.subIn K (.ref aq12) (.ref aq11) = some false)
    (xp_SyntaxFault_SyntaxFault : PySem.W.subIn K (.ref aq12) (.ref aq12) = some true)
    (xp_SyntaxFault_WrongRule : PySem.W.subIn K (.ref aq12) (.ref aq13) = some false)
    (xc0_SyntaxFault : PySem.W.findIn K (.ref aq12) "__getattribute__" = some (some (.builtin "BaseException.__getattribute__")))
    (xc1_SyntaxFault : PySem.W.findIn K (.ref aq12) "__getattr__" = some none)
    (xo_WrongRule : K.lookup aq13 = some (excClassObj xnm_WrongRule xqn_WrongRule aq13 xN_WrongRule xbs_WrongRule xbm_WrongRule true xsn_WrongRule xsu_WrongRule xab_WrongRule xco_WrongRule xdd_WrongRule xk0_WrongRule xk1_WrongRule xk2_WrongRule xk3_WrongRule xk5_WrongRule "ValueError.__new__"))
    (xv_WrongRule : PySem.HandSPX.refsVE xbm_WrongRule = true)
    (xw_WrongRule : PySem.W.findIn K (.ref aq13) "__setattr__" = some (some (.builtin "object.__setattr__")))
    (xk_WrongRule : PySem.W.keepIn K (.ref aq13) = true)
    (xi_WrongRule : PySem.W.findIn K (.ref aq13) "__init__" = some (some (.ref aq17)))
    (xt_WrongRule : PySem.W.typeIn K (.ref aq17) = some (.type "function"))
    (xn_WrongRule_place : PySem.W.findIn K (.ref aq13) "place" = some none)
    (xp_WrongRule_Conflict : PySem.W.subIn K (.ref aq13) (.ref aq9) = some false)
    (xp_WrongRule_NotYetKnown : PySem.W.subIn K (.ref aq13) (.ref aq10) = some false)
    (xp_WrongRule_RuleBroken : PySem.W.subIn K (.ref aq13) (.ref aq11) = some false)
    (xp_WrongRule_SyntaxFault : PySem.W.subIn K (.ref aq13) (.ref aq12) = some false)
    (xp_WrongRule_WrongRule : PySem.W.subIn K (.ref aq13) (.ref aq13) = some true)
    (xc0_WrongRule : PySem.W.findIn K (.ref aq13) "__getattribute__" = some (some (.builtin "BaseException.__getattribute__")))
    (xc1_WrongRule : PySem.W.findIn K (.ref aq13) "__getattr__" = some none)
    (li_RuleBroken : K.lookup aq14 = some ⟨ioc_RuleBroken, iod_RuleBroken, .func (PySem.W.fnOf "__init__" "RuleBroken.__init__" (defArgs s_i_RuleBroken) (defBody s_i_RuleBroken) (defScope s_i_RuleBroken) .none ikV_RuleBroken idc_RuleBroken ipm_RuleBroken ian_RuleBroken icd_RuleBroken ict_RuleBroken), isl_RuleBroken⟩)
    (ci_RuleBroken : PySem.W.codeIn K icd_RuleBroken "RuleBroken.__init__" = true)
    (ki_RuleBroken : PySem.W.keepIn K (.ref aq14) = true)
    (li_NotYetKnown : K.lookup aq15 = some ⟨ioc_NotYetKnown, iod_NotYetKnown, .func (PySem.W.fnOf "__init__" "NotYetKnown.__init__" (defArgs s_i_NotYetKnown) (defBody s_i_NotYetKnown) (defScope s_i_NotYetKnown) .none ikV_NotYetKnown idc_NotYetKnown ipm_NotYetKnown ian_NotYetKnown icd_NotYetKnown ict_NotYetKnown), isl_NotYetKnown⟩)
    (ci_NotYetKnown : PySem.W.codeIn K icd_NotYetKnown "NotYetKnown.__init__" = true)
    (ki_NotYetKnown : PySem.W.keepIn K (.ref aq15) = true)
    (li_Conflict : K.lookup aq16 = some ⟨ioc_Conflict, iod_Conflict, .func (PySem.W.fnOf "__init__" "Conflict.__init__" (defArgs s_i_Conflict) (defBody s_i_Conflict) (defScope s_i_Conflict) .none ikV_Conflict idc_Conflict ipm_Conflict ian_Conflict icd_Conflict ict_Conflict), isl_Conflict⟩)
    (ci_Conflict : PySem.W.codeIn K icd_Conflict "Conflict.__init__" = true)
    (ki_Conflict : PySem.W.keepIn K (.ref aq16) = true)
    (li_StatementError : K.lookup aq17 = some ⟨ioc_StatementError, iod_StatementError, .func (PySem.W.fnOf "__init__" "StatementError.__init__" (defArgs s_i_StatementError) (defBody s_i_StatementError) (defScope s_i_StatementError) .none ikV_StatementError idc_StatementError ipm_StatementError ian_StatementError icd_StatementError ict_StatementError), isl_StatementError⟩)
    (ci_StatementError : PySem.W.codeIn K icd_StatementError "StatementError.__init__" = true)
    (ki_StatementError : PySem.W.keepIn K (.ref aq17) = true)
    : ∃ fd : FuncData, (∀ (s : Shared) (v : Value), BindsTo s fd ⟨[v], []⟩ [("_law_script", v)]) ∧ ∀ base : Heap, K.In base → base.Ns mainGlobals mg → FnG l.prog w K mg base 4 fa fd ["_law_script"] (spB K 1 f_law) := by
  have e := hfa.symm.trans (PySem.W.mg_of X G a8)
  cases e
  have Fa : Facts w K mg aq0 aq1 aq2 aq3 aq4 aq5 aq6 aq7 fa aq9 aq10 aq11 aq12 aq13 aq14 aq15 aq16 aq17 _ _ _ _ _ _ _ _ _ _ _ _ _ := {
    F_kind_of := fun_mk (st := s_kind_of) l0 c0 k0
    g_kind_of := PySem.W.mg_of X G a0
    b_kind_of := (fun_mk (st := s_kind_of) l0 c0 k0).binds (ps := ["value"]) fun _ _ _ _ _ _ us hl => match us, hl with | [_], _ => rfl
    F_write_value := fun_mk (st := s_write_value) l1 c1 k1
    g_write_value := PySem.W.mg_of X G a1
    b_write_value := (fun_mk (st := s_write_value) l1 c1 k1).binds (ps := ["value"]) fun _ _ _ _ _ _ us hl => match us, hl with | [_], _ => rfl
    F_end_of_run := fun_mk (st := s_end_of_run) l2 c2 k2
    g_end_of_run := PySem.W.mg_of X G a2
    b_end_of_run := (fun_mk (st := s_end_of_run) l2 c2 k2).binds (ps := ["text", "at", "signs"]) fun _ _ _ _ _ _ us hl => match us, hl with | [_, _, _], _ => rfl
    F_quoted_word := fun_mk (st := s_quoted_word) l3 c3 k3
    g_quoted_word := PySem.W.mg_of X G a3
    b_quoted_word := (fun_mk (st := s_quoted_word) l3 c3 k3).binds (ps := ["text", "at"]) fun _ _ _ _ _ _ us hl => match us, hl with | [_, _], _ => rfl
    F_next_word := fun_mk (st := s_next_word) l4 c4 k4
    g_next_word := PySem.W.mg_of X G a4
    b_next_word := (fun_mk (st := s_next_word) l4 c4 k4).binds (ps := ["text", "at"]) fun _ _ _ _ _ _ us hl => match us, hl with | [_, _], _ => rfl
    F_words := fun_mk (st := s_words) l5 c5 k5
    g_words := PySem.W.mg_of X G a5
    b_words := (fun_mk (st := s_words) l5 c5 k5).binds (ps := ["text"]) fun _ _ _ _ _ _ us hl => match us, hl with | [_], _ => rfl
    F_w_cell := fun_mk (st := s_w_cell) l6 c6 k6
    g_w_cell := PySem.W.mg_of X G a6
    b_w_cell := (fun_mk (st := s_w_cell) l6 c6 k6).binds (ps := ["_law_script", "_law_k"]) fun _ _ _ _ _ _ us hl => match us, hl with | [_, _], _ => rfl
    F_w_fields := fun_mk (st := s_w_fields) l7 c7 k7
    g_w_fields := PySem.W.mg_of X G a7
    b_w_fields := (fun_mk (st := s_w_fields) l7 c7 k7).binds (ps := ["_law_number", "_law_text"]) fun _ _ _ _ _ _ us hl => match us, hl with | [_, _], _ => rfl
    F_law := fun_mk (st := s_law) l8 c8 k8
    g_law := PySem.W.mg_of X G a8
    b_law := (fun_mk (st := s_law) l8 c8 k8).binds (ps := ["_law_script"]) fun _ _ _ _ _ _ us hl => match us, hl with | [_], _ => rfl
    m_abs := PySem.W.mg_none_of X G z_abs
    m_int := PySem.W.mg_none_of X G z_int
    m_isinstance := PySem.W.mg_none_of X G z_isinstance
    m_len := PySem.W.mg_none_of X G z_len
    m_range := PySem.W.mg_none_of X G z_range
    m_repr := PySem.W.mg_none_of X G z_repr
    m_str := PySem.W.mg_none_of X G z_str
    t_LONG_SIGNS := ktup_of (PySem.W.mg_of X G ta_LONG_SIGNS) tl_LONG_SIGNS tz_LONG_SIGNS tv_LONG_SIGNS fun F => ⟨_, _, rfl, rfl, ⟨_, _, rfl, rfl, ⟨_, _, rfl, rfl, rfl⟩⟩⟩
    k_KEYWORDS := kset_of (PySem.W.mg_of X G da_KEYWORDS) dl_KEYWORDS dk_KEYWORDS dw_KEYWORDS
    c_DIGITS := ⟨_, PySem.W.mg_of X G v_DIGITS⟩
    c_END := ⟨_, PySem.W.mg_of X G v_END⟩
    c_LETTERS := ⟨_, PySem.W.mg_of X G v_LETTERS⟩
    c_MOST := ⟨_, PySem.W.mg_of X G v_MOST⟩
    c_OPEN := ⟨_, PySem.W.mg_of X G v_OPEN⟩
    c_SHORT_SIGNS := ⟨_, PySem.W.mg_of X G v_SHORT_SIGNS⟩
    gc_Conflict := PySem.W.mg_of X G xa_Conflict
    gc_NotYetKnown := PySem.W.mg_of X G xa_NotYetKnown
    gc_RuleBroken := PySem.W.mg_of X G xa_RuleBroken
    gc_SyntaxFault := PySem.W.mg_of X G xa_SyntaxFault
    gc_WrongRule := PySem.W.mg_of X G xa_WrongRule
    rf_RuleBroken := ⟨xa_RuleBroken, ⟨⟨_, _, _, _, _, _, _, _, _, _, _, _, _, _, _, xo_RuleBroken, xv_RuleBroken⟩, xw_RuleBroken, xs_RuleBroken, xy_RuleBroken, xk_RuleBroken⟩, xi_RuleBroken, xt_RuleBroken, fun f hf => by simp only [List.mem_cons, List.not_mem_nil, or_false] at hf; rcases hf with rfl | rfl | rfl <;> assumption⟩
    rf_NotYetKnown := ⟨xa_NotYetKnown, ⟨⟨_, _, _, _, _, _, _, _, _, _, _, _, _, _, _, xo_NotYetKnown, xv_NotYetKnown⟩, xw_NotYetKnown, xs_NotYetKnown, xy_NotYetKnown, xk_NotYetKnown⟩, xi_NotYetKnown, xt_NotYetKnown, fun f hf => by simp only [List.mem_cons, List.not_mem_nil, or_false] at hf; rcases hf with rfl <;> assumption⟩
    rf_Conflict := ⟨xa_Conflict, ⟨⟨_, _, _, _, _, _, _, _, _, _, _, _, _, _, _, xo_Conflict, xv_Conflict⟩, xw_Conflict, xs_Conflict, xy_Conflict, xk_Conflict⟩, xi_Conflict, xt_Conflict, fun f hf => by simp only [List.mem_cons, List.not_mem_nil, or_false] at hf; rcases hf with rfl <;> assumption⟩
    rf_SyntaxFault := ⟨xa_SyntaxFault, ⟨⟨_, _, _, _, _, _, _, _, _, _, _, _, _, _, _, xo_SyntaxFault, xv_SyntaxFault⟩, xw_SyntaxFault, xs_SyntaxFault, xy_SyntaxFault, xk_SyntaxFault⟩, xi_SyntaxFault, xt_SyntaxFault, fun f hf => by simp only [List.mem_cons, List.not_mem_nil, or_false] at hf; rcases hf with rfl <;> assumption⟩
    rf_WrongRule := ⟨xa_WrongRule, ⟨⟨_, _, _, _, _, _, _, _, _, _, _, _, _, _, _, xo_WrongRule, xv_WrongRule⟩, xw_WrongRule, xs_WrongRule, xy_WrongRule, xk_WrongRule⟩, xi_WrongRule, xt_WrongRule, fun f hf => by simp only [List.mem_cons, List.not_mem_nil, or_false] at hf; rcases hf with rfl <;> assumption⟩
    F_i_RuleBroken := fun_mk (st := s_i_RuleBroken) li_RuleBroken ci_RuleBroken ki_RuleBroken
    b_i_RuleBroken := (fun_mk (st := s_i_RuleBroken) li_RuleBroken ci_RuleBroken ki_RuleBroken).binds (ps := ["self", "table", "rule", "moment"]) fun _ _ _ _ _ _ us hl => match us, hl with | [_, _, _, _], _ => rfl
    F_i_NotYetKnown := fun_mk (st := s_i_NotYetKnown) li_NotYetKnown ci_NotYetKnown ki_NotYetKnown
    b_i_NotYetKnown := (fun_mk (st := s_i_NotYetKnown) li_NotYetKnown ci_NotYetKnown ki_NotYetKnown).binds (ps := ["self", "known"]) fun _ _ _ _ _ _ us hl => match us, hl with | [_, _], _ => rfl
    F_i_Conflict := fun_mk (st := s_i_Conflict) li_Conflict ci_Conflict ki_Conflict
    b_i_Conflict := (fun_mk (st := s_i_Conflict) li_Conflict ci_Conflict ki_Conflict).binds (ps := ["self", "index"]) fun _ _ _ _ _ _ us hl => match us, hl with | [_, _], _ => rfl
    F_i_StatementError := fun_mk (st := s_i_StatementError) li_StatementError ci_StatementError ki_StatementError
    b_i_StatementError := (fun_mk (st := s_i_StatementError) li_StatementError ci_StatementError ki_StatementError).binds (ps := ["self", "place"]) fun _ _ _ _ _ _ us hl => match us, hl with | [_, _], _ => rfl
    xf_moment := (.cons xa_RuleBroken ⟨xc0_RuleBroken, xc1_RuleBroken, xs_RuleBroken, xh_RuleBroken⟩ xn_RuleBroken_moment .nil)
    xf_rule := (.cons xa_RuleBroken ⟨xc0_RuleBroken, xc1_RuleBroken, xs_RuleBroken, xh_RuleBroken⟩ xn_RuleBroken_rule .nil)
    xf_table := (.cons xa_RuleBroken ⟨xc0_RuleBroken, xc1_RuleBroken, xs_RuleBroken, xh_RuleBroken⟩ xn_RuleBroken_table .nil)
    xf_known := (.cons xa_NotYetKnown ⟨xc0_NotYetKnown, xc1_NotYetKnown, xs_NotYetKnown, xh_NotYetKnown⟩ xn_NotYetKnown_known .nil)
    xf_index := (.cons xa_Conflict ⟨xc0_Conflict, xc1_Conflict, xs_Conflict, xh_Conflict⟩ xn_Conflict_index .nil)
    xf_place := (.cons xa_SyntaxFault ⟨xc0_SyntaxFault, xc1_SyntaxFault, xs_SyntaxFault, xh_SyntaxFault⟩ xn_SyntaxFault_place (.cons xa_WrongRule ⟨xc0_WrongRule, xc1_WrongRule, xs_WrongRule, xh_WrongRule⟩ xn_WrongRule_place .nil))
    ct_RuleBroken := (.cons xa_RuleBroken (exm_own xs_RuleBroken xh_RuleBroken xy_RuleBroken xp_RuleBroken_RuleBroken) (.cons xa_NotYetKnown (exm_own xs_RuleBroken xh_RuleBroken xy_RuleBroken xp_NotYetKnown_RuleBroken) (.cons xa_Conflict (exm_own xs_RuleBroken xh_RuleBroken xy_RuleBroken xp_Conflict_RuleBroken) (.cons xa_SyntaxFault (exm_own xs_RuleBroken xh_RuleBroken xy_RuleBroken xp_SyntaxFault_RuleBroken) (.cons xa_WrongRule (exm_own xs_RuleBroken xh_RuleBroken xy_RuleBroken xp_WrongRule_RuleBroken) .nil)))))
    ct_NotYetKnown := (.cons xa_RuleBroken (exm_own xs_NotYetKnown xh_NotYetKnown xy_NotYetKnown xp_RuleBroken_NotYetKnown) (.cons xa_NotYetKnown (exm_own xs_NotYetKnown xh_NotYetKnown xy_NotYetKnown xp_NotYetKnown_NotYetKnown) (.cons xa_Conflict (exm_own xs_NotYetKnown xh_NotYetKnown xy_NotYetKnown xp_Conflict_NotYetKnown) (.cons xa_SyntaxFault (exm_own xs_NotYetKnown xh_NotYetKnown xy_NotYetKnown xp_SyntaxFault_NotYetKnown) (.cons xa_WrongRule (exm_own xs_NotYetKnown xh_NotYetKnown xy_NotYetKnown xp_WrongRule_NotYetKnown) .nil)))))
    ct_Conflict := (.cons xa_RuleBroken (exm_own xs_Conflict xh_Conflict xy_Conflict xp_RuleBroken_Conflict) (.cons xa_NotYetKnown (exm_own xs_Conflict xh_Conflict xy_Conflict xp_NotYetKnown_Conflict) (.cons xa_Conflict (exm_own xs_Conflict xh_Conflict xy_Conflict xp_Conflict_Conflict) (.cons xa_SyntaxFault (exm_own xs_Conflict xh_Conflict xy_Conflict xp_SyntaxFault_Conflict) (.cons xa_WrongRule (exm_own xs_Conflict xh_Conflict xy_Conflict xp_WrongRule_Conflict) .nil)))))
    ct_SyntaxFault := (.cons xa_RuleBroken (exm_own xs_SyntaxFault xh_SyntaxFault xy_SyntaxFault xp_RuleBroken_SyntaxFault) (.cons xa_NotYetKnown (exm_own xs_SyntaxFault xh_SyntaxFault xy_SyntaxFault xp_NotYetKnown_SyntaxFault) (.cons xa_Conflict (exm_own xs_SyntaxFault xh_SyntaxFault xy_SyntaxFault xp_Conflict_SyntaxFault) (.cons xa_SyntaxFault (exm_own xs_SyntaxFault xh_SyntaxFault xy_SyntaxFault xp_SyntaxFault_SyntaxFault) (.cons xa_WrongRule (exm_own xs_SyntaxFault xh_SyntaxFault xy_SyntaxFault xp_WrongRule_SyntaxFault) .nil)))))
    ct_WrongRule := (.cons xa_RuleBroken (exm_own xs_WrongRule xh_WrongRule xy_WrongRule xp_RuleBroken_WrongRule) (.cons xa_NotYetKnown (exm_own xs_WrongRule xh_WrongRule xy_WrongRule xp_NotYetKnown_WrongRule) (.cons xa_Conflict (exm_own xs_WrongRule xh_WrongRule xy_WrongRule xp_Conflict_WrongRule) (.cons xa_SyntaxFault (exm_own xs_WrongRule xh_WrongRule xy_WrongRule xp_SyntaxFault_WrongRule) (.cons xa_WrongRule (exm_own xs_WrongRule xh_WrongRule xy_WrongRule xp_WrongRule_WrongRule) .nil)))))
  }
  exact ⟨_, fun s v => .of_eq rfl, fun base _ _ => ok_law Fa⟩
end Lk64
open PySem PySem.W PyProof.Rows
set_option maxHeartbeats 0 in
theorem PySem.Challenge.cw_pastamended_k64_values_and_their_text_holds : PySem.Challenge.rw_pastamended_k64_values_and_their_text.Holds := by
  w_on; o_law; k_head; (case hw => w_witness2)
  k_fill
  refine Bv.walk_ofG (l := PySem.Challenge.rw_pastamended_k64_values_and_their_text) (n := 63) (k := 4) (x := "_law_script") (sp := fun w => Bv.spB _ 1 Lk64.f_law) rfl (by decide) rfl ⟨rfl, by decide, by decide⟩ (fun w h Y => PySem.W.kIn_of Y) ?F (by rfl) (fun w => by rfl) (fun _ _ a ns hl hb hS hsm => Bv.law_end Lk64.law_true hl hb hS hsm)
  case F =>
    intro w mg fa h KX G hmg
    refine' Lk64.all_mk KX G hmg ?a0 ?l0 ?c0 ?k0 ?a1 ?l1 ?c1 ?k1 ?a2 ?l2 ?c2 ?k2 ?a3 ?l3 ?c3 ?k3 ?a4 ?l4 ?c4 ?k4 ?a5 ?l5 ?c5 ?k5 ?a6 ?l6 ?c6 ?k6 ?a7 ?l7 ?c7 ?k7 ?a8 ?l8 ?c8 ?k8 ?z_abs ?z_int ?z_isinstance ?z_len ?z_range ?z_repr ?z_str ?v_DIGITS ?v_END ?v_LETTERS ?v_MOST ?v_OPEN ?v_SHORT_SIGNS ?ta_LONG_SIGNS ?tl_LONG_SIGNS ?tz_LONG_SIGNS ?tv_LONG_SIGNS ?da_KEYWORDS ?dl_KEYWORDS ?dk_KEYWORDS ?dw_KEYWORDS ?xa_Conflict ?xs_Conflict ?xy_Conflict ?xh_Conflict ?xa_NotYetKnown ?xs_NotYetKnown ?xy_NotYetKnown ?xh_NotYetKnown ?xa_RuleBroken ?xs_RuleBroken ?xy_RuleBroken ?xh_RuleBroken ?xa_SyntaxFault ?xs_SyntaxFault ?xy_SyntaxFault ?xh_SyntaxFault ?xa_WrongRule ?xs_WrongRule ?xy_WrongRule ?xh_WrongRule ?xo_RuleBroken ?xv_RuleBroken ?xw_RuleBroken ?xk_RuleBroken ?xi_RuleBroken ?xt_RuleBroken ?xn_RuleBroken_table ?xn_RuleBroken_rule ?xn_RuleBroken_moment ?xp_RuleBroken_Conflict ?xp_RuleBroken_NotYetKnown ?xp_RuleBroken_RuleBroken ?xp_RuleBroken_SyntaxFault ?xp_RuleBroken_WrongRule ?xc0_RuleBroken ?xc1_RuleBroken ?xo_NotYetKnown ?xv_NotYetKnown ?xw_NotYetKnown ?xk_NotYetKnown ?xi_NotYetKnown ?xt_NotYetKnown ?xn_NotYetKnown_known ?xp_NotYetKnown_Conflict ?xp_NotYetKnown_NotYetKnown ?xp_NotYetKnown_RuleBroken ?xp_NotYetKnown_SyntaxFault ?xp_NotYetKnown_WrongRule ?xc0_NotYetKnown ?xc1_NotYetKnown ?xo_Conflict ?xv_Conflict ?xw_Conflict ?xk_Conflict ?xi_Conflict ?xt_Conflict ?xn_Conflict_index ?xp_Conflict_Conflict ?xp_Conflict_NotYetKnown ?xp_Conflict_RuleBroken ?xp_Conflict_SyntaxFault ?xp_Conflict_WrongRule ?xc0_Conflict ?xc1_Conflict ?xo_SyntaxFault ?xv_SyntaxFault ?xw_SyntaxFault ?xk_SyntaxFault ?xi_SyntaxFault ?xt_SyntaxFault ?xn_SyntaxFault_place ?xp_SyntaxFault_Conflict ?xp_SyntaxFault_NotYetKnown ?xp_SyntaxFault_RuleBroken ?xp_SyntaxFault_SyntaxFault ?xp_SyntaxFault_WrongRule ?xc0_SyntaxFault ?xc1_SyntaxFault ?xo_WrongRule ?xv_WrongRule ?xw_WrongRule ?xk_WrongRule ?xi_WrongRule ?xt_WrongRule ?xn_WrongRule_place ?xp_WrongRule_Conflict ?xp_WrongRule_NotYetKnown ?xp_WrongRule_RuleBroken ?xp_WrongRule_SyntaxFault ?xp_WrongRule_WrongRule ?xc0_WrongRule ?xc1_WrongRule ?li_RuleBroken ?ci_RuleBroken ?ki_RuleBroken ?li_NotYetKnown ?ci_NotYetKnown ?ki_NotYetKnown ?li_Conflict ?ci_Conflict ?ki_Conflict ?li_StatementError ?ci_StatementError ?ki_StatementError
    (case a0 => k_is); (case l0 => k_is); (case c0 => k_is); (case k0 => k_is); (case a1 => k_is); (case l1 => k_is); (case c1 => k_is); (case k1 => k_is); (case a2 => k_is); (case l2 => k_is); (case c2 => k_is); (case k2 => k_is); (case a3 => k_is); (case l3 => k_is); (case c3 => k_is); (case k3 => k_is); (case a4 => k_is); (case l4 => k_is); (case c4 => k_is); (case k4 => k_is); (case a5 => k_is); (case l5 => k_is); (case c5 => k_is); (case k5 => k_is); (case a6 => k_is); (case l6 => k_is); (case c6 => k_is); (case k6 => k_is); (case a7 => k_is); (case l7 => k_is); (case c7 => k_is); (case k7 => k_is); (case a8 => k_is); (case l8 => k_is); (case c8 => k_is); (case k8 => k_is); (case z_abs => k_is); (case z_int => k_is); (case z_isinstance => k_is); (case z_len => k_is); (case z_range => k_is); (case z_repr => k_is); (case z_str => k_is); (case v_DIGITS => k_is); (case v_END => k_is); (case v_LETTERS => k_is); (case v_MOST => k_is); (case v_OPEN => k_is); (case v_SHORT_SIGNS => k_is); (case ta_LONG_SIGNS => k_is); (case tl_LONG_SIGNS => k_is); (case tz_LONG_SIGNS => exact (by decide)); (case tv_LONG_SIGNS => exact .cons ⟨_, rfl⟩ (.cons ⟨_, rfl⟩ (.cons ⟨_, rfl⟩ (.nil)))); (case da_KEYWORDS => k_is); (case dl_KEYWORDS => k_is); (case dk_KEYWORDS => rfl); (case dw_KEYWORDS => rfl); (case xa_Conflict => k_is); (case xs_Conflict => k_is); (case xy_Conflict => k_is); (case xh_Conflict => k_is); (case xa_NotYetKnown => k_is); (case xs_NotYetKnown => k_is); (case xy_NotYetKnown => k_is); (case xh_NotYetKnown => k_is); (case xa_RuleBroken => k_is); (case xs_RuleBroken => k_is); (case xy_RuleBroken => k_is); (case xh_RuleBroken => k_is); (case xa_SyntaxFault => k_is); (case xs_SyntaxFault => k_is); (case xy_SyntaxFault => k_is); (case xh_SyntaxFault => k_is); (case xa_WrongRule => k_is); (case xs_WrongRule => k_is); (case xy_WrongRule => k_is); (case xh_WrongRule => k_is); (case xo_RuleBroken => k_is); (case xv_RuleBroken => rfl); (case xw_RuleBroken => k_is); (case xk_RuleBroken => k_is); (case xi_RuleBroken => k_is); (case xt_RuleBroken => k_is); (case xn_RuleBroken_table => k_is); (case xn_RuleBroken_rule => k_is); (case xn_RuleBroken_moment => k_is); (case xp_RuleBroken_Conflict => k_is); (case xp_RuleBroken_NotYetKnown => k_is); (case xp_RuleBroken_RuleBroken => k_is); (case xp_RuleBroken_SyntaxFault => k_is); (case xp_RuleBroken_WrongRule => k_is); (case xc0_RuleBroken => k_is); (case xc1_RuleBroken => k_is); (case xo_NotYetKnown => k_is); (case xv_NotYetKnown => rfl); (case xw_NotYetKnown => k_is); (case xk_NotYetKnown => k_is); (case xi_NotYetKnown => k_is); (case xt_NotYetKnown => k_is); (case xn_NotYetKnown_known => k_is); (case xp_NotYetKnown_Conflict => k_is); (case xp_NotYetKnown_NotYetKnown => k_is); (case xp_NotYetKnown_RuleBroken => k_is); (case xp_NotYetKnown_SyntaxFault => k_is); (case xp_NotYetKnown_WrongRule => k_is); (case xc0_NotYetKnown => k_is); (case xc1_NotYetKnown => k_is); (case xo_Conflict => k_is); (case xv_Conflict => rfl); (case xw_Conflict => k_is); (case xk_Conflict => k_is); (case xi_Conflict => k_is); (case xt_Conflict => k_is); (case xn_Conflict_index => k_is); (case xp_Conflict_Conflict => k_is); (case xp_Conflict_NotYetKnown => k_is); (case xp_Conflict_RuleBroken => k_is); (case xp_Conflict_SyntaxFault => k_is); (case xp_Conflict_WrongRule => k_is); (case xc0_Conflict => k_is); (case xc1_Conflict => k_is); (case xo_SyntaxFault => k_is); (case xv_SyntaxFault => rfl); (case xw_SyntaxFault => k_is); (case xk_SyntaxFault => k_is); (case xi_SyntaxFault => k_is); (case xt_SyntaxFault => k_is); (case xn_SyntaxFault_place => k_is); (case xp_SyntaxFault_Conflict => k_is); (case xp_SyntaxFault_NotYetKnown => k_is); (case xp_SyntaxFault_RuleBroken => k_is); (case xp_SyntaxFault_SyntaxFault => k_is); (case xp_SyntaxFault_WrongRule => k_is); (case xc0_SyntaxFault => k_is); (case xc1_SyntaxFault => k_is); (case xo_WrongRule => k_is); (case xv_WrongRule => rfl); (case xw_WrongRule => k_is); (case xk_WrongRule => k_is); (case xi_WrongRule => k_is); (case xt_WrongRule => k_is); (case xn_WrongRule_place => k_is); (case xp_WrongRule_Conflict => k_is); (case xp_WrongRule_NotYetKnown => k_is); (case xp_WrongRule_RuleBroken => k_is); (case xp_WrongRule_SyntaxFault => k_is); (case xp_WrongRule_WrongRule => k_is); (case xc0_WrongRule => k_is); (case xc1_WrongRule => k_is); (case li_RuleBroken => k_is); (case ci_RuleBroken => k_is); (case ki_RuleBroken => k_is); (case li_NotYetKnown => k_is); (case ci_NotYetKnown => k_is); (case ki_NotYetKnown => k_is); (case li_Conflict => k_is); (case ci_Conflict => k_is); (case ki_Conflict => k_is); (case li_StatementError => k_is); (case ci_StatementError => k_is); (case ki_StatementError => k_is)
