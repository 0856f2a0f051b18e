import PyProof.Rows.All
import PyProof.Walks
import PyProof.StationsW
import PyProof.RangeIter
import PyProof.InstFacts
import Wide.All
import OpenK.AllK
import KE.KTryMore
import Wide.FinOn
import KE.KDictList
import Open.FastRun
import Open.FastT9
import Open.Line
import PySem.Challenge.RW_uf010026_02
set_option Elab.async false
set_option maxRecDepth 1000000
set_option maxHeartbeats 8000000
set_option linter.all false
set_option tactic.hygienic false
set_option genSizeOf false
set_option compiler.extract_closed false
section
namespace Mine
open PySem
noncomputable def codeB (B : Nat) : List Nat → Nat
  | [] => 0
  | c :: l => codeB B l * B + (c + 1)
theorem digit_inj {B a b c d : Nat} (hc : c + 1 < B) (hd : d + 1 < B) (h : a * B + (c + 1) = b * B + (d + 1)) : c = d ∧ a = b := by
  have e1 : (a * B + (c + 1)) % B = c + 1 := by rw [Nat.mul_comm, Nat.mul_add_mod, Nat.mod_eq_of_lt hc]
  have e2 : (b * B + (d + 1)) % B = d + 1 := by rw [Nat.mul_comm, Nat.mul_add_mod, Nat.mod_eq_of_lt hd]
  rw [h, e2] at e1
  have hcd : d = c := Nat.succ.inj e1
  subst hcd
  have hB : 0 < B := Nat.lt_of_le_of_lt (Nat.zero_le _) hc
  exact ⟨rfl, Nat.eq_of_mul_eq_mul_right hB (Nat.add_right_cancel h)⟩
theorem codeB_inj {B : Nat} : ∀ (a b : List Nat), (∀ c ∈ a, c + 1 < B) → (∀ c ∈ b, c + 1 < B) → codeB B a = codeB B b → a = b
  | [], [], _, _, _ => rfl
  | [], c :: l, _, _, h => by simp [codeB] at h
  | c :: l, [], _, _, h => by simp [codeB] at h
  | c :: l, d :: k, ha, hb, h => by
    obtain ⟨h1, h2⟩ := digit_inj (ha c (.head _)) (hb d (.head _)) h
    rw [h1, codeB_inj l k (fun x hx => ha x (.tail _ hx)) (fun x hx => hb x (.tail _ hx)) h2]
noncomputable def codeL (l : List Nat) : Nat := codeB 2097152 l
noncomputable def okCps (l : List Nat) : Bool := l.all fun c => Nat.blt (c + 1) 2097152
theorem codeL_inj (a b : List Nat) (ha : okCps a = true) (hb : okCps b = true) (h : codeL a = codeL b) : a = b :=
  codeB_inj a b (fun c hc => by have := List.all_eq_true.mp ha c hc; exact Nat.blt_eq.mp this) (fun c hc => by have := List.all_eq_true.mp hb c hc; exact Nat.blt_eq.mp this) h
noncomputable def code (x : Str) : Nat := if okCps x.cps.toList then codeL x.cps.toList else 0
theorem code_inj {x y : Str} (h : code x = code y) (hx : code x ≠ 0) : x = y := by
  unfold code at h hx
  by_cases a : okCps x.cps.toList = true
  · rw [if_pos a] at h hx
    by_cases b : okCps y.cps.toList = true
    · rw [if_pos b] at h
      have := codeL_inj _ _ a b h
      obtain ⟨⟨cx⟩⟩ := x
      obtain ⟨⟨cy⟩⟩ := y
      simp only at this
      rw [this]
    · rw [if_neg b] at h; exact absurd h hx
  · rw [if_neg a] at hx; exact absurd rfl hx
noncomputable def ixN : List Nat → Nat → Option Nat
  | [], _ => none
  | d :: l, c => if Nat.beq c d then some 0 else (ixN l c).map (· + 1)
theorem ixN_get : ∀ {l : List Nat} {c i : Nat}, ixN l c = some i → l[i]? = some c
  | [], _, _, h => by cases h
  | d :: l, c, i, h => by
    unfold ixN at h
    by_cases e : Nat.beq c d = true
    · rw [if_pos e] at h; cases h; simp [Nat.eq_of_beq_eq_true e]
    · rw [if_neg e] at h
      cases q : ixN l c with
      | none => rw [q] at h; cases h
      | some j => rw [q] at h; cases h; simpa using ixN_get q
noncomputable def ixS (tb : List Nat) (x : Str) : Option Nat := if code x = 0 then none else ixN tb (code x)
theorem ixS_inj {tb : List Nat} {x y : Str} {i : Nat} (hx : ixS tb x = some i) (hy : ixS tb y = some i) : x = y := by
  unfold ixS at hx hy
  by_cases a : code x = 0
  · rw [if_pos a] at hx; cases hx
  · by_cases b : code y = 0
    · rw [if_pos b] at hy; cases hy
    · rw [if_neg a] at hx
      rw [if_neg b] at hy
      have h1 := ixN_get hx
      have h2 := ixN_get hy
      rw [h1] at h2
      exact code_inj (Option.some.inj h2) a
noncomputable def GT : List Nat := [488183376642157, 80033084540641898480094239089228231436665003453574281166954, 514571674583146, 1005348044598614687843, 1972967942959123809794261109, 1079135038485626355821, 505775594143860, 1079134968116882178149, 1972967896842254829385416819, 38162751627490379747452398003482574466029863143735398, 4097048712905654171746245472682100, 483785363685492, 510173602906210, 488183385030766, 532163833364590, 479387298300002, 536561907138658, 90233379350378998227153712756468239537380784352481645690967, 90233379350378998227153712756468490993895923976323018522695, 20516695110558990338349423043768236959579766851, 4097048712905654171746245443321937, 1953625065281667892816904265, 4421567401963634344580608052691023, 38911039395368713077120569378125327593434223166357571, 18554229448017460382995876969397224232426930255, 43400773495684931299990303152339635632874951695925327, 4502697156435267283308154296729679, 9953264140782547107729548004762710966339, 26938412273360973710146055992342944584562113553367118, 2224424541109078390632087623, 18197417354700030340848489945371723337639657578, 9953263775699387013229657059599239348330, 18375823571499401479770734400747965486269988976, 9187628571821442950012028645006517469290, 9527911019871981142584984497405730750575, 181005589184799986677156147774642533556690027265787335787732271220, 20695101752711969165474692825965948435387383906, 166196047384272537809289455056229126457739035918218201144596889700, 18197416589064299120564216867920607479947329642, 169487057283544435640426665101935405545032624369300756501555576945, 45645636799317123958615858659419724959709671387562093, 171132561056231666204508540239819374032478365443519710043144454261, 4502697098406625027691511828971629, 846730049398473916085087584128933697840380091329857293191965510740677956206701, 18375823571499401479790077204638471496639971433, 18375823571499401479790077213861799553046413428, 396850582782009359370119880267881792802359345170147795437217238556344423, 95725838504961505145080012563471106329936091183885114671209, 80817726747295587368214924465216021871482886418226535727209, 190878618882635509821928589408131882311271528517103037820484714594, 91018018938022645045637264236535371547050118533823877611626, 181005589184799986677156147774642655251399105783183241273292095597, 81602364090076287366173780493044425818343523366074587283562, 3310185146202486990159897262910785962440316216946269930930577122749621626347220819221938276, 9953263207791589283113833233319297286261, 18375823571499401479790077296872209457415716981, 43774914525127606634948462309549954583142299009548405, 192524123439955219288904614187488428846096326495758438584626970741, 4583826736821425400178084581212266, 189233104125027351079044284948292633439235375008653565194139598959, 182651085895739159611544028051033954835980804142498541835594498168, 18375823571499401479770734400748049049147408493, 18375823571499401479770734400748018262823927926, 41530051043090558306419451808164507616289346805563503, 171132561056231666204508540239819374032478365591093693419117084781, 358890992684198351244117494181017679890960069356093321341288232567963757, 3310185146202486990197856839844549527063395318482692411445352864523095987143731162826932328, 10378616207007581569746392292124973334644, 10378616207007581569727945570041487949924, 91802658151523121551182478706899233711977115684111583805556, 21765535735758363704234157414456811028979122279, 43774918628465233588782538751077194349118739659620467, 403752322546769924304731750433691914414489823876796984833443022619279456, 79248447572009185758333506431352985962475023867187635945568, 7742956824657454511956318923814547708781627226174131122382169039603859410782705933984571542470752, 421006690059250891097143695140917066809609715599597812568445437129785440, 839493061075507520855370235839129965667347155426955459942090491728453699633248, 91018015944868005415624299308479862754795154219907449618528, 91018015570724656694342399756974592903473822180854263185504, 80033088656230687610814220734090481631045705683825583980640, 91018014074146266443651458333636699022498581066138634944608, 18197418120334909699774667083190765414510493792, 81602364090077357802283592532699828490939855109768301510752, 43774916844405617705602520682488447646056418390311008, 376145337159623361912698492388468032872923258503129083604288419640901728, 3723957881593141820746691508245982495671109949404972261701025290226972580569300003874406496, 41530051043090558306419451808164535286304302314815584, 7742956665513927798097241316892216214588599199992503912193136464043409796016289409272493773946976, 882915022071138124765372453842085820144227560863652118647196572824639041962080, 90233375608932308976580008428965506433129796719669223096416, 37788605781087166882797726435001178606952615065419872, 91802656280803345044191614365910231084237604146364133933152, 166196040322526725043969524243678063596587590643091508768591052896, 348538364936483441850335885126143820542383599358076084550426633208594528, 846730049398473916085087584128933697840465161678198612564186553338684774547552, 91018012951712652162785828947459767547022670722609534992480, 82387004051868278273799477919677025937730432309507471179872, 400301477346956824698566919056352424534797759621257456523006554629210208, 90233375608934093035855608268506975583308188893790917886048, 167841544095212084885777211650720385374882549712431272192582352992, 3723958154780933078993815348549031929600789542461701977153418488425042733009601494769467488, 79248447572006866481683564677070781918793014781436403646560, 190878607897710840194831257729729748984291347386754377891931226208, 348538358354479336047783637559236661292520842545390999917957776140140640, 42278337562126394882722636668977402652438790710231136, 400301477346956824694077185134442593252847708572699835991927056798580832, 38162750378648648629778066780632868089197520152952928, 348538358354469920392561545711964376848906820579848583725870345019719776, 40407615109529299628999473434303460201105905516806240, 91018016693157914166177253055962971198019440249030815252576, 400301455955399148798322214679042067742290137871126482889589276698214496, 403752355456873624927459489802379276535130602047601608300036202864574560, 91802655906658390669510632506423932130708194924539850784864, 43774918628465233588782538751077369593187439915040864, 37788603818620738706104457995284705495682434113470560, 3692129528359153038004073583514481007015027167786146815651303681903408044680313940553498720, 19446259085817177329131502603843663253859205216, 348538358354470705026162880436335778493756426633483496118712640695435360, 91802656280800312142504332077630959006909194449134567817312, 527765786853485, 2108367634755896306667880544]
noncomputable def AT : List Nat := [4097048886990833845663497717809250, 496979490635889, 4746086071678939754579271075496042, 2224424411981825894200115300, 4097048886990833845681089920630886, 8677205062005183289952466234080782975091, 514571655708776, 91802653661792946164417784946020646843673666288009024110708, 1023794762284045172843, 2263110111996501108962885748, 8677204412967747145340641066502926106739, 2243767400339812224105185397, 488183414390896, 4097048886990981419611689351905378, 1069911684040970207347, 510173600809065, 2243767326552783152708845668, 4137613512770042941672065802960995, 9868193305663397248283467000068658167908, 2224424448875353624042012778]
inductive E where
  | none
  | bool (b : Bool)
  | int (i : Int)
  | str (s : Str)
  | v (i : Nat)
  | g (i : Nat)
  | tup (es : List E)
  | list (es : List E)
  | dict (ks vs : List E)
  | bin (op : Operator) (l r : E)
  | neg (x : E)
  | not (x : E)
  | and (es : List E)
  | or (es : List E)
  | cmp (op : CmpOp) (l r : E)
  | cmp2 (o1 o2 : CmpOp) (a b c : E)
  | ite (c a b : E)
  | sub (o i : E)
  | slice (o lo hi st : E)
  | attr (o : E) (n : Nat)
  | call (f : E) (args : List E)
  | sorted (x f : E)
  | meth (o : E) (n : Nat) (args : List E)
  | comp (elt : E) (x : Nat) (src : E) (c : List E)
  deriving Inhabited
inductive Pat where
  | v (i : Nat)
  | tup (ps : List Pat)
  deriving Inhabited
inductive S where
  | assign (p : Pat) (e : E)
  | setattr (o : E) (n : Nat) (e : E)
  | setitem (o i e : E)
  | expr (e : E)
  | ret (e : E)
  | ite (c : E) (a b : List S)
  | for_ (p : Pat) (e : E) (body : List S)
  | while_ (c : E) (body : List S)
  | raise (e : E)
  | try_ (body : List S) (cls : E) (x : Option Nat) (h : List S)
  | pass
  deriving Inhabited
noncomputable def okName (x : Str) : Bool := !(Nat.beq (code x) 35917881366025429935618926129718285898815186866798688) && !(Nat.beq (code x) 694752866707914342600158099379000926982518397911170979246594950709587596017760)
theorem okName_debug {x : Str} (h : okName x = true) : (x == ("__debug__" : Str)) = false := by
  cases q : x == ("__debug__" : Str) with
  | false => rfl
  | true =>
    rw [eq_of_beq q] at h
    have : okName ("__debug__" : Str) = false := by decide +kernel
    rw [this] at h; cases h
theorem okName_cd {x : Str} (h : okName x = true) : (x == ("__classdict__" : Str)) = false := by
  cases q : x == ("__classdict__" : Str) with
  | false => rfl
  | true =>
    rw [eq_of_beq q] at h
    have : okName ("__classdict__" : Str) = false := by decide +kernel
    rw [this] at h; cases h
noncomputable def relab (sc names : List (Str × NameKind)) : List (Str × NameKind) :=
  names.map fun (n, k) => if (k == .free && sc.lookup n == some .cell) then (n, .cell) else (n, k)
noncomputable def notStar : PySem.Expr → Bool
  | .Starred .. => false
  | _ => true
noncomputable def notSuper : PySem.Expr → Bool
  | .Call (.Name _ _) [] [] _ => false
  | _ => true
noncomputable def notSlice : PySem.Expr → Bool
  | .Slice .. => false
  | _ => true
noncomputable def notSet : PySem.Expr → Bool
  | .Set .. => false
  | _ => true
noncomputable def okComp (tb : List Nat) (sc : List (Str × NameKind)) (x : Str) (p : Str × NameKind) : Bool := match p.2 with
  | .local | .cell => (ixS tb p.1).isNone || ixS tb p.1 == ixS tb x
  | .free => sc.lookup p.1 == some .cell
  | .globalImplicit => true
  | .globalExplicit => false
end Mine
end
section
namespace Mine
open PySem
noncomputable def TrY (h base : Heap) (e : Addr) (cls fl : Value) : Prop :=
  ∃ oe vs T oT ts, h.get? e = some oe ∧ oe.cls = cls ∧ oe.data = .fields vs ∧ (vs[2]? = some .none ∧ oe.dict = Option.none) ∧ vs[1]? = some (.ref T) ∧ base.get? T = Option.none ∧ T ≠ e ∧ h.get? T = some oT ∧ oT.data = .fields ts ∧ ts[3]? = some fl
structure FlyY (base : Heap) (l : List Env) (e : Addr) (cls fl : Value) (h : Heap) : Prop where
  stays : base.StaysIn h
  new : base.get? e = Option.none
  frames : h.FunFrames base l
  tr : TrY h base e cls fl
theorem Obj.dict_mapF (o : Obj) (f : Array Value → Array Value) : (Obj.mapFields f o).dict = o.dict := by
  unfold Obj.mapFields; split <;> rfl
section
variable {M : Model} {A : Around} {E : Value → Shared → Prop} {s : Shared}
theorem entryY {base : Heap} {env : Env} {outer : List Env} {L e : Addr} {oe : Obj} {vs : Array Value} {head : Value} {hadNext : Bool} {Q : Unit → Shared → Prop}
    (hfr : A.frames = some (env :: outer)) (hl : s.heap.FunFrames base (env :: outer)) (hf : env.frame = some L)
    (he : s.heap.get? e = some oe) (hkb : base.StaysIn s.heap) (hen : base.get? e = Option.none) (hd : oe.data = .fields vs) (h2' : vs[2]? = some .none ∧ oe.dict = Option.none)
    (h : ∀ h', FlyY base (env :: outer) e oe.cls (rawInt L) h' → s.heap.UpToSlots h' → Q () { s with heap := h' }) :
    wpAny M A (do let a ← frameOf env; let pl ← entryPlaceOf L hadNext; let b ← EntryCells.newEntry head a .none (rawInt L) .none pl; setField (.ref e) 1 b) Q E s := by
  have h2 := h2'.1
  have hsz : 1 < vs.size := Nat.lt_of_succ_lt (Array.getElem?_eq_some_iff.mp h2).1
  have hene : e ∉ (env :: outer).filterMap (·.frame) := fun hm => by
    obtain ⟨_, o, ho, hnf⟩ := hl.mem hm
    rw [he] at ho; injection ho with ho; subst ho; exact hnf vs hd
  refine wpAny_bind (wpAny_frameOf_fun hfr hl hf fun h₁ hs₁ => ?_)
  refine wpAny_bind (wpAny_entryPlaceOf fun pl hpl => ?_)
  unfold EntryCells.newEntry newFields
  refine wpAny_bind (wpAny_newObj_type ?_ (hpl.sizeOk5 _ _ _ _ _))
  generalize htb : ({ cls := .type "traceback", dict := Option.none, data := .fields ([head, .ref L, .none, rawInt L, .none] ++ (if pl.isEmpty then List.replicate 6 Value.none else pl)).toArray } : Obj) = tb
  have tbd : tb.data = .fields ([head, .ref L, .none, rawInt L, .none] ++ (if pl.isEmpty then List.replicate 6 Value.none else pl)).toArray := by rw [← htb]
  have he₁ : h₁.get? e = some oe := (hs₁.2.1 e hene).trans he
  have kb₁ : base.StaysIn h₁ := fun b o hbo => (hs₁.2.1 b fun hm => by rw [(hl.mem hm).1] at hbo; cases hbo).trans (hkb b o hbo)
  have he₂ := Heap.get?_push_of_some (h := h₁) tb he₁
  refine wpAny_setField he₂ hd hsz (h _ ?_ ?_)
  all_goals
    have hTe : h₁.objs.size ≠ e := Nat.ne_of_gt (Heap.lt_size he₁)
    have hd₃ := Obj.data_mapFields hd (·.setIfInBounds 1 (Value.ref h₁.objs.size))
    have he₃ := Heap.get?_update_self (Obj.mapFields (·.setIfInBounds 1 (Value.ref h₁.objs.size))) he₂ (Obj.isFreed_of_fields hd₃)
    have keep : ∀ b o, b ≠ e → h₁.get? b = some o → ((h₁.push tb).update e (Obj.mapFields (·.setIfInBounds 1 (Value.ref h₁.objs.size)))).get? b = some o := fun b o hbe hb => by
      rw [Heap.get?_update_other _ _ (Ne.symm hbe)]; exact Heap.get?_push_of_some _ hb
    have noRecord : ∀ b o, s.heap.get? b = some o → (∀ vs, o.data ≠ .fields vs) → b ≠ e := fun b o hb hnf q => by
      rw [q, he] at hb; injection hb with hb; subst hb; exact hnf vs hd
  · refine ⟨fun b o hbo => keep b o (fun q => by rw [q, hen] at hbo; cases hbo) (kb₁ b o hbo), hen, hl.of_keeps fun b o hb hnf => ?_, ?_⟩
    · obtain ⟨sl, hs⟩ := hs₁.2.2 b o hb
      exact ⟨_, keep b _ (noRecord b o hb hnf) hs, rfl⟩
    · have hT₃ := (Heap.get?_update_other (h₁.push tb) (Obj.mapFields (·.setIfInBounds 1 (Value.ref h₁.objs.size))) (Ne.symm hTe)).trans (Heap.get?_push_size h₁ (by rw [← htb]; rfl))
      refine ⟨_, _, h₁.objs.size, _, _, he₃, Obj.cls_mapFields _ _, hd₃, ⟨by rw [Array.getElem?_setIfInBounds_ne (by decide)]; exact h2, (Obj.dict_mapF _ _).trans h2'.2⟩, by simp [hsz], kb₁.fresh, hTe, hT₃, tbd, ?_⟩
      first | (simp; done) | (rcases hpl with rfl | ⟨_, _, _, _, _, _, _, rfl⟩ <;> simp)
  · intro b o hb hnf
    obtain ⟨sl, hs⟩ := hs₁.2.2 b o hb
    exact ⟨sl, keep b _ (noRecord b o hb hnf) hs⟩
theorem note_first {base : Heap} {env : Env} {outer : List Env} {L e : Addr} {oe : Obj} {vs : Array Value} {Q : Unit → Shared → Prop}
    (hfr : A.frames = some (env :: outer)) (hl : s.heap.FunFrames base (env :: outer)) (hf : env.frame = some L)
    (he : s.heap.get? e = some oe) (hkb : base.StaysIn s.heap) (hen : base.get? e = Option.none) (hd : oe.data = .fields vs) (h1 : vs[1]? = some .none) (h2 : vs[2]? = some .none ∧ oe.dict = Option.none)
    (h : ∀ h', FlyY base (env :: outer) e oe.cls (rawInt L) h' → s.heap.UpToSlots h' → Q () { s with heap := h' }) : wpAny M A (noteFrame (.ref e) env) Q E s := by
  unfold noteFrame
  simp only [hf]
  refine wpAny_bind (wpAny_field he hd h1 ?_)
  rw [if_neg (by decide)]
  exact entryY hfr hl hf he hkb hen hd h2 h
set_option tactic.hygienic true in
theorem note_next {base : Heap} {env : Env} {outer : List Env} {L e : Addr} {cls : Value} {Q : Unit → Shared → Prop}
    (hfr : A.frames = some (env :: outer)) (hf : env.frame = some L) (x : FlyY base (env :: outer) e cls .none s.heap)
    (h : ∀ h', FlyY base (env :: outer) e cls (rawInt L) h' → s.heap.UpToSlots h' → Q () { s with heap := h' }) : wpAny M A (noteFrame (.ref e) env) Q E s := by
  obtain ⟨hkb, hen, hl, oe, vs, T, oT, ts, he, rfl, hd, h2, h1, hnT, hTe, hT, hdT, h3⟩ := x
  unfold noteFrame
  simp only [hf]
  refine wpAny_bind (wpAny_field he hd h1 ?_)
  rw [if_pos (show (Value.ref T != Value.none) = true from by simp)]
  refine wpAny_bind (wpAny_field hT hdT h3 ?_)
  rw [if_neg (show ¬ ((Value.none == rawInt L) = true) from by simp [rawInt])]
  refine wpAny_bind (wpAny_setField hT hdT (Array.getElem?_eq_some_iff.mp h3).1 ?_)
  have other : ∀ b, b ≠ T → (s.heap.update T (Obj.mapFields (·.setIfInBounds 3 Value.none))).get? b = s.heap.get? b := fun b hb => Heap.get?_update_other _ _ (Ne.symm hb)
  have noRecord : ∀ b o, s.heap.get? b = some o → (∀ vs, o.data ≠ .fields vs) → b ≠ T := fun b o hb hnf q => by
    rw [q, hT] at hb; injection hb with hb; subst hb; exact hnf ts hdT
  refine entryY hfr (hl.of_keeps fun b o hb hnf => ⟨o, (other b (noRecord b o hb hnf)).trans hb, rfl⟩) hf ((other e (Ne.symm hTe)).trans he)
    (fun b o hbo => (other b fun q => by rw [q, hnT] at hbo; cases hbo).trans (hkb b o hbo)) hen hd h2
    fun h' x1 x2 => h h' x1 fun b o hb hnf => x2 b o ((other b (noRecord b o hb hnf)).trans hb) hnf
theorem flightY {base : Heap} {l : List Env} {e : Addr} {cls fl : Value} {Q : Unit → Shared → Prop} (x : FlyY base l e cls fl s.heap)
    (h : ∀ h', FlyY base l e cls .none h' → s.heap.UpToSlots h' → Q () { s with heap := h' }) : wpAny M A (setFlight (.ref e) Option.none) Q E s := by
  obtain ⟨hkb, hen, hl, oe, vs, T, oT, ts, he, hcls, hd, h2, h1, hnT, hTe, hT, hdT, h3⟩ := x
  have hsz3 : 3 < ts.size := (Array.getElem?_eq_some_iff.mp h3).1
  have other : ∀ b, b ≠ T → (s.heap.update T (Obj.mapFields (·.setIfInBounds 3 ((Option.none : Option Addr).elim Value.none fun f => rawInt f)))).get? b = s.heap.get? b :=
    fun b hb => Heap.get?_update_other _ _ (Ne.symm hb)
  have noRecord : ∀ b o, s.heap.get? b = some o → (∀ vs, o.data ≠ .fields vs) → b ≠ T := fun b o hb hnf q => by
    rw [q, hT] at hb; injection hb with hb; subst hb; exact hnf ts hdT
  unfold setFlight
  refine wpAny_bind (wpAny_field he hd h1 ?_)
  rw [if_pos (show (Value.ref T != Value.none) = true from by simp)]
  refine wpAny_setField hT hdT hsz3 (h _ ⟨fun b o hbo => (other b fun q => by rw [q, hnT] at hbo; cases hbo).trans (hkb b o hbo), hen,
    hl.of_keeps fun b o hb hnf => ⟨o, (other b (noRecord b o hb hnf)).trans hb, rfl⟩, ?_⟩ fun b o hb hnf => ⟨o.slots, (other b (noRecord b o hb hnf)).trans hb⟩)
  exact ⟨oe, vs, T, _, _, (other e (Ne.symm hTe)).trans he, hcls, hd, h2, h1, hnT, hTe, Heap.get?_update_self _ hT (Obj.isFreed_of_fields (Obj.data_mapFields hdT _)), Obj.data_mapFields hdT _, by simp [hsz3]⟩
theorem FlyY.rest {base : Heap} {env : Env} {outer : List Env} {e : Addr} {cls fl : Value} {h : Heap} (x : FlyY base (env :: outer) e cls fl h) : FlyY base outer e cls fl h := ⟨x.stays, x.new, x.frames.2.2, x.tr⟩
theorem leaves_new {base h : Heap} {env : Env} {outer : List Env} {L e : Addr} {cls : Value} {args : List Value} {Q : Unit → Shared → Prop}
    (hfr : A.frames = some (env :: outer)) (hf : env.frame = some L) (hkb : base.StaysIn h) (hl : h.FunFrames base (env :: outer)) (hx : Heap.MadeExcOf h s.heap e cls args)
    (hQ : ∀ h', FlyY base outer e cls .none h' → h.UpToSlots h' → Q () { s with heap := h' }) : wpAny M A (leaving env (.ref e)) Q E s := by
  obtain ⟨t, he, htn, ht⟩ := hx.there
  have fresh : ∀ b, h.get? b = Option.none → base.get? b = Option.none := fun b hb => by
    cases hq : base.get? b with
    | none => rfl
    | some o' => have := hkb b o' hq; rw [hb] at this; cases this
  unfold leaving
  refine wpAny_bind (note_first hfr (hl.of_keeps fun b o hb zz => ⟨o, hx.keeps b o hb, rfl⟩) hf he (fun b o hb => hx.keeps b o (hkb b o hb)) (fresh e hx.new) rfl rfl ⟨rfl, rfl⟩ fun h' x1 u1 => ?_)
  exact flightY x1 fun h'' x2 u2 => hQ h'' x2.rest (((Heap.UpToSlots.of_keeps hx.keeps).trans u1).trans u2)
set_option tactic.hygienic true in
theorem leaves_on {base : Heap} {env : Env} {outer : List Env} {L e : Addr} {cls : Value} {Q : Unit → Shared → Prop}
    (hfr : A.frames = some (env :: outer)) (hf : env.frame = some L) (x : FlyY base (env :: outer) e cls .none s.heap)
    (hQ : ∀ h', FlyY base outer e cls .none h' → s.heap.UpToSlots h' → Q () { s with heap := h' }) : wpAny M A (leaving env (.ref e)) Q E s := by
  unfold leaving
  refine wpAny_bind (note_next hfr hf x fun h' x1 u1 => ?_)
  exact flightY x1 fun h'' x2 u2 => hQ h'' x2.rest (u1.trans u2)
end
end Mine
end
section
namespace Mine
open PySem
theorem entry_unchain : entryFor table "proto.unchain" = some Builtin.«proto.unchain» := entryFor_of_tree (by kernel_rfl)
section
variable {prog : Program} {w : World} {A : Around} {E : Value → Shared → Prop} {s : Shared}
theorem raise_over {α : Type} {e x : Addr} {o oe : Obj} {vs ws : Array Value} {Q : α → Shared → Prop} (hh : A.handled = some (.ref x)) (ne : x ≠ e) (ho : s.heap.get? x = some o) (hd : o.data = .fields vs) (h2 : vs[2]? = some .none)
    (he : s.heap.get? e = some oe) (hde : oe.data = .fields ws) (hz : 2 < ws.size) (h : E (.ref e) { s with heap := s.heap.update e (Obj.mapFields (·.setIfInBounds 2 (.ref x))) }) : wpAny (model prog w) A (raiseNew (.ref e) : Sem α) Q E s := by
  unfold raiseNew
  refine wpAny_bind (wpAny_handled ?_)
  rw [hh]
  dsimp only
  have q : (Value.ref x != Value.ref e) = true := by simp [ne]
  rw [if_pos q]
  refine wpAny_bind (wpAny_holding (wpAny_runValue (codeAny_builtin entry_unchain ?_)))
  unfold Builtin.«proto.unchain»
  refine wpAny_bind (wpAny_field ho hd h2 ?_)
  rw [if_pos (show ((Value.none == Value.none) = true) from by decide)]
  refine wpAny_bind (wpAny_pure (wpAny_pure ?_))
  unfold updateField
  refine wpAny_bind (wpAny_bind (wpAny_load he ?_))
  rw [hde]
  dsimp only
  rw [if_pos hz]
  exact wpAny_update he (wpAny_throw h)
theorem range_end {it : Addr} {y left step : Int} {Q : Option Value → Shared → Prop} {hx : Option Addr} (hh : A.handled = hx.map Value.ref) (hxo : ∀ x, hx = some x → ∃ o vs, s.heap.get? x = some o ∧ o.data = .fields vs ∧ vs[2]? = some Value.none)
    (hit : IsRangeIter s.heap it y left step) (hleft : left ≤ 0) (hQ : ∀ h', Heap.ExtBut it s.heap h' → Q Option.none { s with heap := h' }) : wpAny (model prog w) A (pyNext (.ref it)) Q E s := by
  cases hx with
  | none => exact wpAny_pyNext_range_end hh hit hleft hQ
  | some x =>
  obtain ⟨o, vs, ho, hd, h2⟩ := hxo x rfl
  have hT : s.TypeIs (.ref it) "range_iterator" := ⟨_, hit, rfl⟩
  unfold pyNext
  refine wpAny_bind (wpAny_attempt (wpAny_callSpecial?_slot (name := Str.ofString "__next__") hT F.slot_range_iterator_next
    (wpAny_call_entry F.slot_range_iterator_next hT F.entry_range_iterator_next ?_ (F.args_range_iterator_next_1 _))))
  show wpAny _ _ (field (.ref it) 0 >>= _) _ _ s
  refine wpAny_bind (wpAny_field hit rfl (x := rawInt y) rfl ?_)
  show wpAny _ _ (field (.ref it) 1 >>= _) _ _ s
  refine wpAny_bind (wpAny_field hit rfl (x := rawInt left) rfl ?_)
  show wpAny _ _ (field (.ref it) 2 >>= _) _ _ s
  refine wpAny_bind (wpAny_field hit rfl (x := rawInt step) rfl ?_)
  show wpAny _ _ (if left ≤ 0 then _ else _) _ _ s
  rw [if_pos hleft]
  refine wpAny_bind (wpAny_rule ?_)
  refine wpAny_bind ?_
  show wpAny _ _ (newExc (.type "StopIteration") [] >>= _) _ _ _
  refine wpAny_bind ?_
  simp only [newExc, newTuple]
  refine wpAny_bind (wpAny_newObj_type ?_ (by size_fits))
  refine wpAny_bind (m := firstArgMember _ _) (wpAny_of_eq (a := Value.none) (by first | rfl | (simp only [firstArgMember]; rfl)) ?_)
  refine wpAny_newObj_type ?_ (by size_fits)
  have lx : x < s.heap.objs.size := Heap.lt_size ho
  refine raise_over (x := x) (o := o) (vs := vs) (hh := hh) ?_ (Heap.get?_push_of_some _ (Heap.get?_push_of_some _ ho)) hd h2 (Heap.get?_push_size _ rfl) rfl (by first | decide | (simp [ownMembersOf]; done)) ?_
  · rw [Heap.size_push]; exact Nat.ne_of_lt (Nat.lt_succ_of_lt lx)
  refine wpAny_bind (wpAny_isInstance (T := "StopIteration") (b := true) ⟨_, Heap.get?_update_self _ (Heap.get?_push_size _ rfl) rfl, rfl⟩ isSubtype_stop ?_)
  refine wpAny_pure (hQ _ fun b ob ne e => ?_)
  have lb : b < s.heap.objs.size := Heap.lt_size e
  rw [Heap.get?_update_other _ _ (by rw [Heap.size_push]; exact Nat.ne_of_gt (Nat.lt_succ_of_lt lb))]
  exact Heap.get?_push_of_some _ (Heap.get?_push_of_some _ e)
end
end Mine
end
section
namespace Mine
open PySem
noncomputable abbrev Spot := Int × Int
inductive AV where
  | none
  | bool (b : Bool)
  | int (i : Int)
  | str (s : Str)
  | tup (l : List AV)
  | list (l : List AV)
  | dict (l : List (Spot × AV))
  | inst (fs : List (Str × AV))
  | loc (a : Addr)
  | exc (c : Nat)
  | range (a b c : Int)
  | nums (l : List Int)
  | cls (c : Nat)
  deriving Inhabited
inductive AObj where
  | list (l : List AV)
  | dict (l : List (Spot × AV))
  | inst (dx : Addr)
  | attrs (fs : List (Str × AV))
noncomputable abbrev Store := Addr → Option AObj
noncomputable def Dom (σ : Store) (a : Addr) : Prop := σ a ≠ Option.none
noncomputable def Store.set (σ : Store) (a : Addr) (o : AObj) : Store := fun b => if b = a then some o else σ b
noncomputable def Store.del (σ : Store) (a : Addr) : Store := fun b => if b = a then Option.none else σ b
theorem Store.set_self (σ : Store) (a : Addr) (o : AObj) : (σ.set a o) a = some o := if_pos rfl
theorem Store.set_ne (σ : Store) {a b : Addr} (o : AObj) (h : b ≠ a) : (σ.set a o) b = σ b := if_neg h
noncomputable def spotHash (k : Spot) : Int := reduceHash (Builtin.Tuple.tupleHashOf [hashInt k.1, hashInt k.2])
noncomputable abbrev tupObj (vs : Array Value) (n : Nat) : Obj := { cls := .type "tuple", data := .seq vs n }
noncomputable abbrev lstObj (vs : Array Value) (n : Nat) : Obj := { cls := .type "list", data := .seq vs n }
noncomputable abbrev rngObj (a b c : Int) (t u v : Tok) : Obj := { cls := .type "range", data := .fields #[.int a t, .int b u, .int c v] }
noncomputable abbrev dctObj (es : Array DictEntry) (n : Nat) : Obj := { cls := .type "dict", data := .dict es n }
noncomputable abbrev insObj (C : Value) (dx : Addr) : Obj := { cls := C, dict := some dx, data := .plain }
noncomputable abbrev floorG : Nat := 29
variable {cv : Nat → Value}
mutual
inductive Rep (cv : Nat → Value) (h : Heap) (D : Addr → Prop) : AV → Value → Prop
  | none : Rep cv h D .none .none
  | bool (b : Bool) : Rep cv h D (.bool b) (.bool b)
  | int (i : Int) (t : Tok) : Rep cv h D (.int i) (.int i t)
  | str (s : Str) (t : Tok) : Rep cv h D (.str s) (.str s t)
  | tup {l : List AV} {a : Addr} {vs : List Value} {n : Nat} : h.get? a = some (tupObj vs.toArray n) → ¬ D a → RepL cv h D l vs → Rep cv h D (.tup l) (.ref a)
  | list {l : List AV} {a : Addr} {vs : List Value} {n : Nat} : h.get? a = some (lstObj vs.toArray n) → ¬ D a → RepL cv h D l vs → Rep cv h D (.list l) (.ref a)
  | dict {l : List (Spot × AV)} {a : Addr} {es : List DictEntry} {n : Nat} : h.get? a = some (dctObj es.toArray n) → ¬ D a → (a == sysModules) = false → (l.map (·.1)).Nodup → RepD cv h D l es → Rep cv h D (.dict l) (.ref a)
  | inst {fs : List (Str × AV)} {a dx : Addr} {es : List DictEntry} {n : Nat} : h.get? a = some (insObj (cv floorG) dx) → (∃ C, cv floorG = .ref C) → h.get? dx = some (dctObj es.toArray n) → ¬ D a → ¬ D dx → RepF cv h D fs es → Rep cv h D (.inst fs) (.ref a)
  | loc (a : Addr) : Rep cv h D (.loc a) (.ref a)
  | exc {c : Nat} {a : Addr} {o : Obj} : h.get? a = some o → o.cls = cv c → ((∃ vs, o.data = .fields vs) ∧ o.dict = Option.none) → ¬ D a → (∃ C, cv c = .ref C) → Rep cv h D (.exc c) (.ref a)
  | range {a b c : Int} {r : Addr} {t u v : Tok} : h.get? r = some (rngObj a b c t u v) → ¬ D r → Rep cv h D (.range a b c) (.ref r)
  | cls (c : Nat) : Rep cv h D (.cls c) (cv c)
  | nums {l : List Int} {a : Addr} {o : Obj} {vs : List Value} {n : Nat} : h.get? a = some o → o.cls = .type "list" → o.data = .seq vs.toArray n → ¬ D a → (vs.length = l.length ∧ ∀ (i : Nat) (x : Int), l[i]? = some x → ∃ t, vs[i]? = some (.int x t)) → Rep cv h D (.nums l) (.ref a)
inductive RepL (cv : Nat → Value) (h : Heap) (D : Addr → Prop) : List AV → List Value → Prop
  | nil : RepL cv h D [] []
  | cons {x : AV} {v : Value} {l : List AV} {vs : List Value} : Rep cv h D x v → RepL cv h D l vs → RepL cv h D (x :: l) (v :: vs)
inductive RepD (cv : Nat → Value) (h : Heap) (D : Addr → Prop) : List (Spot × AV) → List DictEntry → Prop
  | nil : RepD cv h D [] []
  | cons {k : Spot} {x : AV} {l : List (Spot × AV)} {t : Addr} {tx ty : Tok} {n : Nat} {v : Value} {es : List DictEntry} :
      h.get? t = some (tupObj #[.int k.1 tx, .int k.2 ty] n) → ¬ D t → Rep cv h D x v → RepD cv h D l es → RepD cv h D ((k, x) :: l) (⟨spotHash k, .ref t, v⟩ :: es)
inductive RepF (cv : Nat → Value) (h : Heap) (D : Addr → Prop) : List (Str × AV) → List DictEntry → Prop
  | nil : RepF cv h D [] []
  | cons {n : Str} {x : AV} {l : List (Str × AV)} {hsh : Int} {t : Tok} {v : Value} {es : List DictEntry} :
      Rep cv h D x v → RepF cv h D l es → RepF cv h D ((n, x) :: l) (⟨hsh, .str n t, v⟩ :: es)
end
theorem no_some {α : Type} {x : Option α} {o : α} (q : x = Option.none) (e : x = some o) : False := by rw [q] at e; cases e
structure Ext (D : Addr → Prop) (h h' : Heap) : Prop where
  obj : ∀ b o, h.get? b = some o → ¬ D b → h'.get? b = some o
theorem Ext.refl (D : Addr → Prop) (h : Heap) : Ext D h h := ⟨fun zz zz e zz => e⟩
theorem Ext.of_keeps {D : Addr → Prop} {h h' : Heap} (k : ∀ b o, h.get? b = some o → h'.get? b = some o) : Ext D h h' := ⟨fun b o e zz => k b o e⟩
theorem Ext.of_but {D : Addr → Prop} {h h' : Heap} (k : ∀ b o, ¬ D b → h.get? b = some o → h'.get? b = some o) : Ext D h h' := ⟨fun b o e d => k b o d e⟩
theorem Ext.trans {D D' : Addr → Prop} {h h' h'' : Heap} (x : Ext D h h') (y : Ext D' h' h'') (hD : ∀ b, D' b → D b ∨ h.get? b = Option.none) : Ext D h h'' :=
  ⟨fun b o e d => y.obj b o (x.obj b o e d) fun d' => (hD b d').elim d fun q => no_some q e⟩
noncomputable def RepV (cv : Nat → Value) (h : Heap) (D : Addr → Prop) (a : AV) (v : Value) : Prop := match a with
  | .none => v = .none
  | .bool b => v = .bool b
  | .int i => ∃ t, v = .int i t
  | .str s => ∃ t, v = .str s t
  | .tup l => ∃ a vs n, v = .ref a ∧ h.get? a = some (tupObj (List.toArray vs) n) ∧ ¬ D a ∧ RepL cv h D l vs
  | .list l => ∃ a vs n, v = .ref a ∧ h.get? a = some (lstObj (List.toArray vs) n) ∧ ¬ D a ∧ RepL cv h D l vs
  | .dict l => ∃ a es n, v = .ref a ∧ h.get? a = some (dctObj (List.toArray es) n) ∧ ¬ D a ∧ (a == sysModules) = false ∧ (l.map (·.1)).Nodup ∧ RepD cv h D l es
  | .inst fs => ∃ a dx es n, v = .ref a ∧ h.get? a = some (insObj (cv floorG) dx) ∧ (∃ C, cv floorG = .ref C) ∧ h.get? dx = some (dctObj (List.toArray es) n) ∧ ¬ D a ∧ ¬ D dx ∧ RepF cv h D fs es
  | .loc a => v = .ref a
  | .exc c => ∃ a o, v = .ref a ∧ h.get? a = some o ∧ o.cls = cv c ∧ ((∃ vs, o.data = .fields vs) ∧ o.dict = Option.none) ∧ ¬ D a ∧ (∃ C, cv c = .ref C)
  | .range a b c => ∃ r t u w, v = .ref r ∧ h.get? r = some (rngObj a b c t u w) ∧ ¬ D r
  | .cls c => v = cv c
  | .nums l => ∃ a o vs n, v = .ref a ∧ h.get? a = some o ∧ o.cls = .type "list" ∧ o.data = .seq (List.toArray vs) n ∧ ¬ D a ∧ (vs.length = l.length ∧ ∀ (i : Nat) (x : Int), l[i]? = some x → ∃ t, vs[i]? = some (.int x t))
theorem Rep.inv {h : Heap} {D : Addr → Prop} {a : AV} {v : Value} (r : Rep cv h D a v) : RepV cv h D a v := by
  induction r using Rep.casesOn with
  | none => exact rfl
  | bool b => exact rfl
  | int i t => exact ⟨t, rfl⟩
  | str s t => exact ⟨t, rfl⟩
  | tup a b c => exact ⟨_, _, _, rfl, a, b, c⟩
  | list a b c => exact ⟨_, _, _, rfl, a, b, c⟩
  | dict a b c d e => exact ⟨_, _, _, rfl, a, b, c, d, e⟩
  | inst a b c d e f => exact ⟨_, _, _, _, rfl, a, b, c, d, e, f⟩
  | loc a => exact rfl
  | exc a b c d e => exact ⟨_, _, rfl, a, b, c, d, e⟩
  | range a b => exact ⟨_, _, _, _, rfl, a, b⟩
  | cls c => exact rfl
  | nums a b c d e => exact ⟨_, _, _, _, rfl, a, b, c, d, e⟩
noncomputable def RepLV (cv : Nat → Value) (h : Heap) (D : Addr → Prop) (l : List AV) (vs : List Value) : Prop := match l with
  | [] => vs = []
  | x :: l => ∃ v r, vs = v :: r ∧ Rep cv h D x v ∧ RepL cv h D l r
theorem RepL.inv {h : Heap} {D : Addr → Prop} {l : List AV} {vs : List Value} (r : RepL cv h D l vs) : RepLV cv h D l vs := by
  induction r using RepL.casesOn with
  | nil => exact rfl
  | cons a b => exact ⟨_, _, rfl, a, b⟩
noncomputable def RepDV (cv : Nat → Value) (h : Heap) (D : Addr → Prop) (l : List (Spot × AV)) (es : List DictEntry) : Prop := match l with
  | [] => es = []
  | p :: l => ∃ t tx ty n v r, es = ⟨spotHash p.1, .ref t, v⟩ :: r ∧ h.get? t = some (tupObj #[.int p.1.1 tx, .int p.1.2 ty] n) ∧ ¬ D t ∧ Rep cv h D p.2 v ∧ RepD cv h D l r
theorem RepD.inv {h : Heap} {D : Addr → Prop} {l : List (Spot × AV)} {es : List DictEntry} (r : RepD cv h D l es) : RepDV cv h D l es := by
  induction r using RepD.casesOn with
  | nil => exact rfl
  | cons a b c d => exact ⟨_, _, _, _, _, _, rfl, a, b, c, d⟩
noncomputable def RepFV (cv : Nat → Value) (h : Heap) (D : Addr → Prop) (l : List (Str × AV)) (es : List DictEntry) : Prop := match l with
  | [] => es = []
  | p :: l => ∃ hsh t v r, es = ⟨hsh, .str p.1 t, v⟩ :: r ∧ Rep cv h D p.2 v ∧ RepF cv h D l r
theorem RepF.inv {h : Heap} {D : Addr → Prop} {l : List (Str × AV)} {es : List DictEntry} (r : RepF cv h D l es) : RepFV cv h D l es := by
  induction r using RepF.casesOn with
  | nil => exact rfl
  | cons a b => exact ⟨_, _, _, _, rfl, a, b⟩
noncomputable def ItObj (o : Obj) : Prop := (∃ T, o.cls = .type T ∧ T ≠ "frame" ∧ T ≠ "range") ∧ ∃ vs, o.data = .fields vs
theorem hard_seq {o : Obj} (hd : ∀ vs, o.data ≠ .fields vs) : ¬ ItObj o := fun q => q.2.elim hd
theorem hard_tup {vs : Array Value} {n : Nat} : ¬ ItObj (tupObj vs n) := hard_seq fun zz h => by cases h
theorem hard_lst {vs : Array Value} {n : Nat} : ¬ ItObj (lstObj vs n) := hard_seq fun zz h => by cases h
theorem hard_dct {vs : Array DictEntry} {n : Nat} : ¬ ItObj (dctObj vs n) := hard_seq fun zz h => by cases h
theorem hard_ins {C : Value} {dx : Addr} : ¬ ItObj (insObj C dx) := hard_seq fun zz h => by cases h
theorem hard_rng {a b c : Int} {t u v : Tok} : ¬ ItObj (rngObj a b c t u v) := fun q => by
  obtain ⟨⟨T, hT, _, hn⟩, _⟩ := q
  exact hn (Value.type.inj hT).symm
theorem hard_exc {o : Obj} {v : Value} (c : o.cls = v) (n : ∃ C, v = .ref C) : ¬ ItObj o := fun q => by
  obtain ⟨⟨T, hT, _⟩, _⟩ := q
  obtain ⟨C, hC⟩ := n
  rw [hT, hC] at c; cases c
theorem hard_num {o : Obj} {vs : Array Value} {n : Nat} (f : o.data = .seq vs n) : ¬ ItObj o := hard_seq fun zz h => by rw [f] at h; cases h
section
variable {D D' : Addr → Prop} {h h' : Heap} (k : ∀ b o, h.get? b = some o → ¬ ItObj o → ¬ D b → h'.get? b = some o ∧ ¬ D' b)
include k
theorem Rep.turn {av : AV} {v : Value} (r : Rep cv h D av v) : Rep cv h' D' av v :=
  Rep.rec (motive_1 := fun a v zz => Rep cv h' D' a v) (motive_2 := fun l vs zz => RepL cv h' D' l vs) (motive_3 := fun l es zz => RepD cv h' D' l es) (motive_4 := fun l es zz => RepF cv h' D' l es)
    .none .bool .int .str (fun e d zz r => .tup (k _ _ e hard_tup d).1 (k _ _ e hard_tup d).2 r) (fun e d zz r => .list (k _ _ e hard_lst d).1 (k _ _ e hard_lst d).2 r) (fun e d sm n zz r => .dict (k _ _ e hard_dct d).1 (k _ _ e hard_dct d).2 sm n r)
    (fun e nf f d d₂ zz r => .inst (k _ _ e hard_ins d).1 nf (k _ _ f hard_dct d₂).1 (k _ _ e hard_ins d).2 (k _ _ f hard_dct d₂).2 r) .loc (fun e c f d n => .exc (k _ _ e (hard_exc c n) d).1 c f (k _ _ e (hard_exc c n) d).2 n)
    (fun e d => .range (k _ _ e hard_rng d).1 (k _ _ e hard_rng d).2) .cls (fun e c f d r => .nums (k _ _ e (hard_num f) d).1 c f (k _ _ e (hard_num f) d).2 r)
    .nil (fun zz zz r rs => .cons r rs) .nil (fun e d zz zz r rs => .cons (k _ _ e hard_tup d).1 (k _ _ e hard_tup d).2 r rs) .nil (fun zz zz r rs => .cons r rs) r
theorem RepL.turn {av : List AV} {v : List Value} (r : RepL cv h D av v) : RepL cv h' D' av v := by
  induction av generalizing v with
  | nil => rw [show v = [] from r.inv]; exact .nil
  | cons x l ih => obtain ⟨u, us, e, a, b⟩ := r.inv; rw [e]; exact .cons (a.turn k) (ih b)
theorem RepD.turn {av : List (Spot × AV)} {v : List DictEntry} (r : RepD cv h D av v) : RepD cv h' D' av v := by
  induction av generalizing v with
  | nil => rw [show v = [] from r.inv]; exact .nil
  | cons x l ih => obtain ⟨t, tx, ty, n, u, us, e, a, b, c, d⟩ := r.inv; rw [e]; exact .cons (k _ _ a hard_tup b).1 (k _ _ a hard_tup b).2 (c.turn k) (ih d)
theorem RepF.turn {av : List (Str × AV)} {v : List DictEntry} (r : RepF cv h D av v) : RepF cv h' D' av v := by
  induction av generalizing v with
  | nil => rw [show v = [] from r.inv]; exact .nil
  | cons x l ih => obtain ⟨t, u, us, rr, e, a, b⟩ := r.inv; rw [e]; exact .cons (a.turn k) (ih b)
end
theorem Ext.turn {D D' : Addr → Prop} {h h' : Heap} (x : Ext D h h') (hD : ∀ b, D' b → D b ∨ h.get? b = Option.none) (b : Addr) (o : Obj) (e : h.get? b = some o) (zz : ¬ ItObj o) (d : ¬ D b) : h'.get? b = some o ∧ ¬ D' b :=
  ⟨x.obj b o e d, fun q => (hD b q).elim d fun q => no_some q e⟩
theorem Rep.ext {D D' : Addr → Prop} {h h' : Heap} (x : Ext D h h') (hD : ∀ b, D' b → D b ∨ h.get? b = Option.none) {av : AV} {v : Value} (r : Rep cv h D av v) : Rep cv h' D' av v := r.turn (x.turn hD)
theorem RepL.ext {D D' : Addr → Prop} {h h' : Heap} (x : Ext D h h') (hD : ∀ b, D' b → D b ∨ h.get? b = Option.none) {av : List AV} {v : List Value} (r : RepL cv h D av v) : RepL cv h' D' av v := r.turn (x.turn hD)
theorem RepD.ext {D D' : Addr → Prop} {h h' : Heap} (x : Ext D h h') (hD : ∀ b, D' b → D b ∨ h.get? b = Option.none) {av : List (Spot × AV)} {v : List DictEntry} (r : RepD cv h D av v) : RepD cv h' D' av v := r.turn (x.turn hD)
theorem RepF.ext {D D' : Addr → Prop} {h h' : Heap} (x : Ext D h h') (hD : ∀ b, D' b → D b ∨ h.get? b = Option.none) {av : List (Str × AV)} {v : List DictEntry} (r : RepF cv h D av v) : RepF cv h' D' av v := r.turn (x.turn hD)
inductive RepO (cv : Nat → Value) (h : Heap) (D : Addr → Prop) : AObj → Addr → Prop
  | list {l : List AV} {a : Addr} {vs : List Value} {n : Nat} : h.get? a = some (lstObj vs.toArray n) → RepL cv h D l vs → RepO cv h D (.list l) a
  | dict {l : List (Spot × AV)} {a : Addr} {es : List DictEntry} {n : Nat} : h.get? a = some (dctObj es.toArray n) → (a == sysModules) = false → (l.map (·.1)).Nodup → RepD cv h D l es → RepO cv h D (.dict l) a
  | inst {dx a : Addr} : h.get? a = some (insObj (cv floorG) dx) → (∃ C, cv floorG = .ref C) → RepO cv h D (.inst dx) a
  | attrs {fs : List (Str × AV)} {a : Addr} {es : List DictEntry} {n : Nat} : h.get? a = some (dctObj es.toArray n) → RepF cv h D fs es → RepO cv h D (.attrs fs) a
noncomputable def RepOV (cv : Nat → Value) (h : Heap) (D : Addr → Prop) (o : AObj) (a : Addr) : Prop := match o with
  | .list l => ∃ vs n, h.get? a = some (lstObj (List.toArray vs) n) ∧ RepL cv h D l vs
  | .dict l => ∃ es n, h.get? a = some (dctObj (List.toArray es) n) ∧ (a == sysModules) = false ∧ (l.map (·.1)).Nodup ∧ RepD cv h D l es
  | .inst dx => h.get? a = some (insObj (cv floorG) dx) ∧ (∃ C, cv floorG = .ref C)
  | .attrs fs => ∃ es n, h.get? a = some (dctObj (List.toArray es) n) ∧ RepF cv h D fs es
theorem RepO.inv {h : Heap} {D : Addr → Prop} {o : AObj} {a : Addr} (r : RepO cv h D o a) : RepOV cv h D o a := by
  induction r with
  | list a b => exact ⟨_, _, a, b⟩
  | dict a b c d => exact ⟨_, _, a, b, c, d⟩
  | inst a b => exact ⟨a, b⟩
  | attrs a b => exact ⟨_, _, a, b⟩
theorem RepO.there {h : Heap} {D : Addr → Prop} {o : AObj} {a : Addr} (r : RepO cv h D o a) : ∃ ob, h.get? a = some ob ∧ ob.cls ≠ .type "frame" := by
  induction r with
  | list e _ => exact ⟨_, e, by show Value.type "list" ≠ .type "frame"; decide⟩
  | dict e _ _ _ => exact ⟨_, e, by show Value.type "dict" ≠ .type "frame"; decide⟩
  | inst e nf => exact ⟨_, e, by obtain ⟨C, q⟩ := nf; show cv floorG ≠ _; rw [q]; exact nofun⟩
  | attrs e _ => exact ⟨_, e, by show Value.type "dict" ≠ .type "frame"; decide⟩
set_option genInjectivity false in
structure Sta (prog : Program) (w : World) where
  cv : Nat → Value
  g : Heap
  K : W.Frag
  X : K.In g
  gens : Array GenState
  drawn : Drawn
  os : OsState
  mg : Str → Option Value
  mb : Str → Option Value
  ng : g.Ns mainGlobals mg
  nb : g.Ns builtinsNs mb
  lim : g.NoLimit
  sm : ∃ o, g.get? sysModules = some o
  hx : Option Addr
  hxo : ∀ x, hx = some x → ∃ o vs, g.get? x = some o ∧ o.data = .fields vs ∧ vs[2]? = some Value.none
theorem Ext.mono {D D' : Addr → Prop} {h h' : Heap} (x : Ext D h h') (k : ∀ a, D a → D' a) : Ext D' h h' := ⟨fun b o e d => x.obj b o e fun q => d (k b q)⟩
noncomputable def DN (N : Addr → Prop) (σ : Store) (a : Addr) : Prop := Dom σ a ∨ N a
noncomputable def Own (env : Env) (a : Addr) : Prop := a = env.locals ∨ ∃ x, env.cells.lookup x = some a
noncomputable abbrev LocAt (cv : Nat → Value) (h : Heap) (D : Addr → Prop) (mc cm : Str → Option Value) (cells : List (Str × Addr)) (k : Option NameKind) (x : Str) (av : AV) : Prop := match k with
  | some .local => ∃ v, mc x = some v ∧ Rep cv h D av v
  | some .cell | some .free => ∃ v c, cells.lookup x = some c ∧ cm x = some v ∧ Rep cv h D av v
  | _ => True
theorem LocAt.map {h h' : Heap} {D D' : Addr → Prop} {mc cm mc' cm' : Str → Option Value} {cells : List (Str × Addr)} {k : Option NameKind} {x : Str} {av : AV} (l : LocAt cv h D mc cm cells k x av) (r : ∀ {v}, Rep cv h D av v → Rep cv h' D' av v) (h1 : ∀ v, mc x = some v → mc' x = some v) (h2 : ∀ v, cm x = some v → cm' x = some v) : LocAt cv h' D' mc' cm' cells k x av := by
  cases k with
  | none => exact trivial
  | some k =>
    cases k with
    | «local» => obtain ⟨v, a, b⟩ := l; exact ⟨v, h1 v a, r b⟩
    | cell => obtain ⟨v, c, a, b, d⟩ := l; exact ⟨v, c, a, h2 v b, r d⟩
    | free => obtain ⟨v, c, a, b, d⟩ := l; exact ⟨v, c, a, h2 v b, r d⟩
    | _ => exact trivial
inductive Loc (cv : Nat → Value) (g : Heap) (tb : List Nat) (env : Env) (m : Nat → Option AV) (N : Addr → Prop) (σ : Store) (h : Heap) : Prop
  | mk (mc cm : Str → Option Value) (ns : h.Ns env.locals mc) (cell : ∀ x c, env.cells.lookup x = some c → h.IsCell c (cm x)) (own : ∀ a, Own env a → ¬ Dom σ a ∧ g.get? a = Option.none)
    (apart : ∀ x y c, env.cells.lookup x = some c → env.cells.lookup y = some c → x = y) (cl : ∀ x c, env.cells.lookup x = some c → c ≠ env.locals)
    (names : ∀ x i av, ixS tb x = some i → m i = some av → LocAt cv h (DN N σ) mc cm env.cells (env.kindOf x) x av) : Loc cv g tb env m N σ h
structure Step (P O : Addr → Prop) (σ : Store) (s : Shared) (σ' : Store) (s' : Shared) : Prop where
  ext : Ext (fun a => Dom σ a ∨ O a ∨ P a) s.heap s'.heap
  frm : ∀ b o, s.heap.get? b = some o → P b → ¬ O b → ¬ Dom σ b → ∃ o', s'.heap.get? b = some o' ∧ o'.cls = o.cls ∧ o'.data = o.data ∧ o'.dict = o.dict
  dom : ∀ b, Dom σ' b → Dom σ b ∨ s.heap.get? b = Option.none
  there : ∀ b o, s.heap.get? b = some o → ∃ o', s'.heap.get? b = some o'
noncomputable abbrev noO : Addr → Prop := fun zz => False
theorem Step.there' {P O : Addr → Prop} {σ σ' : Store} {s s' : Shared} (x : Step P O σ s σ' s') {b : Addr} {o : Obj} (e : s.heap.get? b = some o) (d : ¬ Dom σ b) (ho : ¬ O b) : ∃ o', s'.heap.get? b = some o' ∧ o'.cls = o.cls ∧ o'.data = o.data ∧ o'.dict = o.dict := by
  by_cases f : P b
  · exact x.frm b o e f ho d
  · exact ⟨o, x.ext.obj b o e fun q => q.elim d fun q => q.elim ho f, rfl, rfl, rfl⟩
theorem Step.of_keeps {P O : Addr → Prop} {σ σ' : Store} {s s' : Shared} (k : ∀ b o, s.heap.get? b = some o → s'.heap.get? b = some o) (d : ∀ b, Dom σ' b → Dom σ b ∨ s.heap.get? b = Option.none) : Step P O σ s σ' s' :=
  ⟨Ext.of_keeps k, fun b o e zz zz zz => ⟨o, k b o e, rfl, rfl, rfl⟩, d, fun b o e => ⟨o, k b o e⟩⟩
theorem Step.of_but {P O : Addr → Prop} {σ σ' : Store} {s s' : Shared} (k : ∀ b o, ¬ Dom σ b → ¬ O b → s.heap.get? b = some o → s'.heap.get? b = some o) (d : ∀ b, Dom σ' b → Dom σ b ∨ s.heap.get? b = Option.none)
    (t : ∀ b o, s.heap.get? b = some o → ∃ o', s'.heap.get? b = some o') : Step P O σ s σ' s' :=
  ⟨Ext.of_but fun b o q e => k b o (fun z => q (.inl z)) (fun z => q (.inr (.inl z))) e, fun b o e zz n dd => ⟨o, k b o dd n e, rfl, rfl, rfl⟩, d, t⟩
theorem Step.over {P O : Addr → Prop} {σ₀ σ : Store} {s₀ s s' : Shared} (z : Step P O σ₀ s₀ σ s) (k : ∀ a, (∃ o, s₀.heap.get? a = some o) → ∀ o, s.heap.get? a = some o → s'.heap.get? a = some o) : Step P O σ₀ s₀ σ s' :=
  ⟨⟨fun a o e d => k a ⟨o, e⟩ o (z.ext.obj a o e d)⟩, fun a o e d f g => by
    obtain ⟨o', e', r⟩ := z.frm a o e d f g
    exact ⟨o', k a ⟨o, e⟩ o' e', r⟩, z.dom, fun a o e => by
    obtain ⟨o', e'⟩ := z.there a o e
    exact ⟨o', k a ⟨o, e⟩ o' e'⟩⟩
theorem Step.refl (P O : Addr → Prop) (σ : Store) (s : Shared) : Step P O σ s σ s := Step.of_keeps (fun zz zz e => e) fun zz h => .inl h
theorem Step.toks (P O : Addr → Prop) (σ : Store) (s : Shared) (t : Nat) : Step P O σ s σ { s with toks := t } := Step.of_keeps (fun zz zz e => e) fun zz h => .inl h
theorem Step.new {P O : Addr → Prop} {σ σ₁ : Store} {s s₁ : Shared} (x : Step P O σ s σ₁ s₁) {b : Addr} (e : s₁.heap.get? b = Option.none) : s.heap.get? b = Option.none := by
  cases q : s.heap.get? b with
  | none => rfl
  | some o => obtain ⟨o', e'⟩ := x.there b o q; rw [e] at e'; cases e'
theorem Step.ndom {P O : Addr → Prop} {σ σ₁ : Store} {s s₁ : Shared} (x : Step P O σ s σ₁ s₁) {b : Addr} {o : Obj} (e : s.heap.get? b = some o) (d : ¬ Dom σ b) : ¬ Dom σ₁ b := fun q => (x.dom b q).elim d fun z => no_some z e
theorem Step.trans {P O : Addr → Prop} {σ σ₁ σ₂ : Store} {s s₁ s₂ : Shared} (x : Step P O σ s σ₁ s₁) (y : Step P O σ₁ s₁ σ₂ s₂) : Step P O σ s σ₂ s₂ :=
  ⟨x.ext.trans y.ext fun b h => h.elim (fun h => (x.dom b h).imp .inl id) fun h => .inl (.inr h), fun b o e n ho d => by
      obtain ⟨o', e', c', d', i'⟩ := x.frm b o e n ho d
      obtain ⟨o'', e'', c'', d'', i''⟩ := y.frm b o' e' n ho (x.ndom e d)
      exact ⟨o'', e'', c''.trans c', d''.trans d', i''.trans i'⟩,
    fun b h => (y.dom b h).elim (x.dom b) fun q => .inr (x.new q),
    fun b o e => by obtain ⟨o', e'⟩ := x.there b o e; exact y.there b o' e'⟩
theorem Step.mono {P O O' : Addr → Prop} {σ σ₁ : Store} {s s₁ : Shared} (x : Step P O σ s σ₁ s₁) (k : ∀ a, O a → O' a) : Step P O' σ s σ₁ s₁ :=
  ⟨x.ext.mono fun a h => h.imp id fun h => h.imp (k a) id, fun b o e n ho d => x.frm b o e n (fun q => ho (k b q)) d, x.dom, x.there⟩
theorem Step.wide {P P' O : Addr → Prop} {σ σ₁ : Store} {s s₁ : Shared} (x : Step P O σ s σ₁ s₁) (k : ∀ a, P a → P' a) : Step P' O σ s σ₁ s₁ :=
  ⟨x.ext.mono fun a h => h.imp id fun h => h.imp id (k a), fun b o e zz ho d => x.there' e d ho, x.dom, x.there⟩
theorem Step.narrow {P P' O : Addr → Prop} {σ σ₁ : Store} {s s₁ : Shared} (x : Step P' O σ s σ₁ s₁) (k : ∀ a, P' a → P a ∨ s.heap.get? a = Option.none) : Step P O σ s σ₁ s₁ :=
  ⟨⟨fun b o e d => x.ext.obj b o e fun q => q.elim (fun q => d (.inl q)) fun q => q.elim (fun q => d (.inr (.inl q))) fun q => (k b q).elim (fun q => d (.inr (.inr q))) fun q => no_some q e⟩, fun b o e zz ho d => x.there' e d ho, x.dom, x.there⟩
theorem Step.out {P O : Addr → Prop} {σ σ₁ σ₂ : Store} {s s₁ s₂ : Shared} (x : Step P noO σ s σ₁ s₁) (y : Step P O σ₁ s₁ σ₂ s₂) (hO : ∀ a, O a → s.heap.get? a = Option.none) : Step P noO σ s σ₂ s₂ :=
  ⟨x.ext.trans y.ext fun b h => h.elim (fun h => (x.dom b h).imp .inl id) fun h => h.elim (fun h => .inr (hO b h)) fun h => .inl (.inr (.inr h)), fun b o e n zz d => by
      obtain ⟨o', e', c', d', i'⟩ := x.frm b o e n id d
      obtain ⟨o'', e'', c'', d'', i''⟩ := y.there' e' (x.ndom e d) fun q => by rw [hO b q] at e; cases e
      exact ⟨o'', e'', c''.trans c', d''.trans d', i''.trans i'⟩,
    fun b h => (y.dom b h).elim (x.dom b) fun q => .inr (x.new q),
    fun b o e => by obtain ⟨o', e'⟩ := x.there b o e; exact y.there b o' e'⟩
theorem Rep.step {P O N : Addr → Prop} {σ σ' : Store} {s s' : Shared} (x : Step P O σ s σ' s') (hO : ∀ a, O a → N a) (hP : ∀ a, P a → N a) {av : AV} {v : Value} (r : Rep cv s.heap (DN N σ) av v) : Rep cv s'.heap (DN N σ') av v :=
  r.ext (x.ext.mono fun a h => h.imp id fun h => h.elim (hO a) (hP a)) fun b h => h.elim (fun h => (x.dom b h).imp .inl id) fun h => .inl (.inr h)
theorem RepL.step {P O N : Addr → Prop} {σ σ' : Store} {s s' : Shared} (x : Step P O σ s σ' s') (hO : ∀ a, O a → N a) (hP : ∀ a, P a → N a) {av : List AV} {v : List Value} (r : RepL cv s.heap (DN N σ) av v) : RepL cv s'.heap (DN N σ') av v :=
  r.ext (x.ext.mono fun a h => h.imp id fun h => h.elim (hO a) (hP a)) fun b h => h.elim (fun h => (x.dom b h).imp .inl id) fun h => .inl (.inr h)
theorem RepD.step {P O N : Addr → Prop} {σ σ' : Store} {s s' : Shared} (x : Step P O σ s σ' s') (hO : ∀ a, O a → N a) (hP : ∀ a, P a → N a) {av : List (Spot × AV)} {v : List DictEntry} (r : RepD cv s.heap (DN N σ) av v) : RepD cv s'.heap (DN N σ') av v :=
  r.ext (x.ext.mono fun a h => h.imp id fun h => h.elim (hO a) (hP a)) fun b h => h.elim (fun h => (x.dom b h).imp .inl id) fun h => .inl (.inr h)
theorem Rep.less {D D' : Addr → Prop} {h : Heap} {av : AV} {v : Value} (r : Rep cv h D av v) (k : ∀ a, D' a → D a) : Rep cv h D' av v := r.ext (Ext.refl _ _) fun b h => .inl (k b h)
structure Inv {prog : Program} {w : World} (S : Sta prog w) (N : Addr → Prop) (σ : Store) (s : Shared) : Prop where
  keep : ∀ b o, S.g.get? b = some o → s.heap.get? b = some o
  gens : s.gens = S.gens
  drawn : s.drawn = S.drawn
  os : s.os = S.os
  σg : ∀ a, Dom σ a → S.g.get? a = Option.none
  σN : ∀ a, Dom σ a → ¬ N a
  Nin : ∀ a, N a → ∃ o, s.heap.get? a = some o ∧ ∀ vs, o.data ≠ .fields vs
  rep : ∀ a o, σ a = some o → RepO S.cv s.heap (DN N σ) o a
structure St {prog : Program} {w : World} (S : Sta prog w) (tb : List Nat) (env : Env) (N P : Addr → Prop) (b : Store × Shared) (m : Nat → Option AV) (σ : Store) (s : Shared) : Prop where
  inv : Inv S N σ s
  loc : Loc S.cv S.g tb env m N σ s.heap
  frm : Step P noO b.1 b.2 σ s
  pN : ∀ a, P a → N a
  new : ∀ a, Own env a → b.2.heap.get? a = Option.none
  own : ∀ a, Own env a → N a
  gb : ∀ a, b.2.heap.get? a = Option.none → S.g.get? a = Option.none
end Mine
end
section
namespace Mine
open PySem
noncomputable section
noncomputable abbrev Nms := List (Str × NameKind)
structure IsV (tb : List Nat) (sc : Nms) (x : Str) (i : Nat) : Prop where
  ok : okName x = true
  kind : sc.lookup x = some .local ∨ sc.lookup x = some .cell ∨ sc.lookup x = some .free
  ix : ixS tb x = some i
structure IsG (sc : Nms) (x : Str) (i : Nat) : Prop where
  ok : okName x = true
  kind : sc.lookup x = some .globalImplicit
  ix : ixS GT x = some i
mutual
inductive CE (tb : List Nat) : Nms → PySem.Expr → E → Prop
  | none {sc k p} : CE tb sc (.Constant .none k p) .none
  | bool {sc b k p} : CE tb sc (.Constant (.bool b) k p) (.bool b)
  | int {sc i k p} : CE tb sc (.Constant (.int i) k p) (.int i)
  | str {sc s k p} : CE tb sc (.Constant (.str s) k p) (.str s)
  | v {sc x p i} : IsV tb sc x i → CE tb sc (.Name x p) (.v i)
  | g {sc x p i} : IsG sc x i → CE tb sc (.Name x p) (.g i)
  | tup {sc es es' k p} : CEs tb sc es es' → CE tb sc (.Tuple es k p) (.tup es')
  | list {sc es es' p} : CEs tb sc es es' → CE tb sc (.List es p) (.list es')
  | dict {sc ks ks' vs vs' p} : CKs tb sc ks ks' → CEs tb sc vs vs' → CE tb sc (.Dict ks vs p) (.dict ks' vs')
  | bin {sc l l' op r r' p} : CE tb sc l l' → CE tb sc r r' → CE tb sc (.BinOp l op r p) (.bin op l' r')
  | neg {sc x x' p} : CE tb sc x x' → CE tb sc (.UnaryOp .USub x p) (.neg x')
  | not {sc x x' p} : CE tb sc x x' → CE tb sc (.UnaryOp .Not x p) (.not x')
  | and {sc es es' p} : CEs tb sc es es' → CE tb sc (.BoolOp .And es p) (.and es')
  | or {sc es es' p} : CEs tb sc es es' → CE tb sc (.BoolOp .Or es p) (.or es')
  | cmp {sc l l' op r r' p} : notSet r = true → CE tb sc l l' → CE tb sc r r' → CE tb sc (.Compare l [op] [r] p) (.cmp op l' r')
  | cmp2 {sc a a' o1 o2 b b' c c' p} : notSet b = true → notSet c = true → CE tb sc a a' → CE tb sc b b' → CE tb sc c c' → CE tb sc (.Compare a [o1, o2] [b, c] p) (.cmp2 o1 o2 a' b' c')
  | ite {sc c c' a a' b b' p} : CE tb sc c c' → CE tb sc a a' → CE tb sc b b' → CE tb sc (.IfExp c a b p) (.ite c' a' b')
  | slice {sc o o' lo lo' hi hi' st st' p q} : CE tb sc o o' → CO tb sc lo lo' → CO tb sc hi hi' → CO tb sc st st' → CE tb sc (.Subscript o (.Slice lo hi st q) p) (.slice o' lo' hi' st')
  | sub {sc o o' i i' p} : notSlice i = true → CE tb sc o o' → CE tb sc i i' → CE tb sc (.Subscript o i p) (.sub o' i')
  | attr {sc x q a p i k} : IsV tb sc x i → ixS AT a = some k → CE tb sc (.Attribute (.Name x q) a p) (.attr (.v i) k)
  | meth {sc o o' a ap args args' p k} : notSuper o = true → ap.endLine = p.line → args.length < 29 → CE tb sc o o' → ixS AT a = some k → CEs tb sc args args' → CE tb sc (.Call (.Attribute o a ap) args [] p) (.meth o' k args')
  | callg {sc x q args args' p i} : args.length < 29 → IsG sc x i → CEs tb sc args args' → CE tb sc (.Call (.Name x q) args [] p) (.call (.g i) args')
  | sorted {sc a a' f f' kp p q} {x key : Str} : x = "sorted" → key = "key" → sc.lookup x = some .globalImplicit → notStar a = true → CE tb sc a a' → CE tb sc f f' → CE tb sc (.Call (.Name x q) [a] [⟨some key, f, kp⟩] p) (.sorted a' f')
  | comp {sc elt elt' x xp src src' cs cs' scope p i} : scope.kind = .function → (scope.names.lookup x = some .local ∨ scope.names.lookup x = some .cell) → notSet src = true →
      okName x = true → (∀ q ∈ scope.names, okComp tb sc x q = true ∧ scope.names.lookup q.1 = some q.2) → CE tb sc src src' → ixS tb x = some i → CEs tb (relab sc scope.names) cs cs' → CE tb (relab sc scope.names) elt elt' →
      CE tb sc (.ListComp elt [⟨.Name x xp, src, cs, 0⟩] scope p) (.comp elt' i src' cs')
inductive CEs (tb : List Nat) : Nms → List PySem.Expr → List E → Prop
  | nil {sc} : CEs tb sc [] []
  | cons {sc e e' r r'} : notStar e = true → CE tb sc e e' → CEs tb sc r r' → CEs tb sc (e :: r) (e' :: r')
inductive CKs (tb : List Nat) : Nms → List (Option PySem.Expr) → List E → Prop
  | nil {sc} : CKs tb sc [] []
  | cons {sc e e' r r'} : CE tb sc e e' → CKs tb sc r r' → CKs tb sc (some e :: r) (e' :: r')
inductive CO (tb : List Nat) : Nms → Option PySem.Expr → E → Prop
  | no {sc} : CO tb sc none .none
  | yes {sc e e'} : CE tb sc e e' → CO tb sc (some e) e'
end
theorem ite_some {α : Type} {c : Prop} [Decidable c] {x : Option α} {y : α} (h : (if c then x else Option.none) = some y) : c ∧ x = some y := by
  by_cases q : c
  · rw [if_pos q] at h; exact ⟨q, h⟩
  · rw [if_neg q] at h; cases h
mutual
inductive CP (tb : List Nat) : Nms → PySem.Expr → Pat → Prop
  | v {sc x p i} : sc.lookup x ≠ some .free → IsV tb sc x i → CP tb sc (.Name x p) (.v i)
  | tup {sc es es' k p} : CPs tb sc es es' → CP tb sc (.Tuple es k p) (.tup es')
inductive CPs (tb : List Nat) : Nms → List PySem.Expr → List Pat → Prop
  | nil {sc} : CPs tb sc [] []
  | cons {sc e e' r r'} : notStar e = true → CP tb sc e e' → CPs tb sc r r' → CPs tb sc (e :: r) (e' :: r')
end
mutual
inductive CS (tb : List Nat) : Nms → PySem.Stmt → S → Prop
  | setitem {sc o o' i i' e e' p q} : notSlice i = true → CE tb sc o o' → CE tb sc i i' → CE tb sc e e' → CS tb sc (.Assign [.Subscript o i q] e p) (.setitem o' i' e')
  | setattr {sc o o' a k e e' p q} : CE tb sc o o' → ixS AT a = some k → CE tb sc e e' → CS tb sc (.Assign [.Attribute o a q] e p) (.setattr o' k e')
  | assign {sc t t' e e' p} : CP tb sc t t' → CE tb sc e e' → CS tb sc (.Assign [t] e p) (.assign t' e')
  | expr {sc e e' p} : CE tb sc e e' → CS tb sc (.Expr e p) (.expr e')
  | ret {sc e e' p} : CE tb sc e e' → CS tb sc (.Return (some e) p) (.ret e')
  | ite {sc c c' a a' b b' p} : CE tb sc c c' → CSs tb sc a a' → CSs tb sc b b' → CS tb sc (.If c a b p) (.ite c' a' b')
  | for_ {sc t t' e e' b b' p} : notSet e = true → CP tb sc t t' → CE tb sc e e' → CSs tb sc b b' → CS tb sc (.For t e b [] p) (.for_ t' e' b')
  | while_ {sc c c' b b' p} : CE tb sc c c' → CSs tb sc b b' → CS tb sc (.While c b [] p) (.while_ c' b')
  | raise {sc e e' p} : CE tb sc e e' → CS tb sc (.Raise (some e) none p) (.raise e')
  | try0 {sc b b' t t' h h' q p} : CSs tb sc b b' → CE tb sc t t' → CSs tb sc h h' → CS tb sc (.Try b [.ExceptHandler (some t) none h q] [] [] p) (.try_ b' t' none h')
  | try1 {sc b b' t t' h h' q p x i} : CSs tb sc b b' → CE tb sc t t' → sc.lookup x ≠ some .free → IsV tb sc x i → CSs tb sc h h' → CS tb sc (.Try b [.ExceptHandler (some t) (some x) h q] [] [] p) (.try_ b' t' (some i) h')
  | pass {sc p} : CS tb sc (.Pass p) .pass
inductive CSs (tb : List Nat) : Nms → List PySem.Stmt → List S → Prop
  | nil {sc} : CSs tb sc [] []
  | cons {sc e e' r r'} : CS tb sc e e' → CSs tb sc r r' → CSs tb sc (e :: r) (e' :: r')
end
noncomputable def CEi (tb : List Nat) (sc : Nms) (pe : PySem.Expr) (e : E) : Prop := match e with
  | .none => ∃ k p, pe = .Constant .none k p
  | .bool b => ∃ k p, pe = .Constant (.bool b) k p
  | .int i => ∃ k p, pe = .Constant (.int i) k p
  | .str s => ∃ k p, pe = .Constant (.str s) k p
  | .v i => ∃ x p, pe = .Name x p ∧ IsV tb sc x i
  | .g i => ∃ x p, pe = .Name x p ∧ IsG sc x i
  | .tup es' => ∃ es k p, pe = .Tuple es k p ∧ CEs tb sc es es'
  | .list es' => ∃ es p, pe = .List es p ∧ CEs tb sc es es'
  | .dict ks' vs' => ∃ ks vs p, pe = .Dict ks vs p ∧ CKs tb sc ks ks' ∧ CEs tb sc vs vs'
  | .bin op l' r' => ∃ l r p, pe = .BinOp l op r p ∧ CE tb sc l l' ∧ CE tb sc r r'
  | .neg x' => ∃ x p, pe = .UnaryOp .USub x p ∧ CE tb sc x x'
  | .not x' => ∃ x p, pe = .UnaryOp .Not x p ∧ CE tb sc x x'
  | .and es' => ∃ es p, pe = .BoolOp .And es p ∧ CEs tb sc es es'
  | .or es' => ∃ es p, pe = .BoolOp .Or es p ∧ CEs tb sc es es'
  | .cmp op l' r' => ∃ l r p, pe = .Compare l [op] [r] p ∧ notSet r = true ∧ CE tb sc l l' ∧ CE tb sc r r'
  | .cmp2 o1 o2 a' b' c' => ∃ a b c p, pe = .Compare a [o1, o2] [b, c] p ∧ notSet b = true ∧ notSet c = true ∧ CE tb sc a a' ∧ CE tb sc b b' ∧ CE tb sc c c'
  | .ite c' a' b' => ∃ c a b p, pe = .IfExp c a b p ∧ CE tb sc c c' ∧ CE tb sc a a' ∧ CE tb sc b b'
  | .slice o' lo' hi' st' => ∃ o lo hi st p q, pe = .Subscript o (.Slice lo hi st q) p ∧ CE tb sc o o' ∧ CO tb sc lo lo' ∧ CO tb sc hi hi' ∧ CO tb sc st st'
  | .sub o' i' => ∃ o i p, pe = .Subscript o i p ∧ notSlice i = true ∧ CE tb sc o o' ∧ CE tb sc i i'
  | .attr (.v i) k => ∃ x q a p, pe = .Attribute (.Name x q) a p ∧ IsV tb sc x i ∧ ixS AT a = some k
  | .attr _ _ => False
  | .meth o' k args' => ∃ o a ap args p, pe = .Call (.Attribute o a ap) args [] p ∧ notSuper o = true ∧ ap.endLine = p.line ∧ args.length < 29 ∧ CE tb sc o o' ∧ ixS AT a = some k ∧ CEs tb sc args args'
  | .call (.g i) args' => ∃ x q args p, pe = .Call (.Name x q) args [] p ∧ args.length < 29 ∧ IsG sc x i ∧ CEs tb sc args args'
  | .call _ _ => False
  | .sorted a' f' => ∃ a f kp p q, ∃ x key : Str, pe = .Call (.Name x q) [a] [⟨some key, f, kp⟩] p ∧ x = "sorted" ∧ key = "key" ∧ sc.lookup x = some .globalImplicit ∧ notStar a = true ∧ CE tb sc a a' ∧ CE tb sc f f'
  | .comp elt' i src' cs' => ∃ elt x xp src cs scope p, pe = .ListComp elt [⟨.Name x xp, src, cs, 0⟩] scope p ∧ scope.kind = .function ∧ (scope.names.lookup x = some .local ∨ scope.names.lookup x = some .cell) ∧ notSet src = true ∧
      okName x = true ∧ (∀ q ∈ scope.names, okComp tb sc x q = true ∧ scope.names.lookup q.1 = some q.2) ∧ CE tb sc src src' ∧ ixS tb x = some i ∧ CEs tb (relab sc scope.names) cs cs' ∧ CE tb (relab sc scope.names) elt elt'
theorem CE.inv {tb : List Nat} {sc : Nms} {pe : PySem.Expr} {e : E} (h : CE tb sc pe e) : CEi tb sc pe e := by
  induction h using CE.casesOn with
  | none => exact ⟨_, _, rfl⟩
  | bool => exact ⟨_, _, rfl⟩
  | int => exact ⟨_, _, rfl⟩
  | str => exact ⟨_, _, rfl⟩
  | v a => exact ⟨_, _, rfl, a⟩
  | g a => exact ⟨_, _, rfl, a⟩
  | tup a => exact ⟨_, _, _, rfl, a⟩
  | list a => exact ⟨_, _, rfl, a⟩
  | dict a b => exact ⟨_, _, _, rfl, a, b⟩
  | bin a b => exact ⟨_, _, _, rfl, a, b⟩
  | neg a => exact ⟨_, _, rfl, a⟩
  | not a => exact ⟨_, _, rfl, a⟩
  | and a => exact ⟨_, _, rfl, a⟩
  | or a => exact ⟨_, _, rfl, a⟩
  | cmp a b c => exact ⟨_, _, _, rfl, a, b, c⟩
  | cmp2 a b c d e => exact ⟨_, _, _, _, rfl, a, b, c, d, e⟩
  | ite a b c => exact ⟨_, _, _, _, rfl, a, b, c⟩
  | slice a b c d => exact ⟨_, _, _, _, _, _, rfl, a, b, c, d⟩
  | sub a b c => exact ⟨_, _, _, rfl, a, b, c⟩
  | attr a b => exact ⟨_, _, _, _, rfl, a, b⟩
  | meth a b c d e f => exact ⟨_, _, _, _, _, rfl, a, b, c, d, e, f⟩
  | callg a b c => exact ⟨_, _, _, _, rfl, a, b, c⟩
  | sorted a b c d e f => exact ⟨_, _, _, _, _, _, _, rfl, a, b, c, d, e, f⟩
  | comp a b c d e f g h i => exact ⟨_, _, _, _, _, _, _, rfl, a, b, c, d, e, f, g, h, i⟩
theorem CEs.inv_nil {tb : List Nat} {sc : Nms} {pe : List PySem.Expr} (h : CEs tb sc pe []) : pe = [] := by cases h; rfl
theorem CEs.inv {tb : List Nat} {sc : Nms} {pe : List PySem.Expr} {e' : E} {r' : List E} (h : CEs tb sc pe (e' :: r')) : ∃ e r, pe = e :: r ∧ notStar e = true ∧ CE tb sc e e' ∧ CEs tb sc r r' := by
  cases h with | cons a b c => exact ⟨_, _, rfl, a, b, c⟩
noncomputable def CKi (tb : List Nat) (sc : Nms) (pe : List (Option PySem.Expr)) (es : List E) : Prop := match es with
  | [] => pe = []
  | e' :: r' => ∃ e r, pe = some e :: r ∧ CE tb sc e e' ∧ CKs tb sc r r'
theorem CKs.inv {tb : List Nat} {sc : Nms} {pe : List (Option PySem.Expr)} {es : List E} (h : CKs tb sc pe es) : CKi tb sc pe es := by
  induction h using CKs.casesOn with
  | nil => exact rfl
  | cons a b => exact ⟨_, _, rfl, a, b⟩
theorem CO.inv {tb : List Nat} {sc : Nms} {pe : Option PySem.Expr} {e : E} (h : CO tb sc pe e) : (pe = Option.none ∧ e = .none) ∨ ∃ x, pe = some x ∧ CE tb sc x e := by
  induction h using CO.casesOn with
  | no => exact .inl ⟨rfl, rfl⟩
  | yes a => exact .inr ⟨_, rfl, a⟩
noncomputable def CPi (tb : List Nat) (sc : Nms) (pe : PySem.Expr) (e : Pat) : Prop := match e with
  | .v i => ∃ x p, pe = .Name x p ∧ sc.lookup x ≠ some .free ∧ IsV tb sc x i
  | .tup es' => ∃ es k p, pe = .Tuple es k p ∧ CPs tb sc es es'
theorem CP.inv {tb : List Nat} {sc : Nms} {pe : PySem.Expr} {e : Pat} (h : CP tb sc pe e) : CPi tb sc pe e := by
  induction h using CP.casesOn with
  | v a b => exact ⟨_, _, rfl, a, b⟩
  | tup a => exact ⟨_, _, _, rfl, a⟩
theorem CPs.inv_nil {tb : List Nat} {sc : Nms} {pe : List PySem.Expr} (h : CPs tb sc pe []) : pe = [] := by cases h; rfl
theorem CPs.inv {tb : List Nat} {sc : Nms} {pe : List PySem.Expr} {e' : Pat} {r' : List Pat} (h : CPs tb sc pe (e' :: r')) : ∃ e r, pe = e :: r ∧ notStar e = true ∧ CP tb sc e e' ∧ CPs tb sc r r' := by
  cases h with | cons a b c => exact ⟨_, _, rfl, a, b, c⟩
noncomputable def CSi (tb : List Nat) (sc : Nms) (ps : PySem.Stmt) (s : S) : Prop := match s with
  | .setitem o' i' e' => ∃ o i e p q, ps = .Assign [.Subscript o i q] e p ∧ notSlice i = true ∧ CE tb sc o o' ∧ CE tb sc i i' ∧ CE tb sc e e'
  | .setattr o' k e' => ∃ o a e p q, ps = .Assign [.Attribute o a q] e p ∧ CE tb sc o o' ∧ ixS AT a = some k ∧ CE tb sc e e'
  | .assign t' e' => ∃ t e p, ps = .Assign [t] e p ∧ CP tb sc t t' ∧ CE tb sc e e'
  | .expr e' => ∃ e p, ps = .Expr e p ∧ CE tb sc e e'
  | .ret e' => ∃ e p, ps = .Return (some e) p ∧ CE tb sc e e'
  | .ite c' a' b' => ∃ c a b p, ps = .If c a b p ∧ CE tb sc c c' ∧ CSs tb sc a a' ∧ CSs tb sc b b'
  | .for_ t' e' b' => ∃ t e b p, ps = .For t e b [] p ∧ notSet e = true ∧ CP tb sc t t' ∧ CE tb sc e e' ∧ CSs tb sc b b'
  | .while_ c' b' => ∃ c b p, ps = .While c b [] p ∧ CE tb sc c c' ∧ CSs tb sc b b'
  | .raise e' => ∃ e p, ps = .Raise (some e) none p ∧ CE tb sc e e'
  | .try_ b' t' none h' => ∃ b t h q p, ps = .Try b [.ExceptHandler (some t) none h q] [] [] p ∧ CSs tb sc b b' ∧ CE tb sc t t' ∧ CSs tb sc h h'
  | .try_ b' t' (some i) h' => ∃ b t h q p x, ps = .Try b [.ExceptHandler (some t) (some x) h q] [] [] p ∧ CSs tb sc b b' ∧ CE tb sc t t' ∧ sc.lookup x ≠ some .free ∧ IsV tb sc x i ∧ CSs tb sc h h'
  | .pass => ∃ p, ps = .Pass p
theorem CS.inv {tb : List Nat} {sc : Nms} {ps : PySem.Stmt} {s : S} (h : CS tb sc ps s) : CSi tb sc ps s := by
  induction h using CS.casesOn with
  | setitem a b c d => exact ⟨_, _, _, _, _, rfl, a, b, c, d⟩
  | setattr a b c => exact ⟨_, _, _, _, _, rfl, a, b, c⟩
  | assign a b => exact ⟨_, _, _, rfl, a, b⟩
  | expr a => exact ⟨_, _, rfl, a⟩
  | ret a => exact ⟨_, _, rfl, a⟩
  | ite a b c => exact ⟨_, _, _, _, rfl, a, b, c⟩
  | for_ a b c d => exact ⟨_, _, _, _, rfl, a, b, c, d⟩
  | while_ a b => exact ⟨_, _, _, rfl, a, b⟩
  | raise a => exact ⟨_, _, rfl, a⟩
  | try0 a b c => exact ⟨_, _, _, _, _, rfl, a, b, c⟩
  | try1 a b c d e => exact ⟨_, _, _, _, _, _, rfl, a, b, c, d, e⟩
  | pass => exact ⟨_, rfl⟩
theorem CSs.inv_nil {tb : List Nat} {sc : Nms} {pe : List PySem.Stmt} (h : CSs tb sc pe []) : pe = [] := by cases h; rfl
theorem CSs.inv {tb : List Nat} {sc : Nms} {pe : List PySem.Stmt} {e' : S} {r' : List S} (h : CSs tb sc pe (e' :: r')) : ∃ e r, pe = e :: r ∧ CS tb sc e e' ∧ CSs tb sc r r' := by
  cases h with | cons a b => exact ⟨_, _, rfl, a, b⟩
noncomputable def cName (tb : List Nat) (sc : Nms) (x : Str) : Option ((Σ' i, IsV tb sc x i) ⊕' (Σ' i, IsG sc x i)) :=
  if ok : okName x = true then match q : sc.lookup x with
  | some .local => match e : ixS tb x with
    | some i => some (.inl ⟨i, ok, .inl q, e⟩)
    | none => none
  | some .cell => match e : ixS tb x with
    | some i => some (.inl ⟨i, ok, .inr (.inl q), e⟩)
    | none => none
  | some .free => match e : ixS tb x with
    | some i => some (.inl ⟨i, ok, .inr (.inr q), e⟩)
    | none => none
  | some .globalImplicit => match e : ixS GT x with
    | some i => some (.inr ⟨i, ok, q, e⟩)
    | none => none
  | _ => none
  else none
noncomputable def cAt (a : Str) : Option {k : Nat // ixS AT a = some k} := match ixS AT a with
  | some k => some ⟨k, rfl⟩
  | none => none
noncomputable def cIx (tb : List Nat) (a : Str) : Option {k : Nat // ixS tb a = some k} := match ixS tb a with
  | some k => some ⟨k, rfl⟩
  | none => none
noncomputable def okScope (tb : List Nat) (sc : Nms) (x : Str) (src : PySem.Expr) (scope : Scope) : Bool := scope.kind == .function && ((scope.names.lookup x == some .local || scope.names.lookup x == some .cell) && (notSet src && (okName x && scope.names.all fun p => okComp tb sc x p && scope.names.lookup p.1 == some p.2)))
theorem okScope.of {tb : List Nat} {sc : Nms} {x : Str} {src : PySem.Expr} {scope : Scope} (h : okScope tb sc x src scope = true) : scope.kind = .function ∧ (scope.names.lookup x = some .local ∨ scope.names.lookup x = some .cell) ∧ notSet src = true ∧ okName x = true ∧ (∀ q ∈ scope.names, okComp tb sc x q = true ∧ scope.names.lookup q.1 = some q.2) := by
  simp only [okScope, Bool.and_eq_true, beq_iff_eq, Bool.or_eq_true, List.all_eq_true] at h
  exact h
mutual
noncomputable def cE (tb : List Nat) : Nat → (sc : Nms) → (pe : PySem.Expr) → Option {e : E // CE tb sc pe e}
  | 0, _, _ => none
  | n + 1, sc, pe => match pe with
    | .Constant c _ _ => (match c with
      | .none => some ⟨.none, .none⟩
      | .bool b => some ⟨.bool b, .bool⟩
      | .int i => some ⟨.int i, .int⟩
      | .str s => some ⟨.str s, .str⟩
      | _ => none)
    | .Name x _ => (match cName tb sc x with
      | some (.inl i) => some ⟨.v i.1, .v i.2⟩
      | some (.inr i) => some ⟨.g i.1, .g i.2⟩
      | none => none)
    | .Tuple es _ _ => (cEs tb n sc es).map fun a => ⟨.tup a.1, .tup a.2⟩
    | .List es _ => (cEs tb n sc es).map fun a => ⟨.list a.1, .list a.2⟩
    | .Dict ks vs _ => (cKs tb n sc ks).bind fun a => (cEs tb n sc vs).map fun b => ⟨.dict a.1 b.1, .dict a.2 b.2⟩
    | .BinOp l op r _ => (cE tb n sc l).bind fun a => (cE tb n sc r).map fun b => ⟨.bin op a.1 b.1, .bin a.2 b.2⟩
    | .UnaryOp op x _ => (match op with
      | .USub => (cE tb n sc x).map fun a => ⟨.neg a.1, .neg a.2⟩
      | .Not => (cE tb n sc x).map fun a => ⟨.not a.1, .not a.2⟩
      | _ => none)
    | .BoolOp op es _ => (match op with
      | .And => (cEs tb n sc es).map fun a => ⟨.and a.1, .and a.2⟩
      | .Or => (cEs tb n sc es).map fun a => ⟨.or a.1, .or a.2⟩)
    | .Compare l os rs _ => (match os, rs with
      | [op], [r] => if q : notSet r = true then (cE tb n sc l).bind fun a => (cE tb n sc r).map fun b => ⟨.cmp op a.1 b.1, .cmp q a.2 b.2⟩ else none
      | [o1, o2], [b, c] => if q : notSet b = true then (if q' : notSet c = true then (cE tb n sc l).bind fun x => (cE tb n sc b).bind fun y => (cE tb n sc c).map fun z => ⟨.cmp2 o1 o2 x.1 y.1 z.1, .cmp2 q q' x.2 y.2 z.2⟩ else none) else none
      | _, _ => none)
    | .IfExp c a b _ => (cE tb n sc c).bind fun x => (cE tb n sc a).bind fun y => (cE tb n sc b).map fun z => ⟨.ite x.1 y.1 z.1, .ite x.2 y.2 z.2⟩
    | .Subscript o i _ => (match i with
      | .Slice lo hi st _ => (cE tb n sc o).bind fun x => (cO tb n sc lo).bind fun y => (cO tb n sc hi).bind fun z => (cO tb n sc st).map fun u => ⟨.slice x.1 y.1 z.1 u.1, .slice x.2 y.2 z.2 u.2⟩
      | i => if q : notSlice i = true then (cE tb n sc o).bind fun x => (cE tb n sc i).map fun y => ⟨.sub x.1 y.1, .sub q x.2 y.2⟩ else none)
    | .Attribute o a _ => (match o with
      | .Name x _ => (match cName tb sc x with
        | some (.inl i) => (cAt a).map fun k => ⟨.attr (.v i.1) k.1, .attr i.2 k.2⟩
        | _ => none)
      | _ => none)
    | .Call f args kw p => (match f, kw with
      | .Attribute o a ap, [] => if q : notSuper o = true then (if q' : ap.endLine = p.line then (if q'' : args.length < 29 then (cE tb n sc o).bind fun x => (cAt a).bind fun k => (cEs tb n sc args).map fun y => ⟨.meth x.1 k.1 y.1, .meth q q' q'' x.2 k.2 y.2⟩ else none) else none) else none
      | .Name x _, [] => if q : args.length < 29 then (match cName tb sc x with
        | some (.inr i) => (cEs tb n sc args).map fun y => ⟨.call (.g i.1) y.1, .callg q i.2 y.2⟩
        | _ => none) else none
      | .Name x _, [⟨some k, g, _⟩] => (match args with
        | [a] => if q : x = "sorted" ∧ k = "key" ∧ sc.lookup x = some .globalImplicit ∧ notStar a = true then (cE tb n sc a).bind fun y => (cE tb n sc g).map fun z => ⟨.sorted y.1 z.1, .sorted q.1 q.2.1 q.2.2.1 q.2.2.2 y.2 z.2⟩ else none
        | _ => none)
      | _, _ => none)
    | .ListComp elt gens scope _ => (match gens with
      | [⟨.Name x _, src, cs, 0⟩] => if q : okScope tb sc x src scope = true then
          (cE tb n sc src).bind fun y => (cIx tb x).bind fun i => (cEs tb n (relab sc scope.names) cs).bind fun z => (cE tb n (relab sc scope.names) elt).map fun u => ⟨.comp u.1 i.1 y.1 z.1, .comp (okScope.of q).1 (okScope.of q).2.1 (okScope.of q).2.2.1 (okScope.of q).2.2.2.1 (okScope.of q).2.2.2.2 y.2 i.2 z.2 u.2⟩
        else none
      | _ => none)
    | _ => none
noncomputable def cEs (tb : List Nat) : Nat → (sc : Nms) → (pe : List PySem.Expr) → Option {e : List E // CEs tb sc pe e}
  | _, _, [] => some ⟨[], .nil⟩
  | 0, _, _ :: _ => none
  | n + 1, sc, e :: r => if q : notStar e = true then (cE tb n sc e).bind fun a => (cEs tb n sc r).map fun b => ⟨a.1 :: b.1, .cons q a.2 b.2⟩ else none
noncomputable def cKs (tb : List Nat) : Nat → (sc : Nms) → (pe : List (Option PySem.Expr)) → Option {e : List E // CKs tb sc pe e}
  | _, _, [] => some ⟨[], .nil⟩
  | 0, _, _ :: _ => none
  | n + 1, sc, e :: r => (match e with
    | some e => (cE tb n sc e).bind fun a => (cKs tb n sc r).map fun b => ⟨a.1 :: b.1, .cons a.2 b.2⟩
    | none => none)
noncomputable def cO (tb : List Nat) : Nat → (sc : Nms) → (pe : Option PySem.Expr) → Option {e : E // CO tb sc pe e}
  | _, _, none => some ⟨.none, .no⟩
  | 0, _, some _ => none
  | n + 1, sc, some e => (cE tb n sc e).map fun a => ⟨a.1, .yes a.2⟩
end
mutual
noncomputable def cP (tb : List Nat) : Nat → (sc : Nms) → (pe : PySem.Expr) → Option {e : Pat // CP tb sc pe e}
  | 0, _, _ => none
  | n + 1, sc, pe => match pe with
    | .Name x _ => if q : sc.lookup x = some .free then none else (match cName tb sc x with
      | some (.inl i) => some ⟨.v i.1, .v q i.2⟩
      | _ => none)
    | .Tuple es _ _ => (cPs tb n sc es).map fun a => ⟨.tup a.1, .tup a.2⟩
    | _ => none
noncomputable def cPs (tb : List Nat) : Nat → (sc : Nms) → (pe : List PySem.Expr) → Option {e : List Pat // CPs tb sc pe e}
  | _, _, [] => some ⟨[], .nil⟩
  | 0, _, _ :: _ => none
  | n + 1, sc, e :: r => if q : notStar e = true then (cP tb n sc e).bind fun a => (cPs tb n sc r).map fun b => ⟨a.1 :: b.1, .cons q a.2 b.2⟩ else none
end
mutual
noncomputable def cS (tb : List Nat) : Nat → (sc : Nms) → (ps : PySem.Stmt) → Option {s : S // CS tb sc ps s}
  | 0, _, _ => none
  | n + 1, sc, ps => match ps with
    | .Assign ts e _ => (match ts with
      | [t] => (match t with
        | .Subscript o i _ => if q : notSlice i = true then (cE tb n sc o).bind fun x => (cE tb n sc i).bind fun y => (cE tb n sc e).map fun z => ⟨.setitem x.1 y.1 z.1, .setitem q x.2 y.2 z.2⟩ else none
        | .Attribute o a _ => (cE tb n sc o).bind fun x => (cAt a).bind fun k => (cE tb n sc e).map fun z => ⟨.setattr x.1 k.1 z.1, .setattr x.2 k.2 z.2⟩
        | t => (cP tb n sc t).bind fun x => (cE tb n sc e).map fun z => ⟨.assign x.1 z.1, .assign x.2 z.2⟩)
      | _ => none)
    | .Expr e _ => (cE tb n sc e).map fun a => ⟨.expr a.1, .expr a.2⟩
    | .Return (some e) _ => (cE tb n sc e).map fun a => ⟨.ret a.1, .ret a.2⟩
    | .If c a b _ => (cE tb n sc c).bind fun x => (cSs tb n sc a).bind fun y => (cSs tb n sc b).map fun z => ⟨.ite x.1 y.1 z.1, .ite x.2 y.2 z.2⟩
    | .For t e b [] _ => if q : notSet e = true then (cP tb n sc t).bind fun x => (cE tb n sc e).bind fun y => (cSs tb n sc b).map fun z => ⟨.for_ x.1 y.1 z.1, .for_ q x.2 y.2 z.2⟩ else none
    | .While c b [] _ => (cE tb n sc c).bind fun x => (cSs tb n sc b).map fun y => ⟨.while_ x.1 y.1, .while_ x.2 y.2⟩
    | .Raise (some e) none _ => (cE tb n sc e).map fun a => ⟨.raise a.1, .raise a.2⟩
    | .Try b [.ExceptHandler (some t) nm h _] [] [] _ => (cSs tb n sc b).bind fun x => (cE tb n sc t).bind fun y => (cSs tb n sc h).bind fun z => (match nm with
      | none => some ⟨.try_ x.1 y.1 none z.1, .try0 x.2 y.2 z.2⟩
      | some v => if q : sc.lookup v = some .free then none else (match cName tb sc v with
        | some (.inl i) => some ⟨.try_ x.1 y.1 (some i.1) z.1, .try1 x.2 y.2 q i.2 z.2⟩
        | _ => none))
    | .Pass _ => some ⟨.pass, .pass⟩
    | _ => none
noncomputable def cSs (tb : List Nat) : Nat → (sc : Nms) → (ps : List PySem.Stmt) → Option {s : List S // CSs tb sc ps s}
  | _, _, [] => some ⟨[], .nil⟩
  | 0, _, _ :: _ => none
  | n + 1, sc, e :: r => (cS tb n sc e).bind fun a => (cSs tb n sc r).map fun b => ⟨a.1 :: b.1, .cons a.2 b.2⟩
end
theorem cSs_sound {tb : List Nat} {n : Nat} {sc : Nms} {pe : List PySem.Stmt} {e : List S} (h : (cSs tb n sc pe).map (·.1) = some e) : CSs tb sc pe e := by
  obtain ⟨x, _, rfl⟩ := Option.map_eq_some_iff.mp h
  exact x.2
end
end Mine
end
section
namespace Mine
open PySem PyProof.Rows
structure Room {prog : Program} {w : World} (S : Sta prog w) (N : Addr → Prop) (k : Nat) (A : Around) : Prop where
  hh : A.handled = S.hx.map Value.ref
  fr : ∃ l, A.frames = some l ∧ ∀ e ∈ l, e.scope.kind ≠ .module ∧ ∃ L, e.frame = some L ∧ N L ∧ S.g.get? L = Option.none
  dp : A.depth + 2 * k < 900
  un : A.units + 20 * k < 9000
theorem Room.quiet {prog : Program} {w : World} {S : Sta prog w} {N : Addr → Prop} {k : Nat} {A : Around} (r : Room S N k A) (hq : S.hx = Option.none) : A.handled = Option.none := r.hh.trans (by rw [hq]; rfl)
theorem Room.wide {prog : Program} {w : World} {S : Sta prog w} {N N' : Addr → Prop} {k : Nat} {A : Around} (r : Room S N k A) (h : ∀ a, N a → N' a) : Room S N' k A :=
  ⟨r.hh, (by obtain ⟨l, e, q⟩ := r.fr; exact ⟨l, e, fun ev he => by obtain ⟨h1, L, h2, h3, h4⟩ := q ev he; exact ⟨h1, L, h2, h L h3, h4⟩⟩), r.dp, r.un⟩
set_option genInjectivity false in
structure Fx {prog : Program} {w : World} (S : Sta prog w) where
  A : Around
  tb : List Nat
  env : Env
  b : Store × Shared
  N : Addr → Prop
  k : Nat
  room : Room S N k A
  fk : env.scope.kind = .function
  fg : env.globals = mainGlobals
  fb : env.builtins = builtinsNs
  fc : ∀ x, env.kindOf x = some .cell → ∃ c, env.cells.lookup x = some c
variable {prog : Program} {w : World} {S : Sta prog w}
noncomputable def Frm (A : Around) (a : Addr) : Prop := ∃ l, A.frames = some l ∧ ∃ e ∈ l, e.frame = some a
noncomputable abbrev Fx.P (F : Fx S) : Addr → Prop := Frm F.A
noncomputable abbrev Fx.St (F : Fx S) := Mine.St S F.tb F.env F.N F.P F.b
noncomputable abbrev Fx.D (F : Fx S) (σ : Store) : Addr → Prop := DN F.N σ
noncomputable abbrev Fx.O (F : Fx S) : Addr → Prop := Own F.env
noncomputable abbrev Fx.sc (F : Fx S) : Nms := F.env.scope.names
inductive PW (F : Fx S) (m : Nat → Option AV) (σ : Store) (s : Shared) {α : Type} (P : α → Store → Shared → Prop) (a : α) (s' : Shared) : Prop
  | mk (σ' : Store) (st : Step F.P F.O σ s σ' s') (h : F.St m σ' s') (p : P a σ' s') : PW F m σ s P a s'
inductive PV (F : Fx S) (Q : AV → Store → Prop) (v : Value) (σ' : Store) (s' : Shared) : Prop
  | mk (av : AV) (r : Rep S.cv s'.heap (F.D σ') av v) (q : Q av σ') : PV F Q v σ' s'
inductive PVs (F : Fx S) (Q : List AV → Store → Prop) (vs : List Value) (σ' : Store) (s' : Shared) : Prop
  | mk (avs : List AV) (r : RepL S.cv s'.heap (F.D σ') avs vs) (q : Q avs σ') : PVs F Q vs σ' s'
noncomputable def W (F : Fx S) (m : Nat → Option AV) (σ : Store) (s : Shared) {α : Type} (t : Sem α) (P : α → Store → Shared → Prop) (X : Value → Shared → Prop) : Prop :=
  wpAny (model prog w) F.A t (PW F m σ s P) X s
noncomputable abbrev VT (F : Fx S) (m : Nat → Option AV) (σ : Store) (s : Shared) (t : Sem Value) (Q : AV → Store → Prop) (X : Value → Shared → Prop) : Prop :=
  W F m σ s t (PV F Q) X
section
variable {F : Fx S} {m : Nat → Option AV} {σ : Store} {s : Shared} {α β : Type} {X : Value → Shared → Prop}
theorem W.mono {t : Sem α} {P P' : α → Store → Shared → Prop} (h : W F m σ s t P X) (k : ∀ a σ' s', Step F.P F.O σ s σ' s' → F.St m σ' s' → P a σ' s' → P' a σ' s') : W F m σ s t P' X :=
  wpAny_mono h (fun a s' ⟨σ', st, h1, h2⟩ => ⟨σ', st, h1, k a σ' s' st h1 h2⟩) fun zz zz e => e
theorem W.out {t : Sem α} {P : α → Store → Shared → Prop} {Q : α → Shared → Prop} (h : W F m σ s t P X) (k : ∀ a σ' s', Step F.P F.O σ s σ' s' → F.St m σ' s' → P a σ' s' → Q a s') : wpAny (model prog w) F.A t Q X s :=
  wpAny_mono h (fun a s' ⟨σ', st, h1, h2⟩ => k a σ' s' st h1 h2) fun zz zz e => e
theorem W.later {t : Sem α} {P : α → Store → Shared → Prop} {σ₀ : Store} {s₀ : Shared} (h : W F m σ s t P X) (st : Step F.P F.O σ₀ s₀ σ s) : wpAny (model prog w) F.A t (PW F m σ₀ s₀ P) X s :=
  wpAny_mono h (fun _ _ ⟨σ', st', h1, h2⟩ => ⟨σ', st.trans st', h1, h2⟩) fun zz zz e => e
end
noncomputable def ET (F : Fx S) (m : Nat → Option AV) (σ : Store) (e : E) (Q : AV → Store → Prop) (X : Value → Shared → Prop) : Prop :=
  ∀ pe, CE F.tb F.sc pe e → ∀ s, F.St m σ s → VT F m σ s (eval pe F.env) Q X
noncomputable def TT (F : Fx S) (m : Nat → Option AV) (σ : Store) (e : E) (Q : Bool → Store → Prop) (X : Value → Shared → Prop) : Prop :=
  ∀ pe, CE F.tb F.sc pe e → ∀ s, F.St m σ s → W F m σ s (isTrue pe F.env (eval pe F.env)) (fun b σ' zz => Q b σ') X
noncomputable def EsT (F : Fx S) (m : Nat → Option AV) (σ : Store) (es : List E) (Q : List AV → Store → Prop) (X : Value → Shared → Prop) : Prop :=
  ∀ pes pos, CEs F.tb F.sc pes es → ∀ s, F.St m σ s →
    W F m σ s (spliced (backTo pos (starEach pes F.env))) (PVs F Q) X
section
variable {tb : List Nat} {env : Env} {N P : Addr → Prop} {b : Store × Shared} {m : Nat → Option AV} {σ σ' : Store} {s s' : Shared}
theorem Inv.tok (x : Inv S N σ s) (t : Nat) : Inv S N σ { s with toks := t } := ⟨x.keep, x.gens, x.drawn, x.os, x.σg, x.σN, x.Nin, x.rep⟩
theorem St.tok (x : Mine.St S tb env N P b m σ s) (t : Nat) : Mine.St S tb env N P b m σ { s with toks := t } := ⟨x.inv.tok t, x.loc, ⟨x.frm.ext, x.frm.frm, x.frm.dom, x.frm.there⟩, x.pN, x.new, x.own, x.gb⟩
theorem RepO.ext {cv : Nat → Value} {D D' : Addr → Prop} {h h' : Heap} (x : Ext D h h') (hD : ∀ b, D' b → D b ∨ h.get? b = Option.none) {o : AObj} {a : Addr} (r : RepO cv h D o a) (k : ∀ ob, h.get? a = some ob → h'.get? a = some ob) : RepO cv h' D' o a := by
  induction r with
  | list e r => exact .list (k _ e) (r.ext x hD)
  | dict e sm n r => exact .dict (k _ e) sm n (r.ext x hD)
  | inst e n => exact .inst (k _ e) n
  | attrs e r => exact .attrs (k _ e) (r.ext x hD)
theorem Inv.dom_there (x : Inv S N σ s) {a : Addr} (d : Dom σ a) : ∃ ob, s.heap.get? a = some ob := by
  cases e : σ a with
  | none => exact absurd e d
  | some o => obtain ⟨ob, h, _⟩ := (x.rep a o e).there; exact ⟨ob, h⟩
theorem Inv.not_dom (x : Inv S N σ s) {a : Addr} (e : s.heap.get? a = Option.none) : ¬ Dom σ a := fun d => by obtain ⟨ob, h⟩ := x.dom_there d; rw [e] at h; cases h
theorem Inv.not_D (x : Inv S N σ s) {a : Addr} (e : s.heap.get? a = Option.none) : ¬ DN N σ a := fun d => d.elim (x.not_dom e) fun d => by obtain ⟨ob, h, _⟩ := x.Nin a d; rw [e] at h; cases h
theorem Inv.not_g (x : Inv S N σ s) {a : Addr} (e : s.heap.get? a = Option.none) : S.g.get? a = Option.none := by
  cases q : S.g.get? a with
  | none => rfl
  | some o => have := x.keep a o q; rw [e] at this; cases this
theorem Inv.not_sm (x : Inv S N σ s) {a : Addr} (e : s.heap.get? a = Option.none) : (a == sysModules) = false := by
  cases q : a == sysModules with
  | false => rfl
  | true =>
    obtain ⟨o, h⟩ := S.sm
    have := x.keep _ _ h
    rw [← eq_of_beq q, e] at this; cases this
theorem Loc.step {P' : Addr → Prop} {cv : Nat → Value} {g : Heap} (l : Loc cv g tb env m N σ s.heap) (x : Step P' noO σ s σ' s') (hP : ∀ a, P' a → N a) : Loc cv g tb env m N σ' s'.heap := by
  obtain ⟨mc, cm, n, c, o, ap, cl, r⟩ := l
  have oin : ∀ a, Own env a → ∃ ob, s.heap.get? a = some ob := by
    intro a ha
    rcases ha with rfl | ⟨y, hy⟩
    · obtain ⟨ob, _, _, e, _⟩ := n; exact ⟨ob, e⟩
    · obtain ⟨ob, e, _⟩ := c y a hy; exact ⟨ob, e⟩
  have nsKeep : s'.heap.Ns env.locals mc := by
    obtain ⟨ob, es, ep, e, hd, q⟩ := n
    obtain ⟨o', e', _, d', _⟩ := x.there' e (o _ (.inl rfl)).1 id
    exact ⟨o', es, ep, e', d'.trans hd, q⟩
  refine ⟨mc, cm, nsKeep, fun y cc hy => ?_, fun a ha => ⟨fun d => ?_, (o a ha).2⟩, ap, cl, fun y i av hi hm => ?_⟩
  · obtain ⟨ob, e, hd⟩ := c y cc hy
    obtain ⟨o', e', _, d', _⟩ := x.there' e (o _ (.inr ⟨y, hy⟩)).1 id
    exact ⟨o', e', d'.trans hd⟩
  · rcases x.dom a d with q | q
    · exact (o a ha).1 q
    · obtain ⟨ob, e⟩ := oin a ha; rw [q] at e; cases e
  · exact LocAt.map (r y i av hi hm) (fun h2 => h2.step x (fun zz h => h.elim) hP) (fun zz h1 => h1) (fun zz h1 => h1)
theorem St.to {P' : Addr → Prop} (x : Mine.St S tb env N P b m σ s) (st : Step P' noO σ s σ' s') (i : Inv S N σ' s') (hP : ∀ a, P' a → P a) : Mine.St S tb env N P b m σ' s' := ⟨i, x.loc.step st (fun a h => x.pN a (hP a h)), x.frm.trans (st.wide hP), x.pN, x.new, x.own, x.gb⟩
theorem Inv.grow (x : Inv S N σ s) {h' : Heap} (k : ∀ a o, s.heap.get? a = some o → h'.get? a = some o) (tk : Nat) : Inv S N σ { s with heap := h', toks := tk } ∧ Step noO noO σ s σ { s with heap := h', toks := tk } := by
  have st : Step noO noO σ s σ { s with heap := h', toks := tk } := Step.of_keeps k fun zz h => .inl h
  exact ⟨⟨fun a o e => k a o (x.keep a o e), x.gens, x.drawn, x.os, x.σg, x.σN, fun a h => by obtain ⟨o, e, f⟩ := x.Nin a h; exact ⟨o, k a o e, f⟩, fun a o e => (x.rep a o e).ext (Ext.of_keeps k) (fun zz h => .inl h) (k a)⟩, st⟩
theorem St.grow (x : Mine.St S tb env N P b m σ s) {h' : Heap} (k : ∀ a o, s.heap.get? a = some o → h'.get? a = some o) (tk : Nat) : Mine.St S tb env N P b m σ { s with heap := h', toks := tk } ∧ Step noO noO σ s σ { s with heap := h', toks := tk } := by
  obtain ⟨i, st⟩ := x.inv.grow k tk
  exact ⟨x.to st i (fun zz h => h.elim), st⟩
theorem dom_set {a c : Addr} {o : AObj} (h : Dom (σ.set a o) c) : c = a ∨ Dom σ c := by
  by_cases e : c = a
  · exact .inl e
  · right; unfold Dom Store.set at h; rw [if_neg e] at h; exact h
theorem Inv.new (x : Inv S N σ s) {h' : Heap} (k : ∀ a o, s.heap.get? a = some o → h'.get? a = some o) (tk : Nat) {a : Addr} (ha : s.heap.get? a = Option.none) {o : AObj}
    (r : RepO S.cv h' (DN N (σ.set a o)) o a) : Inv S N (σ.set a o) { s with heap := h', toks := tk } ∧ Step noO noO σ s (σ.set a o) { s with heap := h', toks := tk } := by
  have st : Step noO noO σ s (σ.set a o) { s with heap := h', toks := tk } := Step.of_keeps k fun c h => (dom_set h).elim (fun q => .inr (q ▸ ha)) .inl
  refine ⟨⟨fun a o e => k a o (x.keep a o e), x.gens, x.drawn, x.os, fun c h => (st.dom c h).elim (x.σg c) x.not_g, fun c h => (dom_set h).elim (fun q n => ?_) (x.σN c), fun a h => ?_, fun c oc e => ?_⟩, st⟩
  · subst q; obtain ⟨ob, e, _⟩ := x.Nin c n; rw [ha] at e; cases e
  · obtain ⟨o, e, f⟩ := x.Nin a h; exact ⟨o, k a o e, f⟩
  · by_cases q : c = a
    · subst q; rw [Store.set_self] at e; cases e; exact r
    · rw [Store.set_ne _ _ q] at e
      exact (x.rep c oc e).ext (Ext.of_keeps k) (fun d h => h.elim (fun h => (dom_set h).elim (fun q => .inr (q ▸ ha)) fun q => .inl (.inl q)) fun h => .inl (.inr h)) (k c)
theorem St.new' (x : Mine.St S tb env N P b m σ s) {h' : Heap} (k : ∀ a o, s.heap.get? a = some o → h'.get? a = some o) (tk : Nat) {a : Addr} (ha : s.heap.get? a = Option.none) {o : AObj}
    (r : RepO S.cv h' (DN N (σ.set a o)) o a) : Mine.St S tb env N P b m (σ.set a o) { s with heap := h', toks := tk } ∧ Step noO noO σ s (σ.set a o) { s with heap := h', toks := tk } := by
  obtain ⟨i, st⟩ := x.inv.new k tk ha r
  exact ⟨x.to st i (fun zz h => h.elim), st⟩
theorem Inv.upd (x : Inv S N σ s) {h' : Heap} {a : Addr} (da : Dom σ a) (k : ∀ c o, c ≠ a → s.heap.get? c = some o → h'.get? c = some o) (tk : Nat) {o : AObj}
    (r : RepO S.cv h' (DN N (σ.set a o)) o a) : Inv S N (σ.set a o) { s with heap := h', toks := tk } ∧ Step noO noO σ s (σ.set a o) { s with heap := h', toks := tk } := by
  have dd : ∀ c, Dom (σ.set a o) c → Dom σ c := fun c h => (dom_set h).elim (fun q => q ▸ da) id
  have e0 : Ext (DN N σ) s.heap h' := Ext.of_but fun c oc d e => k c oc (fun q => d (q ▸ .inl da)) e
  have st : Step noO noO σ s (σ.set a o) { s with heap := h', toks := tk } := Step.of_but (fun c oc d zz e => k c oc (fun q => d (q ▸ da)) e) (fun c h => .inl (dd c h)) (fun c oc e => by
    by_cases q : c = a
    · subst q; obtain ⟨ob, h, _⟩ := r.there; exact ⟨ob, h⟩
    · exact ⟨oc, k c oc q e⟩)
  refine ⟨⟨fun c oc e => k c oc (fun q => ?_) (x.keep c oc e), x.gens, x.drawn, x.os, fun c h => x.σg c (dd c h), fun c h => x.σN c (dd c h), fun c h => ?_, fun c oc e => ?_⟩, st⟩
  · subst q; rw [x.σg c da] at e; cases e
  · obtain ⟨o, e, f⟩ := x.Nin c h; exact ⟨o, k c o (fun q => x.σN a da (q ▸ h)) e, f⟩
  · by_cases q : c = a
    · subst q; rw [Store.set_self] at e; cases e; exact r
    · rw [Store.set_ne _ _ q] at e
      exact (x.rep c oc e).ext e0 (fun d h => .inl (h.imp (dd d) id)) (k c · q)
theorem St.upd (x : Mine.St S tb env N P b m σ s) {h' : Heap} {a : Addr} (da : Dom σ a) (k : ∀ c o, c ≠ a → s.heap.get? c = some o → h'.get? c = some o) (tk : Nat) {o : AObj}
    (r : RepO S.cv h' (DN N (σ.set a o)) o a) : Mine.St S tb env N P b m (σ.set a o) { s with heap := h', toks := tk } ∧ Step noO noO σ s (σ.set a o) { s with heap := h', toks := tk } := by
  obtain ⟨i, st⟩ := x.inv.upd da k tk r
  exact ⟨x.to st i (fun zz h => h.elim), st⟩
theorem Inv.drop (x : Inv S N σ s) (h : ∀ a o, σ' a = some o → σ a = some o) : Inv S N σ' s ∧ Step noO noO σ s σ' s := by
  have dd : ∀ a, Dom σ' a → Dom σ a := fun a d => by
    cases e : σ' a with
    | none => exact absurd e d
    | some o => unfold Dom; rw [h a o e]; simp
  have st : Step noO noO σ s σ' s := Step.of_keeps (fun zz zz e => e) fun a d => .inl (dd a d)
  exact ⟨⟨x.keep, x.gens, x.drawn, x.os, fun a d => x.σg a (dd a d), fun a d => x.σN a (dd a d), x.Nin, fun a o e => (x.rep a o (h a o e)).ext (Ext.refl _ _) (fun b h => .inl (h.imp (dd b) id)) fun zz q => q⟩, st⟩
end
theorem Step.any {P O : Addr → Prop} {σ σ' : Store} {s s' : Shared} (x : Step noO noO σ s σ' s') : Step P O σ s σ' s' := (x.mono fun zz h => h.elim).wide fun zz h => h.elim
noncomputable def Fresh (σ : Store) (o : AObj) (fz : AV) (Q : AV → Store → Prop) : Prop := Q fz σ ∨ ∀ a, ¬ Dom σ a → Q (.loc a) (σ.set a o)
section
variable {F : Fx S} {m : Nat → Option AV} {σ : Store} {X : Value → Shared → Prop} {s : Shared} {Q : AV → Store → Prop}
theorem Rep.st {σ' : Store} {s' : Shared} {av : AV} {v : Value} (r : Rep S.cv s.heap (F.D σ) av v) (x : Step F.P F.O σ s σ' s') (h : F.St m σ' s') : Rep S.cv s'.heap (F.D σ') av v := Mine.Rep.step x h.own h.pN r
theorem RepL.st {σ' : Store} {s' : Shared} {av : List AV} {v : List Value} (r : RepL S.cv s.heap (F.D σ) av v) (x : Step F.P F.O σ s σ' s') (h : F.St m σ' s') : RepL S.cv s'.heap (F.D σ') av v := Mine.RepL.step x h.own h.pN r
theorem now {v : Value} {av : AV} (hs : F.St m σ s) (r : Rep S.cv s.heap (F.D σ) av v) (q : Q av σ) :
    PW F m σ s (PV F Q) v s := ⟨σ, Step.refl _ _ _ _, hs, av, r, q⟩
theorem nowT {v : Value} {av : AV} (t : Nat) (hs : F.St m σ s) (r : Rep S.cv s.heap (F.D σ) av v) (q : Q av σ) :
    PW F m σ s (PV F Q) v { s with toks := t } := ⟨σ, Step.toks _ _ _ _ _, hs.tok t, av, r, q⟩
theorem set_new {a : Addr} {o : AObj} {N : Addr → Prop} (ha : s.heap.get? a = Option.none) : ∀ b, DN N (σ.set a o) b → DN N σ b ∨ s.heap.get? b = Option.none :=
  fun zz h => h.elim (fun h => (dom_set h).elim (fun q => .inr (q ▸ ha)) fun q => .inl (.inl q)) fun h => .inl (.inr h)
theorem fresh_list {h' : Heap} {tk : Nat} {a : Addr} {vs : List Value} {n : Nat} {l : List AV} (hs : F.St m σ s) (k : ∀ b o, s.heap.get? b = some o → h'.get? b = some o) (ha : s.heap.get? a = Option.none)
    (e : h'.get? a = some (lstObj vs.toArray n)) (r : RepL S.cv s.heap (F.D σ) l vs) (q : Fresh σ (.list l) (.list l) Q) :
    PW F m σ s (PV F Q) (.ref a) { s with heap := h', toks := tk } := by
  rcases q with q | q
  · obtain ⟨h1, st⟩ := hs.grow k tk
    exact ⟨σ, st.any, h1, _, .list e (hs.inv.not_D ha) (r.st st.any h1), q⟩
  · obtain ⟨h1, st⟩ := hs.new' k tk ha (o := .list l) (.list e (r.ext (Ext.of_keeps k) (set_new ha)))
    exact ⟨_, st.any, h1, _, .loc a, q a (hs.inv.not_dom ha)⟩
theorem fresh_dict {h' : Heap} {tk : Nat} {a : Addr} {es : List DictEntry} {n : Nat} {l : List (Spot × AV)} (hs : F.St m σ s) (k : ∀ b o, s.heap.get? b = some o → h'.get? b = some o) (ha : s.heap.get? a = Option.none)
    (e : h'.get? a = some (dctObj es.toArray n)) (nd : (l.map (·.1)).Nodup) (r : RepD S.cv s.heap (F.D σ) l es) (q : Fresh σ (.dict l) (.dict l) Q) :
    PW F m σ s (PV F Q) (.ref a) { s with heap := h', toks := tk } := by
  rcases q with q | q
  · obtain ⟨h1, st⟩ := hs.grow k tk
    exact ⟨σ, st.any, h1, _, .dict e (hs.inv.not_D ha) (hs.inv.not_sm ha) nd (r.step st.any h1.own h1.pN), q⟩
  · obtain ⟨h1, st⟩ := hs.new' k tk ha (o := .dict l) (.dict e (hs.inv.not_sm ha) nd (r.ext (Ext.of_keeps k) (set_new ha)))
    exact ⟨_, st.any, h1, _, .loc a, q a (hs.inv.not_dom ha)⟩
theorem get_size (h : Heap) : h.get? h.objs.size = Option.none := by
  cases q : h.get? h.objs.size with
  | none => rfl
  | some o => exact absurd (Heap.lt_size q) (Nat.lt_irrefl _)
theorem push_keeps (h : Heap) (o : Obj) : ∀ b ob, h.get? b = some ob → (h.push o).get? b = some ob := fun zz zz e => Heap.get?_push_of_some o e
theorem new_tuple {h' : Heap} {tk : Nat} {a : Addr} {vs : List Value} {n : Nat} {l : List AV} (hs : F.St m σ s) (k : ∀ b o, s.heap.get? b = some o → h'.get? b = some o) (ha : s.heap.get? a = Option.none)
    (e : h'.get? a = some (tupObj vs.toArray n)) (r : RepL S.cv s.heap (F.D σ) l vs) (q : Q (.tup l) σ) :
    PW F m σ s (PV F Q) (.ref a) { s with heap := h', toks := tk } := by
  obtain ⟨h1, st⟩ := hs.grow k tk
  exact ⟨σ, st.any, h1, _, .tup e (hs.inv.not_D ha) (r.st st.any h1), q⟩
end
end Mine
end
section
namespace Mine
open PySem PyProof.Rows
variable {prog : Program} {w : World} {S : Sta prog w}
section
variable {F : Fx S} {m : Nat → Option AV} {σ : Store} {X : Value → Shared → Prop} {Q : AV → Store → Prop}
theorem ET.mono {e : E} {Q' : AV → Store → Prop} (h : ET F m σ e Q X) (k : ∀ a σ, Q a σ → Q' a σ) : ET F m σ e Q' X :=
  fun pe hc s hs => (h pe hc s hs).mono fun _ _ _ _ _ ⟨av, r, q⟩ => ⟨av, r, k _ _ q⟩
theorem TT.mono {e : E} {Q Q' : Bool → Store → Prop} (h : TT F m σ e Q X) (k : ∀ a σ, Q a σ → Q' a σ) : TT F m σ e Q' X :=
  fun pe hc s hs => (h pe hc s hs).mono fun zz zz zz zz zz q => k _ _ q
theorem ET.none (h : Q .none σ) : ET F m σ .none Q X := by
  intro pe hc s hs; obtain ⟨_, _, rfl⟩ := hc.inv; exact wpAny_Constant_none (now hs .none h)
theorem ET.bool {b : Bool} (h : Q (.bool b) σ) : ET F m σ (.bool b) Q X := by
  intro pe hc s hs; obtain ⟨_, _, rfl⟩ := hc.inv; exact wpAny_Constant_bool (now hs (.bool b) h)
theorem ET.int {i : Int} (h : Q (.int i) σ) : ET F m σ (.int i) Q X := by
  intro pe hc s hs; obtain ⟨_, _, rfl⟩ := hc.inv; exact wpAny_Constant_int (nowT _ hs (.int i _) h)
theorem ET.str {x : Str} (h : Q (.str x) σ) : ET F m σ (.str x) Q X := by
  intro pe hc s hs; obtain ⟨_, _, rfl⟩ := hc.inv; exact wpAny_Constant_str (nowT _ hs (.str x _) h)
theorem load_v {i : Nat} {x : Str} {av : AV} {s : Shared} {Q' : Value → Shared → Prop} (hx : IsV F.tb F.sc x i) (hm : m i = some av) (hs : F.St m σ s) (h : ∀ v, Rep S.cv s.heap (F.D σ) av v → Q' v s)
: wpAny (model prog w) F.A (loadName F.env x) Q' X s := by
  obtain ⟨mc, cm, n, c, _, ap, _, r⟩ := hs.loc
  have := r x i av hx.ix hm
  have kd : F.env.kindOf x = F.sc.lookup x := rfl
  rcases hx.kind with q | q | q
  · rw [kd, q] at this
    obtain ⟨v, h1, h2⟩ := this
    exact wpAny_loadName_local F.fk (kd.trans q) n h1 (h v h2)
  · rw [kd, q] at this
    obtain ⟨v, cc, h0, h1, h2⟩ := this
    have := c x cc h0
    rw [h1] at this
    exact wpAny_loadName_cell F.fk (kd.trans q) h0 this (h v h2)
  · rw [kd, q] at this
    obtain ⟨v, cc, h0, h1, h2⟩ := this
    have := c x cc h0
    rw [h1] at this
    exact wpAny_loadName_free F.fk (kd.trans q) h0 this (h v h2) (okName_cd hx.ok)
theorem ET.v {i : Nat} {av : AV} (hm : m i = some av) (h : Q av σ) : ET F m σ (.v i) Q X := by
  intro pe hc s hs
  obtain ⟨_, _, rfl, hx⟩ := hc.inv
  exact wpAny_Name (load_v hx hm hs fun v r => now hs r h) (okName_debug hx.ok)
structure Glob (S : Sta prog w) (i : Nat) (v : Value) : Prop where
  at_ : ∀ x, ixS GT x = some i → S.mg x = some v ∨ (S.mg x = Option.none ∧ S.mb x = some v)
theorem load_g {A : Around} {i : Nat} {x : Str} {pos : Pos} {v : Value} {s : Shared} {Q' : Value → Shared → Prop} (hx : IsG F.sc x i) (hg : Glob S i v) (hs : F.St m σ s) (h : Q' v s) : wpAny (model prog w) A (eval (.Name x pos) F.env) Q' X s := by
  have ng : s.heap.Ns F.env.globals S.mg := by rw [F.fg]; exact S.ng.keeps hs.inv.keep
  have nb : s.heap.Ns F.env.builtins S.mb := by rw [F.fb]; exact S.nb.keeps hs.inv.keep
  rcases hg.at_ x hx.ix with q | ⟨q, q'⟩
  · exact Calls.Name_function_global F.fk hx.kind (Calls.loadGlobal_global ng q h) (okName_debug hx.ok)
  · exact Calls.Name_function_global F.fk hx.kind (Calls.loadGlobal_builtin ng q nb q' h) (okName_debug hx.ok)
theorem ET.g_int {i : Nat} {n : Int} {t : Tok} (hg : Glob S i (.int n t)) (h : Q (.int n) σ) : ET F m σ (.g i) Q X := by
  intro pe hc s hs
  obtain ⟨_, _, rfl, hx⟩ := hc.inv
  exact load_g hx hg hs (now hs (.int n t) h)
theorem EsT.nil {Q : List AV → Store → Prop} (h : Q [] σ) : EsT F m σ [] Q X := by
  intro pes pos hc s hs
  obtain rfl := hc.inv_nil
  exact wpAny_items_nil ⟨σ, Step.refl _ _ _ _, hs, [], .nil, h⟩
theorem starEach_cons {e : PySem.Expr} {r : List PySem.Expr} {env : Env} (h : notStar e = true) : starEach (e :: r) env = (false, eval e env) :: starEach r env := by
  cases e <;> first | rfl | cases h
theorem EsT.cons {e : E} {r : List E} {Q : List AV → Store → Prop} (h : ET F m σ e (fun a σ₁ => EsT F m σ₁ r (fun as σ₂ => Q (a :: as) σ₂) X) X) : EsT F m σ (e :: r) Q X := by
  intro pes pos hc s hs
  obtain ⟨_, _, rfl, hn, he, hr⟩ := hc.inv
  refine wpAny_items_cons ?_ (starEach_cons hn)
  refine (h _ he s hs).out ?_
  rintro va σ₁ s₁ st₁ h₁ ⟨a, ra, q₁⟩
  refine (q₁ _ _ hr s₁ h₁).out ?_
  rintro vs σ₂ s₂ st₂ h₂ ⟨as, rs, q₂⟩
  exact ⟨σ₂, st₁.trans st₂, h₂, a :: as, .cons (ra.st st₂ h₂) rs, q₂⟩
theorem RepL.length {cv : Nat → Value} {h : Heap} {D : Addr → Prop} {l : List AV} {vs : List Value} (r : RepL cv h D l vs) : vs.length = l.length := by
  induction l generalizing vs with
  | nil => rw [show vs = [] from r.inv]; rfl
  | cons x l ih => obtain ⟨v, us, rfl, _, b⟩ := r.inv; exact congrArg Nat.succ (ih b)
noncomputable abbrev big : Nat := 1000000
theorem big_ok {n : Nat} (h : n ≤ big) : n ≤ sizeLine := by unfold big at h; rw [sizeLine_eq]; omega
theorem ET.tup {es : List E} (h : EsT F m σ es (fun l σ' => l.length ≤ big ∧ Q (.tup l) σ') X) : ET F m σ (.tup es) Q X := by
  intro pe hc s hs
  obtain ⟨_, _, _, rfl, he⟩ := hc.inv
  refine wpAny_Tuple ((h _ _ he s hs).out ?_)
  rintro vs σ₁ s₁ st₁ h₁ ⟨l, r, hz, q⟩
  refine ⟨big_ok (by rw [r.length]; exact hz), ?_⟩
  obtain ⟨σ', st, h2, r2⟩ := new_tuple (tk := s₁.toks) h₁ (push_keeps _ _) (get_size _) (Heap.get?_push_size _ rfl) r q
  exact ⟨σ', st₁.trans st, h2, r2⟩
theorem ET.list {es : List E} (h : EsT F m σ es (fun l σ' => l.length ≤ big ∧ Fresh σ' (.list l) (.list l) Q) X) : ET F m σ (.list es) Q X := by
  intro pe hc s hs
  obtain ⟨_, _, rfl, he⟩ := hc.inv
  refine wpAny_List ((h _ _ he s hs).out ?_)
  rintro vs σ₁ s₁ st₁ h₁ ⟨l, r, hz, q⟩
  refine ⟨big_ok (by rw [r.length]; exact hz), ?_⟩
  obtain ⟨σ', st, h2, r2⟩ := fresh_list (tk := s₁.toks) h₁ (push_keeps _ _) (get_size _) (Heap.get?_push_size _ rfl) r q
  exact ⟨σ', st₁.trans st, h2, r2⟩
noncomputable def BT (F : Fx S) (m : Nat → Option AV) (σ : Store) (op : Operator) (a b : AV) (Q : AV → Store → Prop) (X : Value → Shared → Prop) : Prop :=
  ∀ va vb s, F.St m σ s → Rep S.cv s.heap (F.D σ) a va → Rep S.cv s.heap (F.D σ) b vb → VT F m σ s (binaryOp op va vb) Q X
noncomputable def KT (F : Fx S) (m : Nat → Option AV) (σ : Store) (op : CmpOp) (a b : AV) (Q : Bool → Store → Prop) (X : Value → Shared → Prop) : Prop :=
  ∀ va vb s, F.St m σ s → Rep S.cv s.heap (F.D σ) a va → Rep S.cv s.heap (F.D σ) b vb → W F m σ s (compareOp op va vb) (fun v σ' zz => ∃ c, v = .bool c ∧ Q c σ') X
theorem ET.bin {op : Operator} {l r : E} (h : ET F m σ l (fun a σ₁ => ET F m σ₁ r (fun b σ₂ => BT F m σ₂ op a b Q X) X) X) : ET F m σ (.bin op l r) Q X := by
  intro pe hc s hs
  obtain ⟨_, _, _, rfl, hl, hr⟩ := hc.inv
  refine wpAny_BinOp ((h _ hl s hs).out ?_)
  rintro va σ₁ s₁ st₁ h₁ ⟨a, ra, q₁⟩
  refine (q₁ _ hr s₁ h₁).out ?_
  rintro vb σ₂ s₂ st₂ h₂ ⟨b, rb, q₂⟩
  exact (q₂ va vb s₂ h₂ (ra.st st₂ h₂) rb).later (st₁.trans st₂)
theorem BT.add {a b : Int} (h : Q (.int (a + b)) σ) : BT F m σ .Add (.int a) (.int b) Q X := by
  intro va vb s hs ra rb; obtain ⟨_, rfl⟩ := ra.inv; obtain ⟨_, rfl⟩ := rb.inv; exact add_int (nowT _ hs (.int _ _) h)
theorem BT.sub {a b : Int} (h : Q (.int (a - b)) σ) : BT F m σ .Sub (.int a) (.int b) Q X := by
  intro va vb s hs ra rb; obtain ⟨_, rfl⟩ := ra.inv; obtain ⟨_, rfl⟩ := rb.inv; exact sub_int (nowT _ hs (.int _ _) h)
theorem BT.mul {a b : Int} (hm : IntMulOk a b) (h : Q (.int (a * b)) σ) : BT F m σ .Mult (.int a) (.int b) Q X := by
  intro va vb s hs ra rb; obtain ⟨_, rfl⟩ := ra.inv; obtain ⟨_, rfl⟩ := rb.inv; exact mul_int (nowT _ hs (.int _ _) h) hm
theorem BT.mod {a b : Int} (hb : b ≠ 0) (h : Q (.int (a.fmod b)) σ) : BT F m σ .Mod (.int a) (.int b) Q X := by
  intro va vb s hs ra rb; obtain ⟨_, rfl⟩ := ra.inv; obtain ⟨_, rfl⟩ := rb.inv; exact mod_int hb (nowT _ hs (.int _ _) h)
theorem BT.div {a b : Int} (hb : b ≠ 0) (hb' : b.natAbs < 1073741824) (h : Q (.int (a.fdiv b)) σ) : BT F m σ .FloorDiv (.int a) (.int b) Q X := by
  intro va vb s hs ra rb; obtain ⟨_, rfl⟩ := ra.inv; obtain ⟨_, rfl⟩ := rb.inv; exact floordiv_int hb (nowT _ hs (.int _ _) h) (.inl (PyProof.noPylong_small hb'))
theorem BT.addStr {a b : Str} (hz : a.length + b.length ≤ big) (h : Q (.str (a ++ b)) σ) : BT F m σ .Add (.str a) (.str b) Q X := by
  intro va vb s hs ra rb; obtain ⟨_, rfl⟩ := ra.inv; obtain ⟨_, rfl⟩ := rb.inv; exact add_str (fun t' tk => nowT tk hs (.str _ _) h) (big_ok hz)
theorem BT.mulStr {a : Str} {n : Int} (hok : MulOk a n) (h : Q (.str (Txt.mul a n)) σ) : BT F m σ .Mult (.str a) (.int n) Q X := by
  intro va vb s hs ra rb; obtain ⟨_, rfl⟩ := ra.inv; obtain ⟨_, rfl⟩ := rb.inv; exact SB.mul hok (fun t' tk => nowT tk hs (.str _ _) h)
end
end Mine
end
section
namespace Mine
open PySem PyProof.Rows
variable {prog : Program} {w : World} {S : Sta prog w}
noncomputable def dl (σ : Store) : AV → Option (List AV)
  | .list l => some l
  | .loc a => match σ a with
    | some (.list l) => some l
    | _ => Option.none
  | _ => Option.none
noncomputable def dd (σ : Store) : AV → Option (List (Spot × AV))
  | .dict l => some l
  | .loc a => match σ a with
    | some (.dict l) => some l
    | _ => Option.none
  | _ => Option.none
theorem dl_list (σ : Store) (l : List AV) : dl σ (.list l) = some l := rfl
theorem dd_dict (σ : Store) (l : List (Spot × AV)) : dd σ (.dict l) = some l := rfl
theorem dl_loc {σ : Store} {a : Addr} {l : List AV} (h : σ a = some (.list l)) : dl σ (.loc a) = some l := by simp [dl, h]
theorem dd_loc {σ : Store} {a : Addr} {l : List (Spot × AV)} (h : σ a = some (.dict l)) : dd σ (.loc a) = some l := by simp [dd, h]
section
variable {N : Addr → Prop} {σ : Store} {s : Shared}
theorem Rep.lst {a : AV} {v : Value} {l : List AV} (r : Rep S.cv s.heap (DN N σ) a v) (hs : Inv S N σ s) (h : dl σ a = some l) :
    ∃ ad vs n, v = .ref ad ∧ s.heap.get? ad = some (lstObj (List.toArray vs) n) ∧ RepL S.cv s.heap (DN N σ) l vs := by
  cases a with
  | list l' => obtain ⟨a, b, c, e, f, _, r⟩ := r.inv; exact ⟨a, b, c, e, f, Option.some.inj h ▸ r⟩
  | loc ad =>
    unfold dl at h
    dsimp only at h
    cases e : σ ad with
    | none => rw [e] at h; cases h
    | some o =>
      rw [e] at h
      cases o with
      | list l' => obtain ⟨vs, n, g, q⟩ := (hs.rep ad _ e).inv; exact ⟨ad, vs, n, r.inv, g, Option.some.inj h ▸ q⟩
      | _ => exact (no_some rfl h).elim
  | _ => exact (no_some rfl h).elim
theorem Rep.dct {a : AV} {v : Value} {l : List (Spot × AV)} (r : Rep S.cv s.heap (DN N σ) a v) (hs : Inv S N σ s) (h : dd σ a = some l) :
    ∃ ad es n, v = .ref ad ∧ s.heap.get? ad = some (dctObj (List.toArray es) n) ∧ (ad == sysModules) = false ∧ (l.map (·.1)).Nodup ∧ RepD S.cv s.heap (DN N σ) l es := by
  cases a with
  | dict l' => obtain ⟨a, b, c, e, f, _, r⟩ := r.inv; exact ⟨a, b, c, e, f, Option.some.inj h ▸ r⟩
  | loc ad =>
    unfold dd at h
    dsimp only at h
    cases e : σ ad with
    | none => rw [e] at h; cases h
    | some o =>
      rw [e] at h
      cases o with
      | dict l' => obtain ⟨vs, n, g, q⟩ := (hs.rep ad _ e).inv; exact ⟨ad, vs, n, r.inv, g, Option.some.inj h ▸ q⟩
      | _ => exact (no_some rfl h).elim
  | _ => exact (no_some rfl h).elim
end
mutual
noncomputable def toPy : AV → Option PyData
  | .none => some .none
  | .bool b => some (.bool b)
  | .int i => some (.int i)
  | .str s => some (.str s)
  | .tup l => (toPyL l).map .tuple
  | .list l => (toPyL l).map .list
  | .dict _ => Option.none
  | .inst _ => Option.none
  | .loc _ => Option.none
  | .exc _ => Option.none
  | .range _ _ _ => Option.none
  | .nums _ => Option.none
  | .cls _ => Option.none
noncomputable def toPyL : List AV → Option (List PyData)
  | [] => some []
  | x :: l => (toPy x).bind fun d => (toPyL l).map fun ds => d :: ds
end
theorem rd_some {h : Heap} {v : Value} {d d' : PyData} (e : some d = some d') (r : ∃ as, Reads h v d as) : ∃ as, Reads h v d' as := Option.some.inj e ▸ r
theorem rdl_nil {h : Heap} {ds : List PyData} (e : some [] = some ds) : ∃ as, ReadsAll h [] ds as := Option.some.inj e ▸ ⟨_, .nil⟩
theorem Rep.reads {cv : Nat → Value} {h : Heap} {D : Addr → Prop} {a : AV} {v : Value} (r : Rep cv h D a v) : ∀ {d : PyData}, toPy a = some d → ∃ as, Reads h v d as :=
  Rep.rec (motive_1 := fun a v zz => ∀ {d : PyData}, toPy a = some d → ∃ as, Reads h v d as) (motive_2 := fun l vs zz => ∀ {ds : List PyData}, toPyL l = some ds → ∃ as, ReadsAll h vs ds as) (motive_3 := fun zz zz zz => True) (motive_4 := fun zz zz zz => True)
    (fun e => rd_some e ⟨_, .none⟩) (fun b zz e => rd_some e ⟨_, .bool b⟩) (fun i t zz e => rd_some e ⟨_, .int i t⟩) (fun x t zz e => rd_some e ⟨_, .str x t⟩)
    (fun g zz zz ih zz e => by
      obtain ⟨ds, e1, rfl⟩ := Option.map_eq_some_iff.mp e
      obtain ⟨as, q⟩ := ih e1
      exact ⟨as, .tuple g rfl rfl q⟩)
    (fun g zz zz ih zz e => by
      obtain ⟨ds, e1, rfl⟩ := Option.map_eq_some_iff.mp e
      obtain ⟨as, q⟩ := ih e1
      exact ⟨_, .list g rfl rfl q⟩)
    (fun zz zz zz zz zz zz zz e => (no_some rfl e).elim) (fun zz zz zz zz zz zz zz zz e => (no_some rfl e).elim) (fun zz zz e => (no_some rfl e).elim) (fun zz zz zz zz zz zz e => (no_some rfl e).elim) (fun zz zz zz e => (no_some rfl e).elim) (fun zz zz e => (no_some rfl e).elim) (fun zz zz zz zz zz zz e => (no_some rfl e).elim)
    (fun e => rdl_nil e)
    (fun zz zz ih1 ih2 zz e => by
      obtain ⟨d, e1, e⟩ := Option.bind_eq_some_iff.mp e
      obtain ⟨ds, e2, rfl⟩ := Option.map_eq_some_iff.mp e
      obtain ⟨as, q⟩ := ih1 e1
      obtain ⟨bs, q'⟩ := ih2 e2
      exact ⟨_, .cons q q'⟩)
    trivial (fun zz zz zz zz zz zz => trivial) trivial (fun zz zz zz zz => trivial) r
theorem RepL.reads {cv : Nat → Value} {h : Heap} {D : Addr → Prop} {l : List AV} {vs : List Value} {ds : List PyData} (r : RepL cv h D l vs) (e : toPyL l = some ds) : ∃ as, ReadsAll h vs ds as := by
  induction l generalizing vs ds with
  | nil => rw [show vs = [] from r.inv]; exact rdl_nil e
  | cons x l ih =>
    obtain ⟨v, us, rfl, a, b⟩ := r.inv
    obtain ⟨d, e1, e⟩ := Option.bind_eq_some_iff.mp e
    obtain ⟨ds, e2, rfl⟩ := Option.map_eq_some_iff.mp e
    obtain ⟨as, q⟩ := a.reads e1
    obtain ⟨bs, q'⟩ := ih b e2
    exact ⟨_, .cons q q'⟩
noncomputable def toPyS (σ : Store) (a : AV) : Option PyData := match a with
  | .loc _ => (dl σ a).bind fun l => (toPyL l).map .list
  | a => toPy a
theorem Rep.readsS {N : Addr → Prop} {σ : Store} {s : Shared} {a : AV} {v : Value} {d : PyData} (r : Rep S.cv s.heap (DN N σ) a v) (hs : Inv S N σ s) (h : toPyS σ a = some d) : ∃ as, Reads s.heap v d as := by
  cases a with
  | loc ad =>
    simp only [toPyS, Option.bind_eq_some_iff, Option.map_eq_some_iff] at h
    obtain ⟨l, h1, ds, h2, rfl⟩ := h
    obtain ⟨ad, vs, n, rfl, e, rl⟩ := r.lst hs h1
    obtain ⟨as, q⟩ := rl.reads h2
    exact ⟨_, .list e rfl rfl (by simpa using q)⟩
  | _ => exact r.reads h
theorem RepL.app {cv : Nat → Value} {h : Heap} {D : Addr → Prop} {l k : List AV} {vs ws : List Value} (r1 : RepL cv h D l vs) (r2 : RepL cv h D k ws) : RepL cv h D (l ++ k) (vs ++ ws) := by
  induction l generalizing vs with
  | nil => rw [show vs = [] from r1.inv]; exact r2
  | cons v l ih => obtain ⟨u, us, rfl, a, b⟩ := r1.inv; exact .cons a (ih b)
section
variable {F : Fx S} {m : Nat → Option AV} {σ : Store} {X : Value → Shared → Prop} {Q : AV → Store → Prop}
theorem BT.addList {a b : AV} {l k : List AV} (ha : dl σ a = some l) (hb : dl σ b = some k) (hz : l.length + k.length ≤ big) (h : Fresh σ (.list (l ++ k)) (.list (l ++ k)) Q) : BT F m σ .Add a b Q X := by
  intro va vb s hs ra rb
  obtain ⟨ad, vs, n, rfl, e, rl⟩ := ra.lst hs.inv ha
  obtain ⟨bd, ws, n2, rfl, e2, rk⟩ := rb.lst hs.inv hb
  have hz' : vs.toArray.size + ws.toArray.size ≤ sizeLine := by
    have h1 := rl.length; have h2 := rk.length
    simp only [List.size_toArray]
    exact big_ok (by omega)
  refine concat_meets ⟨_, e, rfl⟩ ⟨_, e2, rfl⟩ noFill_list_add seq_list_add PySem.F.slot_list_add PySem.F.entry_list_add (PySem.F.args_list_add_2 _ _) (list_addW ad bd vs.toArray ws.toArray n n2 Option.none Option.none #[] #[] hz') ⟨e, e2, ?_⟩
  have q : vs.toArray ++ ws.toArray = (vs ++ ws).toArray := by simp
  rw [q]
  exact fresh_list (tk := s.toks) hs (push_keeps _ _) (get_size _) (Heap.get?_push_size _ rfl) (rl.app rk) h
theorem KT.intEq {a b : Int} {Q : Bool → Store → Prop} (h : Q (a == b) σ) : KT F m σ .Eq (.int a) (.int b) Q X := by
  intro va vb s hs ra rb; obtain ⟨_, rfl⟩ := ra.inv; obtain ⟨_, rfl⟩ := rb.inv; exact eq_int ⟨σ, Step.refl _ _ _ _, hs, _, rfl, h⟩
theorem KT.intNe {a b : Int} {Q : Bool → Store → Prop} (h : Q (a != b) σ) : KT F m σ .NotEq (.int a) (.int b) Q X := by
  intro va vb s hs ra rb; obtain ⟨_, rfl⟩ := ra.inv; obtain ⟨_, rfl⟩ := rb.inv; exact ne_int ⟨σ, Step.refl _ _ _ _, hs, _, rfl, h⟩
theorem KT.intLt {a b : Int} {Q : Bool → Store → Prop} (h : Q (decide (a < b)) σ) : KT F m σ .Lt (.int a) (.int b) Q X := by
  intro va vb s hs ra rb; obtain ⟨_, rfl⟩ := ra.inv; obtain ⟨_, rfl⟩ := rb.inv; exact lt_int ⟨σ, Step.refl _ _ _ _, hs, _, rfl, h⟩
theorem KT.intLe {a b : Int} {Q : Bool → Store → Prop} (h : Q (decide (a ≤ b)) σ) : KT F m σ .LtE (.int a) (.int b) Q X := by
  intro va vb s hs ra rb; obtain ⟨_, rfl⟩ := ra.inv; obtain ⟨_, rfl⟩ := rb.inv; exact le_int ⟨σ, Step.refl _ _ _ _, hs, _, rfl, h⟩
theorem KT.intGt {a b : Int} {Q : Bool → Store → Prop} (h : Q (decide (b < a)) σ) : KT F m σ .Gt (.int a) (.int b) Q X := by
  intro va vb s hs ra rb; obtain ⟨_, rfl⟩ := ra.inv; obtain ⟨_, rfl⟩ := rb.inv; exact gt_int ⟨σ, Step.refl _ _ _ _, hs, _, rfl, h⟩
theorem KT.eq {a b : AV} {da db : PyData} {Q : Bool → Store → Prop} (ha : toPyS σ a = some da) (hb : toPyS σ b = some db) (sa : SeqAt.shaped da = true) (sb : SeqAt.shaped db = true) (h : Q (PyData.eqv da db) σ) : KT F m σ .Eq a b Q X := by
  intro va vb s hs ra rb
  obtain ⟨as, ra⟩ := ra.readsS hs.inv ha
  obtain ⟨bs, rb⟩ := rb.readsS hs.inv hb
  exact eq_dataH ra rb sa sb (by have := F.room.un; unfold cLine; omega) ⟨σ, Step.refl _ _ _ _, hs, _, rfl, h⟩
theorem KT.ne {a b : AV} {da db : PyData} {Q : Bool → Store → Prop} (ha : toPyS σ a = some da) (hb : toPyS σ b = some db) (sa : SeqAt.shaped da = true) (sb : SeqAt.shaped db = true) (h : Q (!PyData.eqv da db) σ) : KT F m σ .NotEq a b Q X := by
  intro va vb s hs ra rb
  obtain ⟨as, ra⟩ := ra.readsS hs.inv ha
  obtain ⟨bs, rb⟩ := rb.readsS hs.inv hb
  exact ne_dataH ra rb sa sb (by have := F.room.un; unfold cLine; omega) ⟨σ, Step.refl _ _ _ _, hs, _, rfl, h⟩
noncomputable def key (k : Spot) : List Int := [k.1, k.2]
class inductive XsOf (cv : Nat → Value) (h : Heap) (D : Addr → Prop) : List (Spot × AV) → List (List Int × Addr × Value) → Prop
  | nil : XsOf cv h D [] []
  | cons {k : Spot} {x : AV} {l : List (Spot × AV)} {t : Addr} {tx ty : Tok} {n : Nat} {v : Value} {xs : List (List Int × Addr × Value)} :
      h.get? t = some (tupObj #[.int k.1 tx, .int k.2 ty] n) → ¬ D t → Rep cv h D x v → XsOf cv h D l xs → XsOf cv h D ((k, x) :: l) ((key k, t, v) :: xs)
theorem isKey {h : Heap} {k : Spot} {t : Addr} {tx ty : Tok} {n : Nat} (e : h.get? t = some (tupObj #[.int k.1 tx, .int k.2 ty] n)) : IsTupleKey (intKind prog w) h (key k) t :=
  ⟨_, _, n, e, rfl, rfl, .cons (by simp [intKind, Value.isInt]) (.cons (by simp [intKind, Value.isInt]) .nil)⟩
theorem RepD.xs {cv : Nat → Value} {h : Heap} {D : Addr → Prop} {l : List (Spot × AV)} {es : List DictEntry} (r : RepD cv h D l es) : ∃ xs, XsOf cv h D l xs ∧ es = xs.map (entryOfKey (tupleKind (intKind prog w))) := by
  induction l generalizing es with
  | nil => exact ⟨[], .nil, r.inv⟩
  | cons p l ih =>
    obtain ⟨t, tx, ty, n, v, r, rfl, e, d, q, rs⟩ := r.inv
    obtain ⟨xs, h1, h2⟩ := ih rs
    exact ⟨_, .cons e d q h1, by rw [h2]; rfl⟩
theorem XsOf.repD {cv : Nat → Value} {h : Heap} {D : Addr → Prop} {l : List (Spot × AV)} {xs : List (List Int × Addr × Value)} (r : XsOf cv h D l xs) : RepD cv h D l (xs.map (entryOfKey (tupleKind (intKind prog w)))) := by
  induction r with
  | nil => exact .nil
  | cons e d r _ ih => exact .cons e d r ih
theorem key_inj {a b : Spot} (h : key a = key b) : a = b := by
  obtain ⟨a1, a2⟩ := a; obtain ⟨b1, b2⟩ := b
  simp only [key, List.cons.injEq, and_true] at h
  rw [h.1, h.2]
theorem XsOf.keys {cv : Nat → Value} {h : Heap} {D : Addr → Prop} {l : List (Spot × AV)} {xs : List (List Int × Addr × Value)} (r : XsOf cv h D l xs) : xs.map (·.1) = l.map fun p => key p.1 := by
  induction r with
  | nil => rfl
  | cons _ _ _ _ ih => rw [List.map_cons, List.map_cons, ih]
theorem nodup_keys {l : List (Spot × AV)} (h : (l.map (·.1)).Nodup) : (l.map fun p => key p.1).Nodup := by
  have : (l.map fun p => key p.1) = (l.map (·.1)).map key := by rw [List.map_map]; rfl
  rw [this]
  exact List.pairwise_map.mpr (h.imp fun hne q => hne (key_inj q))
theorem XsOf.is {cv : Nat → Value} {h : Heap} {D : Addr → Prop} {l : List (Spot × AV)} {xs : List (List Int × Addr × Value)} (r : XsOf cv h D l xs) : ∀ x ∈ xs, (tupleKind (intKind prog w)).is h x.1 x.2.1 := by
  induction r with
  | nil => exact fun zz hx => absurd hx List.not_mem_nil
  | cons e _ _ _ ih => exact fun x hx => (List.mem_cons.mp hx).elim (fun q => q ▸ isKey e) (ih x)
theorem dictH {cv : Nat → Value} {h : Heap} {D : Addr → Prop} {l : List (Spot × AV)} {xs : List (List Int × Addr × Value)} {d : Addr} {n : Nat} (x : XsOf cv h D l xs) (nd : (l.map (·.1)).Nodup)
    (e : h.get? d = some (dctObj (xs.map (entryOfKey (tupleKind (intKind prog w)))).toArray n)) : h.DictOfH (tupleKind (intKind prog w)) d xs :=
  ⟨_, _, n, e, ⟨rfl, rfl, rfl⟩, rfl, by simp, x.is, by rw [x.keys]; exact nodup_keys nd⟩
noncomputable def dget (l : List (Spot × AV)) (k : Spot) : Option AV := (l.find? fun p => decide (p.1 = k)).map (·.2)
theorem XsOf.at_ {cv : Nat → Value} {h : Heap} {D : Addr → Prop} (k : Spot) {l : List (Spot × AV)} {xs : List (List Int × Addr × Value)} (r : XsOf cv h D l xs) :
    match dget l k, atKey xs (key k) with
    | some av, some p => Rep cv h D av p.2
    | Option.none, Option.none => True
    | _, _ => False := by
  induction r with
  | nil => exact trivial
  | @cons k' x l t _ _ _ v xs e d r rs ih =>
    unfold dget atKey at ih ⊢
    by_cases q : k' = k
    · subst q; simp only [List.find?_cons, decide_true, Option.map_some]; exact r
    · have q' : ¬ key k' = key k := fun z => q (key_inj z)
      simp only [List.find?_cons, decide_eq_false q, decide_eq_false q']
      exact ih
noncomputable abbrev sp (k : Spot) : AV := .tup [.int k.1, .int k.2]
theorem Rep.spot {cv : Nat → Value} {h : Heap} {D : Addr → Prop} {k : Spot} {v : Value} (r : Rep cv h D (sp k) v) : ∃ t tx ty n, v = .ref t ∧ h.get? t = some (tupObj #[.int k.1 tx, .int k.2 ty] n) ∧ ¬ D t := by
  obtain ⟨t, vs, n, rfl, e, d, r⟩ := r.inv
  obtain ⟨v, us, rfl, r1, rr⟩ := r.inv
  obtain ⟨u, ws, rfl, r2, rz⟩ := rr.inv
  obtain rfl := rz.inv
  obtain ⟨tx, rfl⟩ := r1.inv
  obtain ⟨ty, rfl⟩ := r2.inv
  exact ⟨_, _, _, _, rfl, e, d⟩
theorem room_in1 (F : Fx S) : (tupleKind (intKind prog w)).room F.A.in1 := by
  show F.A.in1.units < cLine
  have := F.room.un; unfold cLine; simp; omega
theorem room_0 (F : Fx S) : (tupleKind (intKind prog w)).room F.A := by
  show F.A.units < cLine
  have := F.room.un; unfold cLine; omega
theorem KT.inDict {k : Spot} {b : AV} {l : List (Spot × AV)} {Q : Bool → Store → Prop} (hb : dd σ b = some l) (h : Q (dget l k).isSome σ) : KT F m σ .In (sp k) b Q X := by
  intro va vb s hs ra rb
  obtain ⟨t, tx, ty, n, rfl, e, d⟩ := ra.spot
  obtain ⟨ad, es, n', rfl, e', sm, nd, rd⟩ := rb.dct hs.inv hb
  obtain ⟨xs, hx, rfl⟩ := RepD.xs (prog := prog) (w := w) rd
  have q := hx.at_ k
  refine wpAny_in_heap (room_in1 F) (isKey e) sm (dictH hx nd e') ⟨σ, Step.toks _ _ _ _ _, hs.tok _, _, rfl, ?_⟩
  have : (atKey xs (key k)).isSome = (dget l k).isSome := by
    revert q
    cases dget l k <;> cases atKey xs (key k) <;> simp
  rw [this]; exact h
theorem marks_of {op : CmpOp} {r : PySem.Expr} (h : notSet r = true) : behindInMarks op r = false := by
  cases r <;> first | rfl | cases h
theorem ET.cmp {op : CmpOp} {l r : E} (h : ET F m σ l (fun a σ₁ => ET F m σ₁ r (fun b σ₂ => KT F m σ₂ op a b (fun c σ₃ => Q (.bool c) σ₃) X) X) X) : ET F m σ (.cmp op l r) Q X := by
  intro pe hc s hs
  obtain ⟨_, _, _, rfl, hn, hl, hr⟩ := hc.inv
  refine wpAny_Compare1 ((h _ hl s hs).out ?_) (marks_of hn)
  rintro va σ₁ s₁ st₁ h₁ ⟨a, ra, q₁⟩
  refine (q₁ _ hr s₁ h₁).out ?_
  rintro vb σ₂ s₂ st₂ h₂ ⟨b, rb, q₂⟩
  refine (q₂ va vb s₂ h₂ (ra.st st₂ h₂) rb).out ?_
  rintro v σ₃ s₃ st₃ h₃ ⟨c, rfl, q₃⟩
  exact ⟨σ₃, (st₁.trans st₂).trans st₃, h₃, _, .bool c, q₃⟩
theorem TT.cmp {op : CmpOp} {l r : E} {Q : Bool → Store → Prop} (h : ET F m σ l (fun a σ₁ => ET F m σ₁ r (fun b σ₂ => KT F m σ₂ op a b Q X) X) X) : TT F m σ (.cmp op l r) Q X := by
  intro pe hc s hs
  obtain ⟨_, _, _, rfl, hn, hl, hr⟩ := hc.inv
  refine wpAny_isTrue_Compare1 ((h _ hl s hs).out ?_) (marks_of hn)
  rintro va σ₁ s₁ st₁ h₁ ⟨a, ra, q₁⟩
  refine (q₁ _ hr s₁ h₁).out ?_
  rintro vb σ₂ s₂ st₂ h₂ ⟨b, rb, q₂⟩
  refine (q₂ va vb s₂ h₂ (ra.st st₂ h₂) rb).out ?_
  rintro v σ₃ s₃ st₃ h₃ ⟨c, rfl, q₃⟩
  exact wpAny_truthy_bool ⟨σ₃, (st₁.trans st₂).trans st₃, h₃, q₃⟩
end
end Mine
end
section
namespace Mine
open PySem PyProof.Rows
variable {prog : Program} {w : World} {S : Sta prog w}
section
variable {F : Fx S} {m : Nat → Option AV} {σ : Store} {X : Value → Shared → Prop} {Q : AV → Store → Prop}
theorem ET.neg {x : E} {Q : AV → Store → Prop} (h : ET F m σ x (fun a σ₁ => ∃ i, a = .int i ∧ Q (.int (-i)) σ₁) X) : ET F m σ (.neg x) Q X := by
  intro pe hc s hs
  obtain ⟨_, _, rfl, hx⟩ := hc.inv
  refine wpAny_UnaryOp ((h _ hx s hs).out ?_)
  rintro va σ₁ s₁ st₁ h₁ ⟨a, ra, i, rfl, q₁⟩
  obtain ⟨_, rfl⟩ := ra.inv
  obtain ⟨σ', st, r, r'⟩ := nowT (s₁.toks + 1) h₁ (.int (-i) s₁.toks) q₁
  exact neg_int ⟨σ', st₁.trans st, r, r'⟩
theorem TT.not {x : E} {Q : Bool → Store → Prop} (h : TT F m σ x (fun b σ₁ => Q (!b) σ₁) X) : TT F m σ (.not x) Q X := by
  intro pe hc s hs
  obtain ⟨_, _, rfl, hx⟩ := hc.inv
  exact wpAny_isTrue_Not ((h _ hx s hs).out fun zz σ' zz st h1 q => ⟨σ', st, h1, q⟩)
noncomputable def plainE : E → Bool
  | .not _ | .and _ | .or _ | .cmp _ _ _ | .cmp2 _ _ _ _ _ | .ite _ _ _ => false
  | _ => true
theorem plain_true {e : E} {pe : PySem.Expr} {env : Env} {tb : List Nat} {sc : Nms} (hp : plainE e = true) (hc : CE tb sc pe e) : isTrue pe env (eval pe env) = (do let v ← eval pe env; standAt pe.pos; holding [v] (truthy v)) := by
  induction hc using CE.casesOn <;> first | rfl | exact (Bool.false_ne_true hp).elim
theorem TT.val {e : E} {Q : Bool → Store → Prop} (hp : plainE e = true) (h : ET F m σ e (fun a σ₁ => ∃ b, a = .bool b ∧ Q b σ₁) X) : TT F m σ e Q X := by
  intro pe hc s hs
  refine wpAny_isTrue_value ((h _ hc s hs).out ?_) (plain_true hp hc)
  rintro va σ₁ s₁ st₁ h₁ ⟨a, ra, b, rfl, q₁⟩
  obtain rfl := ra.inv
  exact wpAny_truthy_bool ⟨σ₁, st₁, h₁, q₁⟩
noncomputable def AndT (F : Fx S) (m : Nat → Option AV) (X : Value → Shared → Prop) (Q : Bool → Store → Prop) : List E → Store → Prop
  | [], σ => Q true σ
  | e :: r, σ => TT F m σ e (fun b σ₁ => if b then AndT F m X Q r σ₁ else Q false σ₁) X
noncomputable def OrT (F : Fx S) (m : Nat → Option AV) (X : Value → Shared → Prop) (Q : Bool → Store → Prop) : List E → Store → Prop
  | [], σ => Q false σ
  | e :: r, σ => TT F m σ e (fun b σ₁ => if b then Q true σ₁ else OrT F m X Q r σ₁) X
theorem allTrue_and {Q : Bool → Store → Prop} {es : List E} : ∀ {pes : List PySem.Expr} {σ : Store} {s : Shared}, CEs F.tb F.sc pes es → AndT F m X Q es σ → F.St m σ s →
    W F m σ s (allTrue .And pes F.env) (fun b σ' zz => Q b σ') X := by
  induction es with
  | nil =>
    intro pes σ s hc h hs
    obtain rfl := hc.inv_nil
    exact wpAny_allTrue_And_nil ⟨σ, Step.refl _ _ _ _, hs, h⟩
  | cons e r ih =>
    intro pes σ s hc h hs
    obtain ⟨_, _, rfl, _, he, hr⟩ := hc.inv
    refine wpAny_allTrue_And_cons ((h _ he s hs).out ?_)
    rintro b σ₁ s₁ st₁ h₁ q₁
    cases b with
    | true => exact (ih hr q₁ h₁).later st₁
    | false => exact ⟨σ₁, st₁, h₁, q₁⟩
theorem allTrue_or {Q : Bool → Store → Prop} {es : List E} : ∀ {pes : List PySem.Expr} {σ : Store} {s : Shared}, CEs F.tb F.sc pes es → OrT F m X Q es σ → F.St m σ s →
    W F m σ s (allTrue .Or pes F.env) (fun b σ' zz => Q b σ') X := by
  induction es with
  | nil =>
    intro pes σ s hc h hs
    obtain rfl := hc.inv_nil
    exact wpAny_allTrue_Or_nil ⟨σ, Step.refl _ _ _ _, hs, h⟩
  | cons e r ih =>
    intro pes σ s hc h hs
    obtain ⟨_, _, rfl, _, he, hr⟩ := hc.inv
    refine wpAny_allTrue_Or_cons ((h _ he s hs).out ?_)
    rintro b σ₁ s₁ st₁ h₁ q₁
    cases b with
    | false => exact (ih hr q₁ h₁).later st₁
    | true => exact ⟨σ₁, st₁, h₁, q₁⟩
theorem TT.and {es : List E} {Q : Bool → Store → Prop} (h : AndT F m X Q es σ) : TT F m σ (.and es) Q X := by
  intro pe hc s hs
  obtain ⟨_, _, rfl, hx⟩ := hc.inv
  exact wpAny_isTrue_BoolOp (allTrue_and hx h hs)
theorem TT.or {es : List E} {Q : Bool → Store → Prop} (h : OrT F m X Q es σ) : TT F m σ (.or es) Q X := by
  intro pe hc s hs
  obtain ⟨_, _, rfl, hx⟩ := hc.inv
  exact wpAny_isTrue_BoolOp (allTrue_or hx h hs)
noncomputable def AndV (F : Fx S) (m : Nat → Option AV) (X : Value → Shared → Prop) (Q : AV → Store → Prop) : List E → Store → Prop
  | [], _ => False
  | [e], σ => ET F m σ e Q X
  | e :: r, σ => ET F m σ e (fun a σ₁ => ∃ b, a = .bool b ∧ if b then AndV F m X Q r σ₁ else Q (.bool false) σ₁) X
noncomputable def OrV (F : Fx S) (m : Nat → Option AV) (X : Value → Shared → Prop) (Q : AV → Store → Prop) : List E → Store → Prop
  | [], _ => False
  | [e], σ => ET F m σ e Q X
  | e :: r, σ => ET F m σ e (fun a σ₁ => ∃ b, a = .bool b ∧ if b then Q (.bool true) σ₁ else OrV F m X Q r σ₁) X
theorem boolOp_cons2 (pos : Pos) (op : BoolOp) (x y : Sem Value) (r : List (Sem Value)) : boolOp pos op (x :: y :: r) = (do
    let v ← x
    standAt pos
    let t ← holding [v] (truthy v)
    match op, t with
    | .And, false | .Or, true => pure v
    | _, _ => boolOp pos op (y :: r)) := rfl
theorem boolOp_or {pos : Pos} {es : List E} : ∀ {pes : List PySem.Expr} {σ : Store} {s : Shared}, CEs F.tb F.sc pes es → OrV F m X Q es σ → F.St m σ s →
    VT F m σ s (boolOp pos .Or (evalEach pes F.env)) Q X := by
  induction es with
  | nil => intro pes σ s hc h hs; exact h.elim
  | cons e r ih =>
   intro pes σ s hc h hs
   obtain ⟨_, _, rfl, _, he, hr⟩ := hc.inv
   cases r with
   | nil => obtain rfl := hr.inv_nil; exact h _ he s hs
   | cons e' r =>
    have hr' := hr
    obtain ⟨_, _, rfl, _⟩ := hr'.inv
    show VT F m σ s (boolOp pos .Or (eval _ F.env :: eval _ F.env :: evalEach _ F.env)) Q X
    rw [boolOp_cons2]
    refine wpAny_bind ((h _ he s hs).out ?_)
    rintro va σ₁ s₁ st₁ h₁ ⟨a, ra, b, rfl, q₁⟩
    obtain rfl := ra.inv
    refine wpAny_bind (wpAny_standAt (wpAny_bind (wpAny_holding (wpAny_truthy_bool ?_))))
    cases b with
    | false => exact (ih hr q₁ h₁).later st₁
    | true => exact wpAny_pure ⟨σ₁, st₁, h₁, _, .bool _, q₁⟩
theorem ET.or {es : List E} (h : OrV F m X Q es σ) : ET F m σ (.or es) Q X := by
  intro pe hc s hs
  obtain ⟨_, _, rfl, hx⟩ := hc.inv
  exact boolOp_or hx h hs
theorem ET.ite {c a b : E} (h : TT F m σ c (fun t σ₁ => if t then ET F m σ₁ a Q X else ET F m σ₁ b Q X) X) : ET F m σ (.ite c a b) Q X := by
  intro pe hc s hs
  have hi0 := hc.inv
  clear hc
  obtain ⟨_, _, _, _, rfl, hc, ha, hb⟩ := hi0
  refine wpAny_IfExp ((h _ hc s hs).out ?_)
  rintro t σ₁ s₁ st₁ h₁ q₁
  cases t with
  | true => exact (q₁ _ ha s₁ h₁).later st₁
  | false => exact (q₁ _ hb s₁ h₁).later st₁
theorem wp_rel {A : Around} {vs ks : List Value} {s : Shared} {Q : Unit → Shared → Prop} (h : Q () s) : wpAny (model prog w) A (release vs ks) Q X s := fun Γ p _ => by
  rw [Sem.wp_release]; exact h
theorem TT.cmp2 {o1 o2 : CmpOp} {a b c : E} {Q : Bool → Store → Prop}
    (h : ET F m σ a (fun x σ₁ => ET F m σ₁ b (fun y σ₂ => KT F m σ₂ o1 x y (fun t σ₃ => if t then ET F m σ₃ c (fun z σ₄ => KT F m σ₄ o2 y z Q X) X else Q false σ₃) X) X) X) :
    TT F m σ (.cmp2 o1 o2 a b c) Q X := by
  intro pe hc s hs
  obtain ⟨pa, pb, pc, pos, rfl, hn1, hn2, ha, hb, hcc⟩ := hc.inv
  have he : isTrue (.Compare pa [o1, o2] [pb, pc] pos) F.env (eval (.Compare pa [o1, o2] [pb, pc] pos) F.env) =
    (do testChain pos (← eval pa F.env) [o1, o2] (markedEach [o1, o2] [pb, pc] [eval pb F.env, eval pc F.env])) := rfl
  show wpAny _ _ (isTrue _ _ _) _ _ _
  rw [he]
  have hme : markedEach [o1, o2] [pb, pc] [eval pb F.env, eval pc F.env] = [eval pb F.env, eval pc F.env] := by
    have h2 := markedBehindIn_of_false (t := eval pc F.env) (marks_of (op := o2) hn2)
    simp only [markedEach, h2]
  rw [hme]
  refine wpAny_bind ((h _ ha s hs).out ?_)
  rintro va σ₁ s₁ st₁ h₁ ⟨x, rx, q₁⟩
  unfold testChain
  refine wpAny_bind (wpAny_holding ((q₁ _ hb s₁ h₁).out ?_))
  rintro vb σ₂ s₂ st₂ h₂ ⟨y, ry, q₂⟩
  refine wpAny_bind (wpAny_standAt (wpAny_bind (wpAny_holding ((q₂ va vb s₂ h₂ (rx.st st₂ h₂) ry).out ?_))))
  rintro v σ₃ s₃ st₃ h₃ ⟨t, rfl, q₃⟩
  refine wpAny_bind (m := release _ _) (wp_rel (wpAny_bind (wpAny_holding (wpAny_truthy_bool ?_))))
  cases t with
  | false => exact wpAny_pure ⟨σ₃, (st₁.trans st₂).trans st₃, h₃, q₃⟩
  | true =>
    refine wpAny_bind (wpAny_holding ((q₃ _ hcc s₃ h₃).out ?_))
    rintro vc σ₄ s₄ st₄ h₄ ⟨z, rz, q₄⟩
    refine wpAny_bind (wpAny_standAt (wpAny_bind (m := operate _ _) (wpAny_operating ((q₄ vb vc s₄ h₄ ((ry.st st₃ h₃).st st₄ h₄) rz).out ?_))))
    rintro v σ₅ s₅ st₅ h₅ ⟨t, rfl, q₅⟩
    exact wpAny_holding (wpAny_truthy_bool ⟨σ₅, (((st₁.trans st₂).trans st₃).trans st₄).trans st₅, h₅, q₅⟩)
end
end Mine
end
section
namespace Mine
open PySem PyProof.Rows
variable {prog : Program} {w : World} {S : Sta prog w}
section
variable {F : Fx S} {m : Nat → Option AV} {σ : Store} {X : Value → Shared → Prop} {Q : AV → Store → Prop}
noncomputable def IT (F : Fx S) (m : Nat → Option AV) (σ : Store) (a k : AV) (Q : AV → Store → Prop) (X : Value → Shared → Prop) : Prop :=
  ∀ va vk s, F.St m σ s → Rep S.cv s.heap (F.D σ) a va → Rep S.cv s.heap (F.D σ) k vk →
    ∃ T id, s.TypeIs va T ∧ typeLookup (.type T) "__getitem__" = pure (some (.builtin id)) ∧ VT F m σ s (getItem va vk) Q X
theorem subscripted_plain {i : PySem.Expr} {o k : Value} (h : notSlice i = true) : subscripted i false o k = operate [o, k] (getItem o k) := by
  cases i <;> first | rfl | cases h
theorem ET.sub {o i : E} (h : ET F m σ o (fun a σ₁ => ET F m σ₁ i (fun k σ₂ => IT F m σ₂ a k Q X) X) X) : ET F m σ (.sub o i) Q X := by
  intro pe hc s hs
  obtain ⟨_, _, _, rfl, hn, ho, hi⟩ := hc.inv
  refine Subscript_ ((h _ ho s hs).out ?_)
  rintro va σ₁ s₁ st₁ h₁ ⟨a, ra, q₁⟩
  refine (q₁ _ hi s₁ h₁).out ?_
  rintro vk σ₂ s₂ st₂ h₂ ⟨k, rk, q₂⟩
  obtain ⟨T, id, hT, hl, hg⟩ := q₂ va vk s₂ h₂ (ra.st st₂ h₂) rk
  exact tail_any hT hl (hg.later (st₁.trans st₂)) (subscripted_plain hn)
theorem RepL.get {cv : Nat → Value} {h : Heap} {D : Addr → Prop} {l : List AV} {vs : List Value} {k : Nat} {x : AV} (r : RepL cv h D l vs) (e : l[k]? = some x) : ∃ v, vs[k]? = some v ∧ Rep cv h D x v := by
  induction l generalizing vs k with
  | nil => exact (no_some List.getElem?_nil e).elim
  | cons y l ih =>
    obtain ⟨v, us, rfl, a, b⟩ := r.inv
    cases k with
    | zero => exact ⟨v, rfl, Option.some.inj e ▸ a⟩
    | succ k => exact ih (vs := us) (k := k) b e
theorem lt_63 {i : Int} (h : i < 1000000) : i < 2 ^ 63 := Int.lt_trans h (by decide)
theorem seqIx {i : Int} {n : Nat} (h0 : 0 ≤ i) (h1 : i < n) : seqIndex? i n = some i.toNat := by
  unfold seqIndex?
  have h2 : ¬ i < 0 := by omega
  simp only [h2, if_false]
  rw [if_pos (by simp; omega)]
theorem IT.list {a : AV} {l : List AV} {i : Int} {x : AV} (ha : dl σ a = some l) (h0 : 0 ≤ i) (h1 : i < 1000000) (hx : l[i.toNat]? = some x) (h : Q x σ) : IT F m σ a (.int i) Q X := by
  intro va vk s hs ra rk
  obtain ⟨ad, vs, n, rfl, e, rl⟩ := ra.lst hs.inv ha
  obtain ⟨_, rfl⟩ := rk.inv
  obtain ⟨v, hv, rv⟩ := rl.get hx
  have hl : s.heap.IsList ad vs.toArray := ⟨_, e, rfl, n, rfl⟩
  exact ⟨_, _, hl.typeIs, slot_list_getitem.lookup, wpAny_getItem_list hl h0 (lt_63 h1) (by simpa using hv) (now hs rv h)⟩
theorem IT.nums {l : List Int} {i x : Int} (h0 : 0 ≤ i) (h1 : i < 1000000) (hx : l[i.toNat]? = some x) (h : Q (.int x) σ) : IT F m σ (.nums l) (.int i) Q X := by
  intro va vk s hs ra rk
  · obtain ⟨a, o, vs, n, rfl, e, c, f, d, r⟩ := ra.inv
    obtain ⟨_, rfl⟩ := rk.inv
    obtain ⟨t, hv⟩ := r.2 _ _ hx
    have hl : s.heap.IsList a vs.toArray := ⟨o, e, c, n, f⟩
    exact ⟨_, _, hl.typeIs, slot_list_getitem.lookup, wpAny_getItem_list hl h0 (lt_63 h1) (by simpa using hv) (now hs (.int _ _) h)⟩
theorem IT.tup {l : List AV} {i : Int} {x : AV} (h0 : 0 ≤ i) (h1 : i < 1000000) (hx : l[i.toNat]? = some x) (h : Q x σ) : IT F m σ (.tup l) (.int i) Q X := by
  intro va vk s hs ra rk
  · obtain ⟨ad, vs, n, rfl, e, d, r⟩ := ra.inv
    obtain ⟨_, rfl⟩ := rk.inv
    obtain ⟨v, hv, rv⟩ := r.get hx
    have ht : IsTup s.heap ad vs.toArray := ⟨_, e, rfl, n, rfl⟩
    have hlt : i.toNat < vs.length := by
      rcases Nat.lt_or_ge i.toNat vs.length with q | q
      · exact q
      · rw [List.getElem?_eq_none q] at hv; cases hv
    have lo : -(2 : Int) ^ 63 ≤ i := Int.le_trans (by decide) h0
    refine ⟨_, _, ⟨_, e, rfl⟩, PyProof.Rows.slot_tuple_getitem.lookup, getItem_tuple ht lo (lt_63 h1) (j := i.toNat) ?_ (by simpa using hv) (now hs rv h)⟩
    rw [List.size_toArray]; exact seqIx h0 (by omega)
theorem IT.str {x : Str} {i : Int} {c : Nat} (h0 : 0 ≤ i) (h1 : i < 1000000) (hx : x.cps[i.toNat]? = some c) (h : Q (.str ⟨#[c]⟩) σ) : IT F m σ (.str x) (.int i) Q X := by
  intro va vk s hs ra rk
  obtain ⟨_, rfl⟩ := ra.inv
  obtain ⟨_, rfl⟩ := rk.inv
  refine ⟨_, _, typeIs_str _ _ _, PySem.F.slot_str_getitem.lookup, P.getItem_str (c := c) ?_ ?_ (nowT _ hs (.str _ _) h)⟩
  · have : i < 2 ^ 63 := lt_63 h1
    simp only [Bool.or_eq_false_iff, decide_eq_false_iff_not]
    exact ⟨Int.not_lt.mpr (Int.le_trans (by decide) h0), Int.not_le.mpr this⟩
  · have hlt : i.toNat < x.cps.size := by
      rcases Nat.lt_or_ge i.toNat x.cps.size with q | q
      · exact q
      · rw [Array.getElem?_eq_none q] at hx; cases hx
    rw [seqIx h0 (show i < (x.length : Int) from by have : x.length = x.cps.size := rfl
                                                    omega)]
    exact hx
theorem IT.dict {a : AV} {l : List (Spot × AV)} {k : Spot} {x : AV} (ha : dd σ a = some l) (hx : dget l k = some x) (h : Q x σ) : IT F m σ a (sp k) Q X := by
  intro va vk s hs ra rk
  obtain ⟨t, tx, ty, n, rfl, e, d⟩ := rk.spot
  obtain ⟨ad, es, n', rfl, e', sm, nd, rd⟩ := ra.dct hs.inv ha
  obtain ⟨xs, hxs, rfl⟩ := RepD.xs (prog := prog) (w := w) rd
  have q := hxs.at_ k
  rw [hx] at q
  cases hp : atKey xs (key k) with
  | none => rw [hp] at q; exact q.elim
  | some p =>
    rw [hp] at q
    exact ⟨_, _, (dictH (prog := prog) (w := w) hxs nd e').typeIs, PySem.slot_dict_getitem.lookup, wpAny_getItem_heap (room_in1 F) (isKey e) (dictH hxs nd e') hp (nowT _ hs q h)⟩
theorem optE {pe : Option PySem.Expr} {e : E} {s : Shared} (h : ET F m σ e Q X) (hc : CO F.tb F.sc pe e) (hs : F.St m σ s) : VT F m σ s (valueOrNone (evalOpt pe F.env)) Q X := by
  rcases hc.inv with ⟨rfl, rfl⟩ | ⟨x, rfl, he⟩
  · exact h (.Constant .none 0 default) .none s hs
  · exact h _ he s hs
theorem RepL.take {cv : Nat → Value} {h : Heap} {D : Addr → Prop} {l : List AV} {vs : List Value} (k : Nat) (r : RepL cv h D l vs) : RepL cv h D (l.take k) (vs.take k) := by
  induction l generalizing vs k with
  | nil => rw [show vs = [] from r.inv, List.take_nil, List.take_nil]; exact .nil
  | cons y l ih =>
    obtain ⟨v, us, rfl, a, b⟩ := r.inv
    cases k with
    | zero => exact .nil
    | succ k => exact .cons a (ih k b)
theorem RepL.drop {cv : Nat → Value} {h : Heap} {D : Addr → Prop} {l : List AV} {vs : List Value} (k : Nat) (r : RepL cv h D l vs) : RepL cv h D (l.drop k) (vs.drop k) := by
  induction l generalizing vs k with
  | nil => rw [show vs = [] from r.inv, List.drop_nil, List.drop_nil]; exact .nil
  | cons y l ih =>
    cases k with
    | zero => exact r
    | succ k => obtain ⟨v, us, rfl, a, b⟩ := r.inv; exact ih k b
noncomputable def cut (l : List AV) : AV → AV → Option (List AV)
  | .none, .none => some l
  | .none, .int b => if 0 ≤ b then some (l.take b.toNat) else some (l.take (l.length - (-b).toNat))
  | .int a, .none => if 0 ≤ a then some (l.drop a.toNat) else Option.none
  | _, _ => Option.none
noncomputable def cutS (x : Str) : AV → AV → Option Str
  | .none, .none => some (Txt.slice x none none)
  | .none, .int b => some (Txt.slice x none (some b))
  | .int a, .none => some (Txt.slice x (some a) none)
  | .int a, .int b => some (Txt.slice x (some a) (some b))
  | _, _ => Option.none
end
end Mine
end
section
namespace Mine
open PySem PyProof.Rows PySem.W
variable {prog : Program} {w : World} {S : Sta prog w}
noncomputable def Callable (S : Sta prog w) (f : Value) : Prop := ∀ h, (∀ b o, S.g.get? b = some o → h.get? b = some o) → ∃ k, (k = Keeper.frame ∨ k = Keeper.machine ∨ k = Keeper.boundFrame) ∧ Looks (model prog w) h (keeperOf f) k
theorem Callable.builtin (id : String) : Callable S (.builtin id) := fun zz zz => ⟨.machine, .inr (.inl rfl), Looks.of_pure rfl⟩
theorem Callable.type (id : String) : Callable S (.type id) := fun zz zz => ⟨.machine, .inr (.inl rfl), Looks.of_pure rfl⟩
theorem Callable.own {f : Value} (h : keepIn S.K f = true) : Callable S f := fun zz k => keeps_K h _ (S.X.keeps k)
section
variable {F : Fx S} {m : Nat → Option AV} {σ : Store} {X : Value → Shared → Prop} {Q : AV → Store → Prop}
noncomputable def CT (F : Fx S) (m : Nat → Option AV) (σ : Store) (f : Value) (avs : List AV) (Q : AV → Store → Prop) (X : Value → Shared → Prop) : Prop :=
  ∀ vals s, F.St m σ s → RepL S.cv s.heap (F.D σ) avs vals → VT F m σ s (call f vals) Q X
theorem noStars {pos : Pos} {pes : List PySem.Expr} {es : List E} (hc : CEs F.tb F.sc pes es) : (backTo pos (starEach pes F.env)).any (·.1) = false := by
  induction es generalizing pes with
  | nil => obtain rfl := hc.inv_nil; rfl
  | cons e es ih => obtain ⟨_, _, rfl, hn, _, hr⟩ := hc.inv; rw [starEach_cons hn]; exact ih hr
theorem callWithT {pos : Pos} {f : Value} {first : List Value} {pes : List PySem.Expr} {e : E} {es : List E} {s : Shared} {P : List AV → Store → Prop} {Q' : Value → Shared → Prop} (hc : CEs F.tb F.sc pes (e :: es)) (hk : Callable S f) (h : EsT F m σ (e :: es) P X) (hs : F.St m σ s)
    (hq : ∀ vals avs σ' s', Step F.P F.O σ s σ' s' → F.St m σ' s' → RepL S.cv s'.heap (F.D σ') avs vals → P avs σ' → wpAny (model prog w) F.A (call f (first ++ vals)) Q' X s') :
    wpAny (model prog w) F.A (callWith pos f first (backTo pos (starEach pes F.env)) []) Q' X s := by
  refine callWith_of (P := fun h => ∀ b o, S.g.get? b = some o → h.get? b = some o) (by rw [noStars hc]; rfl) hk ?_
  have h' := h _ pos hc s hs
  obtain ⟨_, _, rfl, hn, he, hr⟩ := hc.inv
  rw [starEach_cons hn] at h' ⊢
  refine Calls.evalArgs_plain (W.out h' ?_)
  rintro vals σ' s' st h1 ⟨avs, r, p⟩
  exact ⟨h1.inv.keep, hq vals avs σ' s' st h1 r p⟩
theorem callWithT0 {pos : Pos} {f : Value} {first : List Value} {s : Shared} {Q' : Value → Shared → Prop} (hk : Callable S f) (hs : F.St m σ s) (hq : wpAny (model prog w) F.A (call f (first ++ [])) Q' X s) :
    wpAny (model prog w) F.A (callWith pos f first (backTo pos (starEach [] F.env)) []) Q' X s :=
  callWith_of (P := fun h => ∀ b o, S.g.get? b = some o → h.get? b = some o) rfl hk (evalArgs_nil3 ⟨hs.inv.keep, hq⟩)
theorem ET.callg {i : Nat} {fv : Value} {e : E} {es : List E} (hg : Glob S i fv) (hk : Callable S fv) (h : EsT F m σ (e :: es) (fun avs σ₁ => CT F m σ₁ fv avs Q X) X) : ET F m σ (.call (.g i) (e :: es)) Q X := by
  intro pe hc s hs
  obtain ⟨_, _, _, _, rfl, _, hx, ha⟩ := hc.inv
  refine Call_ (load_g hx hg hs (callWithT ha hk h hs ?_))
  intro vals avs σ' s' st h1 r p
  exact (p vals s' h1 r).later st
theorem RepL.one {cv : Nat → Value} {h : Heap} {D : Addr → Prop} {a : AV} {vs : List Value} (r : RepL cv h D [a] vs) : ∃ v, vs = [v] ∧ Rep cv h D a v := by
  obtain ⟨v, us, rfl, r1, rr⟩ := r.inv
  obtain rfl := rr.inv
  exact ⟨_, rfl, r1⟩
theorem RepL.two {cv : Nat → Value} {h : Heap} {D : Addr → Prop} {a b : AV} {vs : List Value} (r : RepL cv h D [a, b] vs) : ∃ v u, vs = [v, u] ∧ Rep cv h D a v ∧ Rep cv h D b u := by
  obtain ⟨v, us, rfl, r1, rr⟩ := r.inv
  obtain ⟨u, rfl, r2⟩ := rr.one
  exact ⟨_, _, rfl, r1, r2⟩
theorem big_63 {n : Nat} (h : n ≤ big) : ¬ (n : Int) ≥ 2 ^ 63 := by
  have : (n : Int) ≤ 1000000 := by unfold big at h; omega
  exact Int.not_le.mpr (Int.lt_of_le_of_lt this (by decide))
theorem CT.lenList {a : AV} {l : List AV} (ha : dl σ a = some l) (hz : l.length ≤ big) (h : Q (.int l.length) σ) : CT F m σ (.builtin "len") [a] Q X := by
  intro vals s hs r
  obtain ⟨v, rfl, ra⟩ := r.one
  obtain ⟨ad, vs, n, rfl, e, rl⟩ := ra.lst hs.inv ha
  have hL : s.heap.IsList ad vs.toArray := ⟨_, e, rfl, n, rfl⟩
  refine Calls.call_len_list hL (by rw [List.size_toArray, rl.length]; exact Int.not_le.mp (big_63 hz)) ?_
  rw [List.size_toArray, rl.length]
  exact nowT _ hs (.int _ _) h
theorem CT.lenInts {l : List Int} (hz : l.length ≤ big) (h : Q (.int l.length) σ) : CT F m σ (.builtin "len") [.nums l] Q X := by
  intro vals s hs r
  obtain ⟨v, rfl, ra⟩ := r.one
  · obtain ⟨a, o, vs, n, rfl, e, c, f, d, ri⟩ := ra.inv
    have hL : s.heap.IsList a vs.toArray := ⟨o, e, c, n, f⟩
    refine Calls.call_len_list hL (by rw [List.size_toArray, ri.1]; exact Int.not_le.mp (big_63 hz)) ?_
    rw [List.size_toArray, ri.1]
    exact nowT _ hs (.int _ _) h
theorem CT.lenStr {x : Str} (hz : x.length ≤ big) (h : Q (.int x.length) σ) : CT F m σ (.builtin "len") [.str x] Q X := by
  intro vals s hs r
  obtain ⟨v, rfl, ra⟩ := r.one
  obtain ⟨_, rfl⟩ := ra.inv
  exact P.len_str (big_63 hz) (nowT _ hs (.int _ _) h)
end
end Mine
end
section
namespace Mine
open PySem PyProof.Rows PySem.W
variable {prog : Program} {w : World} {S : Sta prog w}
noncomputable abbrev Vars := Nat → Option AV
noncomputable def Vars.set (m : Vars) (i : Nat) (v : AV) : Vars := fun j => if j = i then some v else m j
inductive Fl where
  | next
  | ret (v : AV)
noncomputable def FlR (cv : Nat → Value) (h : Heap) (D : Addr → Prop) : Flow → Fl → Prop
  | .next, .next => True
  | .ret v, .ret a => Rep cv h D a v
  | _, _ => False
inductive PS (F : Fx S) (σ : Store) (s : Shared) (K : Fl → Vars → Store → Prop) (f : Flow) (s' : Shared) : Prop
  | mk (fl : Fl) (m' : Vars) (σ' : Store) (st : Step F.P F.O σ s σ' s') (h : F.St m' σ' s') (r : FlR S.cv s'.heap (F.D σ') f fl) (k : K fl m' σ') : PS F σ s K f s'
inductive PP (F : Fx S) (σ : Store) (s : Shared) (K : Vars → Store → Prop) (s' : Shared) : Prop
  | mk (m' : Vars) (σ' : Store) (st : Step F.P F.O σ s σ' s') (h : F.St m' σ' s') (k : K m' σ') : PP F σ s K s'
noncomputable def WS (F : Fx S) (σ : Store) (s : Shared) (t : Sem Flow) (K : Fl → Vars → Store → Prop) (X : Value → Shared → Prop) : Prop :=
  wpAny (model prog w) F.A t (PS F σ s K) X s
noncomputable def ST (F : Fx S) (m : Vars) (σ : Store) (st : Mine.S) (K : Fl → Vars → Store → Prop) (X : Value → Shared → Prop) : Prop :=
  ∀ ps, CS F.tb F.sc ps st → ∀ s, F.St m σ s → WS F σ s (exec ps F.env) K X
noncomputable def SsT (F : Fx S) (m : Vars) (σ : Store) (ss : List Mine.S) (K : Fl → Vars → Store → Prop) (X : Value → Shared → Prop) : Prop :=
  ∀ ps, CSs F.tb F.sc ps ss → ∀ s, F.St m σ s → WS F σ s (execs ps F.env) K X
section
variable {F : Fx S} {m : Vars} {σ : Store} {X : Value → Shared → Prop} {K K' : Fl → Vars → Store → Prop}
theorem WS.mono {s : Shared} {t : Sem Flow} (h : WS F σ s t K X) (k : ∀ f m σ, K f m σ → K' f m σ) : WS F σ s t K' X :=
  wpAny_mono h (fun _ _ ⟨fl, m', σ', st, h1, h2, h3⟩ => ⟨fl, m', σ', st, h1, h2, k _ _ _ h3⟩) fun zz zz e => e
theorem WS.later {s : Shared} {t : Sem Flow} {σ₀ : Store} {s₀ : Shared} (h : WS F σ s t K X) (st : Step F.P F.O σ₀ s₀ σ s) :
    wpAny (model prog w) F.A t (PS F σ₀ s₀ K) X s :=
  wpAny_mono h (fun _ _ ⟨fl, m', σ', st', h1, h2, h3⟩ => ⟨fl, m', σ', st.trans st', h1, h2, h3⟩) fun zz zz e => e
theorem ST.mono {st : Mine.S} (h : ST F m σ st K X) (k : ∀ f m σ, K f m σ → K' f m σ) : ST F m σ st K' X := fun ps hc s hs => (h ps hc s hs).mono k
theorem SsT.mono {ss : List Mine.S} (h : SsT F m σ ss K X) (k : ∀ f m σ, K f m σ → K' f m σ) : SsT F m σ ss K' X := fun ps hc s hs => (h ps hc s hs).mono k
set_option tactic.hygienic true in
theorem SsT.nil (h : K .next m σ) : SsT F m σ [] K X := by
  intro ps hc s hs
  obtain rfl := hc.inv_nil
  exact wpAny_execs_nil ⟨.next, m, σ, Step.refl _ _ _ _, hs, trivial, h⟩
theorem SsT.cons {st : Mine.S} {r : List Mine.S} (h : ST F m σ st (fun fl m₁ σ₁ => match fl with | .next => SsT F m₁ σ₁ r K X | .ret v => K (.ret v) m₁ σ₁) X) : SsT F m σ (st :: r) K X := by
  intro ps hc s hs
  obtain ⟨_, _, rfl, he, hr⟩ := hc.inv
  refine wpAny_execs_cons (wpAny_mono (h _ he s hs) ?_ fun zz zz e => e)
  rintro f s₁ ⟨fl, m₁, σ₁, st₁, h₁, hf, q⟩
  cases fl with
  | next =>
    cases f with
    | next => exact (q _ hr s₁ h₁).later st₁
    | _ => exact hf.elim
  | ret v =>
    cases f with
    | ret u => exact ⟨.ret v, m₁, σ₁, st₁, h₁, hf, q⟩
    | _ => exact hf.elim
theorem ST.ret {e : E} (h : ET F m σ e (fun a σ₁ => K (.ret a) m σ₁) X) : ST F m σ (.ret e) K X := by
  intro ps hc s hs
  obtain ⟨_, _, rfl, he⟩ := hc.inv
  refine wpAny_Return_some ((h _ he s hs).out ?_)
  rintro v σ₁ s₁ st₁ h₁ ⟨a, ra, q⟩
  exact ⟨.ret a, m, σ₁, st₁, h₁, ra, q⟩
theorem ST.ite {c : E} {a b : List Mine.S} (h : TT F m σ c (fun t σ₁ => if t then SsT F m σ₁ a K X else SsT F m σ₁ b K X) X) : ST F m σ (.ite c a b) K X := by
  intro ps hc s hs
  have hi0 := hc.inv
  clear hc
  obtain ⟨_, _, _, _, rfl, hc, ha, hb⟩ := hi0
  refine wpAny_If ((h _ hc s hs).out ?_)
  rintro t σ₁ s₁ st₁ h₁ q₁
  cases t with
  | true => exact (q₁ _ ha s₁ h₁).later st₁
  | false => exact (q₁ _ hb s₁ h₁).later st₁
theorem St.own_turn {tb : List Nat} {env : Env} {N P : Addr → Prop} {b : Store × Shared} {m m' : Vars} {s : Shared} {L : Addr} {h' : Heap} {tk : Nat} (hs : Mine.St S tb env N P b m σ s) (oL : Own env L)
    (hk : ∀ c o, c ≠ L → s.heap.get? c = some o → h'.get? c = some o) (hL : ∃ o, h'.get? L = some o) (hl : Loc S.cv S.g tb env m' N σ h') :
    Step P (Own env) σ s σ { s with heap := h', toks := tk } ∧ Mine.St S tb env N P b m' σ { s with heap := h', toks := tk } := by
  have there : ∀ c o, s.heap.get? c = some o → ∃ o', h'.get? c = some o' := fun c o e => by
    by_cases q : c = L
    · subst q; exact hL
    · exact ⟨o, hk c o q e⟩
  have st : Step P (Own env) σ s σ { s with heap := h', toks := tk } := Step.of_but (fun c o zz n e => hk c o (fun q => n (q ▸ oL)) e) (fun zz h => .inl h) there
  have own := hs.loc
  obtain ⟨_, _, _, _, o, _, _, _⟩ := own
  have e0 : Ext (DN N σ) s.heap h' := Ext.of_but fun c oc d e => hk c oc (fun q => d (.inr (q ▸ hs.own L oL))) e
  refine ⟨st, ⟨fun c oc e => hk c oc (fun q => ?_) (hs.inv.keep c oc e), hs.inv.gens, hs.inv.drawn, hs.inv.os, hs.inv.σg, hs.inv.σN, fun c h => ?_, fun c oc e => ?_⟩, hl, hs.frm.out st hs.new, hs.pN, hs.new, hs.own, hs.gb⟩
  · subst q; rw [(o c oL).2] at e; cases e
  · obtain ⟨ob, e, f⟩ := hs.inv.Nin c h
    by_cases q : c = L
    · obtain ⟨mc, cm, n, cc, _⟩ := hl
      subst q
      rcases oL with rfl | ⟨y, hy⟩
      · obtain ⟨o', _, _, e', d', _⟩ := n; exact ⟨o', e', fun vs z => by rw [d'] at z; cases z⟩
      · obtain ⟨o', e', d'⟩ := cc y _ hy; exact ⟨o', e', fun vs z => by rw [d'] at z; cases z⟩
    · exact ⟨ob, hk c ob q e, f⟩
  · exact (hs.inv.rep c oc e).ext e0 (fun zz h => .inl h) fun ob e' => hk c ob (fun q => (o L oL).1 (by rw [← q]; unfold Dom; rw [e]; simp)) e'
theorem store_v {i : Nat} {x : Str} {av : AV} {v : Value} {s : Shared} {Q' : Unit → Shared → Prop} (hf : F.sc.lookup x ≠ some .free) (hx : IsV F.tb F.sc x i) (hs : F.St m σ s) (r : Rep S.cv s.heap (F.D σ) av v)
    (h : ∀ s', Step F.P F.O σ s σ s' → F.St (Vars.set m i av) σ s' → Q' () s') : wpAny (model prog w) F.A (storeName F.env x v) Q' X s := by
  obtain ⟨mc, cm, n, c, o, ap, cl, rr⟩ := hs.loc
  have kd : ∀ y, F.env.kindOf y = F.sc.lookup y := fun zz => rfl
  have setm : ∀ {y : Str} {j : Nat} {bv : AV}, ixS F.tb y = some j → (Vars.set m i av) j = some bv → (y = x ∧ bv = av) ∨ (y ≠ x ∧ m j = some bv) := by
    intro y j bv hj hm
    unfold Vars.set at hm
    by_cases q : j = i
    · subst q
      rw [if_pos rfl] at hm
      exact .inl ⟨ixS_inj hj hx.ix, (Option.some.inj hm).symm⟩
    · rw [if_neg q] at hm
      refine .inr ⟨fun e => ?_, hm⟩
      subst e
      rw [hx.ix] at hj
      exact q (Option.some.inj hj).symm
  rcases hx.kind with q | q | q
  · refine wpAny_storeName_local ((kd x).trans q) n (fun h' hn hsb => ?_) (by rw [F.fk]; rfl)
    have hk : ∀ cc oc, cc ≠ F.env.locals → s.heap.get? cc = some oc → h'.get? cc = some oc := fun cc oc ne e => hsb.extBut cc oc ne e
    have hL : ∃ oo, h'.get? F.env.locals = some oo := by obtain ⟨oo, _, _, e, _⟩ := hn; exact ⟨oo, e⟩
    have e0 : Ext (F.D σ) s.heap h' := Ext.of_but fun cc oc d e => hk cc oc (fun q => d (.inr (q ▸ hs.own _ (.inl rfl)))) e
    have loc' : Loc S.cv S.g F.tb F.env (Vars.set m i av) F.N σ h' := by
      refine ⟨_, cm, hn, fun y cc hy => ?_, o, ap, cl, fun y j bv hj hm => ?_⟩
      · obtain ⟨ob, e, hd⟩ := c y cc hy
        exact ⟨ob, hk cc ob (cl y cc hy) e, hd⟩
      · rcases setm hj hm with ⟨rfl, rfl⟩ | ⟨ne, hm'⟩
        · rw [kd, q]
          exact ⟨v, if_pos rfl, r.ext e0 fun zz h => .inl h⟩
        · exact LocAt.map (rr y j bv hj hm') (fun h2 => h2.ext e0 fun zz h => .inl h) (fun zz h1 => (if_neg ne).trans h1) (fun zz h1 => h1)
    obtain ⟨st, h1⟩ := St.own_turn (tk := s.toks + 1) hs (.inl rfl) hk hL loc'
    exact h _ st h1
  · have hc := F.fc x ((kd x).trans q)
    · obtain ⟨cc, hcc⟩ := hc
      refine wpAny_storeName_cell F.fk ((kd x).trans q) hcc (c x cc hcc) (fun h' hv hsb => ?_)
      have hk : ∀ d od, d ≠ cc → s.heap.get? d = some od → h'.get? d = some od := fun d od ne e => hsb.extBut d od ne e
      have hL : ∃ oo, h'.get? cc = some oo := by obtain ⟨oo, e, _⟩ := hv; exact ⟨oo, e⟩
      have e0 : Ext (F.D σ) s.heap h' := Ext.of_but fun d od dd e => hk d od (fun q => dd (.inr (q ▸ hs.own _ (.inr ⟨x, hcc⟩)))) e
      have loc' : Loc S.cv S.g F.tb F.env (Vars.set m i av) F.N σ h' := by
        refine ⟨mc, fun y => if y = x then some v else cm y, n.sameBut hsb (Ne.symm (cl x cc hcc)), fun y d hy => ?_, o, ap, cl, fun y j bv hj hm => ?_⟩
        · by_cases e : y = x
          · subst e; rw [hcc] at hy; cases hy; simp only [if_true]; exact hv
          · simp only [if_neg e]
            obtain ⟨ob, eo, hd⟩ := c y d hy
            exact ⟨ob, hk d ob (fun z => e (ap y x d hy (z ▸ hcc))) eo, hd⟩
        · rcases setm hj hm with ⟨rfl, rfl⟩ | ⟨ne, hm'⟩
          · rw [kd, q]
            exact ⟨v, cc, hcc, if_pos rfl, r.ext e0 fun zz h => .inl h⟩
          · exact LocAt.map (rr y j bv hj hm') (fun h2 => h2.ext e0 fun zz h => .inl h) (fun zz h1 => h1) (fun zz h1 => (if_neg ne).trans h1)
      obtain ⟨st, h1⟩ := St.own_turn (tk := s.toks) hs (.inr ⟨x, hcc⟩) hk hL loc'
      exact h _ st h1
  · exact absurd q hf
noncomputable def PT (F : Fx S) (m : Vars) (σ : Store) (p : Pat) (a : AV) (K : Vars → Store → Prop) (X : Value → Shared → Prop) : Prop :=
  ∀ pe, CP F.tb F.sc pe p → ∀ v s, F.St m σ s → Rep S.cv s.heap (F.D σ) a v →
    wpAny (model prog w) F.A (assign pe F.env v) (fun zz => PP F σ s K) X s
theorem PT.v {i : Nat} {a : AV} {K : Vars → Store → Prop} (h : K (Vars.set m i a) σ) : PT F m σ (.v i) a K X := by
  intro pe hc v s hs r
  obtain ⟨_, _, rfl, hf, hx⟩ := hc.inv
  exact wpAny_assign_Name (store_v hf hx hs r fun s' st h1 => ⟨_, σ, st, h1, h⟩)
noncomputable def notComp : E → Bool
  | .comp .. => false
  | _ => true
noncomputable def notTup : E → Bool
  | .tup .. => false
  | _ => true
theorem swaps_of {sc : Nms} {pe t : PySem.Expr} {e : E} {line : Nat} {env : Env} {tb : List Nat} (hc : CE tb sc pe e) (h : notComp e = true) : swapsWith pe (some t) line env = pure false := by
  induction hc using CE.casesOn <;> first | rfl | exact (Bool.false_ne_true h).elim
theorem ST.assign {i : Nat} {e : E} (hn : notComp e = true) (h : ET F m σ e (fun a σ₁ => K .next (Vars.set m i a) σ₁) X) : ST F m σ (.assign (.v i) e) K X := by
  intro ps hc s hs
  obtain ⟨_, _, _, rfl, hp, he⟩ := hc.inv
  obtain ⟨_, _, rfl, hf, hx⟩ := hp.inv
  refine wpAny_Assign_Name ((h _ he s hs).out ?_) (swaps_of he hn)
  rintro v σ₁ s₁ st₁ h₁ ⟨a, ra, q⟩
  exact store_v hf hx h₁ ra fun s₂ st₂ h₂ => ⟨.next, _, σ₁, st₁.trans st₂, h₂, trivial, q⟩
theorem swaps_none {sc : Nms} {pe : PySem.Expr} {e : E} {line : Nat} {env : Env} {tb : List Nat} (hc : CE tb sc pe e) (h : notComp e = true) : swapsWith pe none line env = pure false := by
  induction hc using CE.casesOn <;> first | rfl | exact (Bool.false_ne_true h).elim
set_option tactic.hygienic true in
theorem let_go {pe : PySem.Expr} {pos : Pos} {v : Value} {A : Around} {s : Shared} {Q' : Flow → Shared → Prop} (h : Q' .next s) : wpAny (model prog w) A (dropValue pe pos v) Q' X s := by
  unfold dropValue
  split
  · exact wpAny_pure h
  · refine wpAny_bind (wpAny_standAt (wpAny_bind (wpAny_runValue (codeAny_builtin (b := Builtin.«proto.let_go») (entryFor_of_tree (by kernel_rfl)) ?_))))
    exact wpAny_pure (wpAny_pure h)
  · exact wpAny_pure h
set_option tactic.hygienic true in
theorem ST.expr {e : E} (hn : notComp e = true) (h : ET F m σ e (fun zz σ₁ => K .next m σ₁) X) : ST F m σ (.expr e) K X := by
  intro ps hc s hs
  obtain ⟨pe, pos, rfl, he⟩ := hc.inv
  have hi : interactive F.env = false := by unfold interactive; rw [F.fk]; rfl
  show wpAny _ _ (exec (.Expr pe pos) F.env) _ _ _
  rw [exec_Expr (hi := hi) (hs := swaps_none he hn)]
  refine wpAny_bind (wpAny_standAt (wpAny_bind ((h _ he s hs).out ?_)))
  rintro v σ₁ s₁ st₁ h₁ ⟨a, ra, q⟩
  exact let_go ⟨.next, m, σ₁, st₁, h₁, trivial, q⟩
end
end Mine
end
section
namespace Mine
open PySem PyProof.Rows PySem.W
variable {prog : Program} {w : World} {S : Sta prog w}
set_option genInjectivity false in
structure FnCore where
  tb : List Nat
  n : Nat
  body : List Mine.S
structure FnEx (S : Sta prog w) (f : Addr) (c : FnCore) (o : Obj) (fd : FuncData) (body : List Stmt) (names : List Str) : Prop where
  ho : S.g.get? f = some o
  hd : o.data = .func fd
  hb : fd.body = .stmts body
  hcl : fd.closure = []
  hg : fd.globals = mainGlobals
  hbl : fd.builtins = builtinsNs
  hk : fd.scope.kind = .function
  hco : fd.scope.isCoroutine = false
  hgen : fd.scope.isGenerator = false
  hcd : S.g.CodeRec fd.code fd.qualname
  hnl : names.length = c.n
  hbind : ∀ vals : List Value, vals.length = c.n → bindArgs fd ⟨vals, []⟩ = pure (names.zip vals)
  hnm : ∀ j x, names[j]? = some x → ixS c.tb x = some j ∧ (fd.scope.names.lookup x = some .local ∨ fd.scope.names.lookup x = some .cell)
  hnd : ((cellsFrom 0 fd.scope.names []).map (·.1)).Nodup
  hcs : CSs c.tb fd.scope.names body c.body
structure IsFn (S : Sta prog w) (f : Addr) (c : FnCore) : Prop where
  ex : ∃ (o : Obj) (fd : FuncData) (body : List Stmt) (names : List Str), FnEx S f c o fd body names
noncomputable def View (S : Sta prog w) (N : Addr → Prop) (v : AV) (σ : Store) (v' : AV) (σ' : Store) : Prop :=
  ∀ s u, Inv S N σ s → Rep S.cv s.heap (DN N σ) v u → Inv S N σ' s ∧ Step noO noO σ s σ' s ∧ Rep S.cv s.heap (DN N σ') v' u
noncomputable abbrev KX := Nat → Store → Prop
noncomputable abbrev noX : KX := fun zz zz => False
noncomputable def Frames (l : List Env) (b : Addr) : Prop := ∃ e ∈ l, e.frame = some b
structure Off (S : Sta prog w) (A : Around) (e : Addr) (c : Nat) (s₀ s' : Shared) : Prop where
  fly : ∃ base l, A.frames = some l ∧ FlyY base l e (S.cv c) .none s'.heap ∧ ∀ b o, s₀.heap.get? b = some o → ¬ Frames l b → base.get? b = some o
  up : s₀.heap.UpToSlots s'.heap
  rest : s'.gens = s₀.gens ∧ s'.drawn = s₀.drawn ∧ s'.os = s₀.os
noncomputable def Sta.grow (S : Sta prog w) (g' : Heap) (k : ∀ b o, S.g.get? b = some o → g'.get? b = some o) (x : Addr) (hx : ∃ o vs, g'.get? x = some o ∧ o.data = .fields vs ∧ vs[2]? = some Value.none) : Sta prog w :=
  { S with g := g', X := S.X.keeps k, ng := S.ng.keeps k, nb := S.nb.keeps k, lim := S.lim.keeps k, sm := (by obtain ⟨o, e⟩ := S.sm; exact ⟨o, k _ _ e⟩), hx := some x, hxo := fun y e => by cases e; exact hx }
inductive PCv (S : Sta prog w) (N : Addr → Prop) (A : Around) (σ : Store) (s : Shared) (Q : AV → Store → Prop) (v : Value) (s' : Shared) : Prop
  | mk (av : AV) (σ' : Store) (st : Step (Frm A) noO σ s σ' s') (i : Inv S N σ' s') (r : Rep S.cv s'.heap (DN N σ') av v) (q : Q av σ') : PCv S N A σ s Q v s'
inductive PCe (S : Sta prog w) (N : Addr → Prop) (A : Around) (σ : Store) (s : Shared) (X : KX) (e : Value) (s' : Shared) : Prop
  | mk (ea : Addr) (c : Nat) (σ' : Store) (s₀ : Shared) (he : e = .ref ea) (o : Off S A ea c s₀ s') (st : Step (Frm A) noO σ s σ' s₀) (i : Inv S N σ' s₀) (x : X c σ') : PCe S N A σ s X e s'
noncomputable def CallT (S : Sta prog w) (k : Nat) (f : Value) (avs : List AV) (σ : Store) (Q : AV → Store → Prop) (X : KX) : Prop :=
  ∀ (N : Addr → Prop) (A : Around) vals s, Room S N k A → Inv S N σ s → RepL S.cv s.heap (DN N σ) avs vals →
    codeAny (model prog w) A (.call f ⟨vals, []⟩) (fun r s' => match r with
      | .ok (.ret v) => PCv S N A σ s Q v s'
      | .ok _ => False
      | .error e => PCe S N A σ s X e s') s
inductive XF (F : Fx S) (m : Nat → Option AV) (X : KX) (e : Value) (s' : Shared) : Prop
  | mk (ea : Addr) (c : Nat) (σ' : Store) (s₀ : Shared) (he : e = .ref ea) (o : Off S F.A ea c s₀ s') (h : F.St m σ' s₀) (x : X c σ') : XF F m X e s'
inductive XR (F : Fx S) (X : KX) (e : Value) (s' : Shared) : Prop
  | mk (ea : Addr) (c : Nat) (σ' : Store) (s₀ : Shared) (m' : Vars) (he : e = .ref ea) (h : F.St m' σ' s₀) (x : X c σ')
    (o : Off S F.A ea c s₀ s' ∨ ∃ args, Heap.MadeExcOf s₀.heap s'.heap ea (S.cv c) args ∧ s'.gens = s₀.gens ∧ s'.drawn = s₀.drawn ∧ s'.os = s₀.os) : XR F X e s'
theorem XF.up {F : Fx S} {m : Nat → Option AV} {X : KX} {e : Value} {s' : Shared} (h : XF F m X e s') : XR F X e s' := by
  obtain ⟨ea, c, σ', s₀, h1, h2, h3, h4⟩ := h
  exact ⟨ea, c, σ', s₀, m, h1, h3, h4, .inl h2⟩
theorem XF.no {F : Fx S} {m : Nat → Option AV} {e : Value} {s' : Shared} (h : XF F m noX e s') : False := by
  obtain ⟨ea, c, σ', s₀, h1, h2, h3, h4⟩ := h
  exact h4
theorem XR.no {F : Fx S} {e : Value} {s' : Shared} (h : XR F noX e s') : False := by
  obtain ⟨ea, c, σ', s₀, m, h1, h2, h3, h4⟩ := h
  exact h3
section
variable {F : Fx S} {m : Nat → Option AV} {σ : Store} {Q : AV → Store → Prop}
theorem CT.own {k : Nat} {f : Value} {avs : List AV} {X : KX} (h : CallT S k f avs σ Q X) (hk : k ≤ F.k) : CT F m σ f avs Q (XF F m X) := by
  intro vals s hs rl
  have room : Room S F.N k F.A := ⟨F.room.hh, F.room.fr, by have := F.room.dp; omega, by have := F.room.un; omega⟩
  refine wpAny_call (codeAny_mono (h F.N F.A vals s room hs.inv rl) fun r s' x => ?_)
  cases r with
  | error e =>
    obtain ⟨ea, c, σ', s₀, h1, h2, h3, h4, h5⟩ := x
    exact ⟨ea, c, σ', s₀, h1, h2, hs.to h3 h4 (fun zz h => h), h5⟩
  | ok fl =>
    cases fl with
    | ret v =>
      obtain ⟨av, σ', st, i, r, q⟩ := x
      exact ⟨σ', st.mono (fun zz h => h.elim), hs.to st i (fun zz h => h), av, r, q⟩
    | _ => exact x
end
structure Top (F : Fx S) : Prop where
  top : ∃ l, F.A.frames = some (F.env :: l)
  frame : F.env.frame = some F.env.locals
theorem funFrames_of {h base : Heap} : ∀ {l : List Env}, (∀ e ∈ l, e.scope.kind ≠ .module ∧ ∃ L o, e.frame = some L ∧ base.get? L = Option.none ∧ h.get? L = some o ∧ ∀ vs, o.data ≠ .fields vs) → h.FunFrames base l
  | [], _ => trivial
  | e :: l, k => ⟨(k e (.head _)).1, (k e (.head _)).2, funFrames_of fun e he => k e (.tail _ he)⟩
theorem Step.hide {P : Addr → Prop} {σ σ' : Store} {s s₀ : Shared} {L : Addr} (x : Step P noO σ s σ' s₀) (hL : s.heap.get? L = Option.none) : Step P noO σ s σ' { s₀ with heap := s₀.heap.hide L } := by
  have ne : ∀ {b o}, s.heap.get? b = some o → b ≠ L := fun e q => by rw [q, hL] at e; cases e
  have hd : ∀ {b o}, b ≠ L → s₀.heap.get? b = some o → (s₀.heap.hide L).get? b = some o := fun n e => (Heap.hide_ne _ n).trans e
  refine ⟨⟨fun b o e d => hd (ne e) (x.ext.obj b o e d)⟩, fun b o e p ho d => ?_, x.dom, fun b o e => ?_⟩
  · obtain ⟨o', e', r⟩ := x.frm b o e p ho d; exact ⟨o', hd (ne e) e', r⟩
  · obtain ⟨o', e'⟩ := x.there b o e; exact ⟨o', hd (ne e) e'⟩
theorem Inv.hide {N N' : Addr → Prop} {σ : Store} {s₀ : Shared} {L : Addr} (x : Inv S N' σ s₀) (hN : ∀ a, N a → N' a) (hL : N' L) (nL : ¬ N L) (gL : S.g.get? L = Option.none) : Inv S N σ { s₀ with heap := s₀.heap.hide L } := by
  have hd : ∀ {b o}, b ≠ L → s₀.heap.get? b = some o → (s₀.heap.hide L).get? b = some o := fun n e => (Heap.hide_ne _ n).trans e
  refine ⟨fun b o e => hd (fun q => by rw [q, gL] at e; cases e) (x.keep b o e), x.gens, x.drawn, x.os, x.σg, fun a d q => x.σN a d (hN a q), fun a q => ?_, fun a o e => ?_⟩
  · obtain ⟨o, e, nf⟩ := x.Nin a (hN a q)
    exact ⟨o, hd (fun z => nL (z ▸ q)) e, nf⟩
  · exact (x.rep a o e).ext (⟨fun b ob eb d => hd (fun z => d (.inr (z ▸ hL))) eb⟩ : Ext (DN N' σ) s₀.heap (s₀.heap.hide L)) (fun b q => .inl (q.imp id (hN b))) fun ob eo => hd (fun z => x.σN a (by unfold Dom; rw [e]; simp) (z ▸ hL)) eo
theorem leave_out {F : Fx S} {A : Around} {N : Addr → Prop} {X : KX} {e : Value} {s s' : Shared} {σ : Store} {l : List Env} {E : Value → Shared → Prop} (hA : F.A.frames = some (F.env :: l)) (hl : A.frames = some l) (hfr : F.env.frame = some F.env.locals)
    (hN : F.N = fun a => N a ∨ Own F.env a) (hb : F.b = (σ, s)) (hPn : ∀ a, F.P a → Frm A a ∨ s.heap.get? a = Option.none) (hNin : ∀ a, N a → ∃ o, s.heap.get? a = some o) (x : XR F X e s') :
    wpAny (model prog w) F.A (leaving F.env e) (fun zz => PCe S N A σ s X e) E s' := by
  obtain ⟨ea, c, σ', s₀, m', rfl, st, hX, hoff⟩ := x
  have sL : s.heap.get? F.env.locals = Option.none := by have := st.new _ (.inl rfl); rw [hb] at this; exact this
  have NL : F.N F.env.locals := st.own _ (.inl rfl)
  have nL : ¬ N F.env.locals := fun q => by obtain ⟨o, e⟩ := hNin _ q; rw [sL] at e; cases e
  have gL : S.g.get? F.env.locals = Option.none := st.gb _ (by rw [hb]; exact sL)
  have stp : Step (Frm A) noO σ s σ' { s₀ with heap := s₀.heap.hide F.env.locals } := by
    have f := st.frm
    rw [hb] at f
    exact (Step.narrow f hPn).hide sL
  have inv : Inv S N σ' { s₀ with heap := s₀.heap.hide F.env.locals } := st.inv.hide (fun a q => by rw [hN]; exact .inl q) NL nL gL
  have up0 : (s₀.heap.hide F.env.locals).UpToSlots s₀.heap := Heap.UpToSlots.of_keeps fun b o e => Heap.of_hide e
  have notL : ∀ {b o}, (s₀.heap.hide F.env.locals).get? b = some o → b ≠ F.env.locals := fun e q => by rw [q, Heap.hide_self] at e; cases e
  rcases hoff with ⟨⟨base, l', el, hf, hbase⟩, up, hr⟩ | ⟨args, hm, hr⟩
  · rw [hA] at el; cases el
    refine leaves_on hA hfr hf fun h' hf' up' => ⟨ea, c, σ', { s₀ with heap := s₀.heap.hide F.env.locals }, rfl, ⟨⟨base, l, hl, hf', fun b o e nf => hbase b o (Heap.of_hide e) ?_⟩, (up0.trans up).trans up', hr⟩, stp, inv, hX⟩
    rintro ⟨ev, hev, q⟩
    rcases List.mem_cons.mp hev with rfl | hev
    · rw [hfr] at q; exact notL e (Option.some.inj q).symm
    · exact nf ⟨ev, hev, q⟩
  · obtain ⟨l2, el2, hl2⟩ := F.room.fr
    rw [hA] at el2; cases el2
    refine leaves_new (base := hideAll s₀.heap ((F.env :: l).filterMap (·.frame))) hA hfr (fun b o e => of_hideAll _ e) (funFrames_of fun ev hev => ?_) hm fun h' hf' up' => ⟨ea, c, σ', { s₀ with heap := s₀.heap.hide F.env.locals }, rfl, ⟨⟨_, l, hl, hf', fun b o e nf => hideAll_get _ (Heap.of_hide e) ?_⟩, up0.trans up', hr⟩, stp, inv, hX⟩
    · obtain ⟨h1, L, h2, h3, _⟩ := hl2 ev hev
      obtain ⟨o, h4, h5⟩ := st.inv.Nin L h3
      exact ⟨h1, L, o, h2, hideAll_none _ (List.mem_filterMap.mpr ⟨ev, hev, h2⟩), h4, h5⟩
    · intro q
      obtain ⟨ev, hev, q⟩ := List.mem_filterMap.mp q
      rcases List.mem_cons.mp hev with rfl | hev
      · rw [hfr] at q; exact notL e (Option.some.inj q).symm
      · exact nf ⟨ev, hev, q⟩
noncomputable def argsM (avs : List AV) : Vars := fun i => avs[i]?
theorem zip_ix {names : List Str} {vals : List Value} {x : Str} {v : Value} (h : (x, v) ∈ names.zip vals) : ∃ j : Nat, names[j]? = some x ∧ vals[j]? = some v := by
  obtain ⟨j, hj, e⟩ := List.mem_iff_getElem.mp h
  refine ⟨j, ?_, ?_⟩ <;> simp only [List.getElem_zip, Prod.mk.injEq] at e <;> simp only [List.length_zip] at hj
  · rw [List.getElem?_eq_getElem (by omega), e.1]
  · rw [List.getElem?_eq_getElem (by omega), e.2]
theorem bindL_at {kind : Str → Option NameKind} : ∀ {names : List Str} {vals : List Value} (m : Str → Option Value) {j : Nat} {x : Str} {v : Value}, names.Nodup → names[j]? = some x → vals[j]? = some v → kind x = some .local → bindL kind (names.zip vals) m x = some v := by
  intro names
  induction names with
  | nil => intro vals m j x v _ h; simp at h
  | cons n r ih =>
    intro vals m j x v nd hx hv hk
    cases vals with
    | nil => simp at hv
    | cons u us =>
      simp only [List.zip_cons_cons, bindL]
      rw [List.nodup_cons] at nd
      cases j with
      | zero =>
        simp only [List.getElem?_cons_zero, Option.some.injEq] at hx hv
        subst hx hv
        rw [if_pos hk]
        have : ∀ (l : List (Str × Value)) (m : Str → Option Value), (∀ p ∈ l, p.1 ≠ n) → bindL kind l m n = m n := by
          intro l
          induction l with
          | nil => intro m _; rfl
          | cons p l ih =>
            intro m hp
            obtain ⟨a, b⟩ := p
            simp only [bindL]
            rw [ih _ fun q hq => hp q (.tail _ hq)]
            split
            · exact if_neg fun e => hp (a, b) (.head _) e.symm
            · rfl
        rw [this _ _ fun p hp e => nd.1 (by obtain ⟨j, h1, _⟩ := zip_ix (x := p.1) (v := p.2) hp; rw [e] at h1; exact List.mem_of_getElem? h1)]
        exact if_pos rfl
      | succ j => exact ih _ nd.2 (by simpa using hx) (by simpa using hv) hk
theorem bindC_at {kind : Str → Option NameKind} : ∀ {names : List Str} {vals : List Value} (m : Str → Option Value) {j : Nat} {x : Str} {v : Value}, names.Nodup → names[j]? = some x → vals[j]? = some v → kind x ≠ some .local → bindC kind (names.zip vals) m x = some v := by
  intro names
  induction names with
  | nil => intro vals m j x v _ h; simp at h
  | cons n r ih =>
    intro vals m j x v nd hx hv hk
    cases vals with
    | nil => simp at hv
    | cons u us =>
      simp only [List.zip_cons_cons, bindC]
      rw [List.nodup_cons] at nd
      cases j with
      | zero =>
        simp only [List.getElem?_cons_zero, Option.some.injEq] at hx hv
        subst hx hv
        rw [if_neg hk]
        have : ∀ (l : List (Str × Value)) (m : Str → Option Value), (∀ p ∈ l, p.1 ≠ n) → bindC kind l m n = m n := by
          intro l
          induction l with
          | nil => intro m _; rfl
          | cons p l ih =>
            intro m hp
            obtain ⟨a, b⟩ := p
            simp only [bindC]
            rw [ih _ fun q hq => hp q (.tail _ hq)]
            split
            · rfl
            · exact if_neg fun e => hp (a, b) (.head _) e.symm
        rw [this _ _ fun p hp e => nd.1 (by obtain ⟨j, h1, _⟩ := zip_ix (x := p.1) (v := p.2) hp; rw [e] at h1; exact List.mem_of_getElem? h1)]
        exact if_pos rfl
      | succ j => exact ih _ nd.2 (by simpa using hx) (by simpa using hv) hk
noncomputable def RetK (S : Sta prog w) (Q : AV → Store → Prop) : Fl → Vars → Store → Prop := fun fl zz σ => ∀ N : Addr → Prop, ∃ v' σ', View S N (match fl with | .ret v => v | .next => .none) σ v' σ' ∧ Q v' σ'
inductive PB (F : Fx S) (Q : AV → Store → Prop) (f : Flow) (s' : Shared) : Prop
  | mk (fl : Fl) (m' : Vars) (σ' : Store) (h : F.St m' σ' s') (r : FlR S.cv s'.heap (F.D σ') f fl) (k : RetK S Q fl m' σ') : PB F Q f s'
theorem CallT.body0 {k : Nat} {f : Addr} {c : FnCore} {avs : List AV} {σ : Store} {Q : AV → Store → Prop} {X : KX} (hf : IsFn S f c) (hn : avs.length = c.n)
    (h : ∀ (F : Fx S), F.k = k → Top F → ∀ ps, CSs F.tb F.sc ps c.body → ∀ s, F.St (argsM avs) σ s → wpAny (model prog w) F.A (execs ps F.env) (PB F Q) (XR F X) s) : CallT S (k + 1) (.ref f) avs σ Q X := by
  intro N A vals s room hi rl
  obtain ⟨o, fd, body, names, ho, hd, hb, hcl, hg, hbl, hk, hco, hgen, hcd, hnl, hbind, hnm, hnd, hcs⟩ := hf.ex
  have hlen : vals.length = c.n := rl.length.trans hn
  have hkind : ∀ x ∈ names.zip vals, fd.scope.names.lookup x.1 = some .local ∨ (fd.scope.names.lookup x.1 = some .cell ∧ ((cellsFrom (s.heap.objs.size + 1) fd.scope.names []).lookup x.1).isSome = true) := by
    rintro ⟨x, v⟩ hx
    obtain ⟨j, h1, _⟩ := zip_ix hx
    rcases (hnm j x h1).2 with q | q
    · exact .inl q
    · exact .inr ⟨q, cellsFrom_some _ _ _ (.inl q)⟩
  refine codeAny_call_cells (fd := fd) (body := body) (binds := names.zip vals) (by have := room.dp; unfold recursionLimit; omega) (hi.keep _ _ ho) hd (S.lim.keeps hi.keep) (hcd.keeps hi.keep) hb (hbind vals hlen) hcl hkind (fun s₁ hin => ?_) hco hgen hk
  obtain ⟨h₁, tk, hs₁, hkeep⟩ := hin.done
  have envL : (callEnvC fd s.heap.objs.size f).locals = s.heap.objs.size := rfl
  have none_of : ∀ a, s.heap.objs.size ≤ a → s.heap.get? a = Option.none := fun a ha => by
    cases q : s.heap.get? a with
    | none => rfl
    | some o => exact absurd (Heap.lt_size q) (Nat.not_lt.mpr ha)
  have ownNew : ∀ a, Own (callEnvC fd s.heap.objs.size f) a → s.heap.get? a = Option.none := by
    rintro a (rfl | ⟨x, hx⟩)
    · exact none_of _ (Nat.le_refl _)
    · exact none_of _ (Nat.le_of_lt (hin.above x a (mem_of_lookup hx)))
  have hnod : names.Nodup := by
    rw [List.nodup_iff_pairwise_ne, List.pairwise_iff_getElem]
    intro i j hi hj hij e
    have h1 := (hnm i _ (List.getElem?_eq_getElem hi)).1
    have h2 := (hnm j _ (List.getElem?_eq_getElem hj)).1
    rw [e, h2] at h1
    have := Option.some.inj h1
    omega
  have er : Ext (DN N σ) s.heap s₁.heap := Ext.of_keeps (by rw [hs₁]; exact hkeep)
  have room' : Room S (fun a => N a ∨ Own (callEnvC fd s.heap.objs.size f) a) k (A.deeper (callEnvC fd s.heap.objs.size f)) := by
    refine ⟨room.hh, ?_, ?_, ?_⟩
    · obtain ⟨l, el, hl⟩ := room.fr
      refine ⟨callEnvC fd s.heap.objs.size f :: l, ?_, ?_⟩
      · show (A.frames.map (callEnvC fd s.heap.objs.size f :: ·)) = _; rw [el]; rfl
      · intro e he
        rcases List.mem_cons.mp he with rfl | he
        · exact ⟨by show fd.scope.kind ≠ _; rw [hk]; simp, s.heap.objs.size, rfl, .inr (.inl rfl), hi.not_g (none_of _ (Nat.le_refl _))⟩
        · obtain ⟨h1, L, h2, h3, h4⟩ := hl e he; exact ⟨h1, L, h2, .inl h3, h4⟩
    · have := room.dp; show A.depth + 1 + 2 * k < 900; omega
    · have := room.un; show A.units + 3 + 20 * k < 9000; omega
  have fc' : ∀ x, (callEnvC fd s.heap.objs.size f).kindOf x = some .cell → ∃ c, (callEnvC fd s.heap.objs.size f).cells.lookup x = some c := fun x hx =>
    Option.isSome_iff_exists.mp (cellsFrom_some (x := x) fd.scope.names (s.heap.objs.size + 1) [] (.inl hx))
  have hPn : ∀ a, Frm (A.deeper (callEnvC fd s.heap.objs.size f)) a → Frm A a ∨ s.heap.get? a = Option.none := by
    rintro a ⟨l, el, e, he, hf⟩
    obtain ⟨l', el', _⟩ := room.fr
    have : l = callEnvC fd s.heap.objs.size f :: l' := by
      have q : A.frames.map (callEnvC fd s.heap.objs.size f :: ·) = some l := el
      rw [el'] at q; exact (Option.some.inj q).symm
    subst this
    rcases List.mem_cons.mp he with rfl | he
    · exact .inr (by have q : some s.heap.objs.size = some a := hf; cases q; exact none_of _ (Nat.le_refl _))
    · exact .inl ⟨l', el', e, he, hf⟩
  have hPN : ∀ a, Frm (A.deeper (callEnvC fd s.heap.objs.size f)) a → N a ∨ Own (callEnvC fd s.heap.objs.size f) a := by
    rintro a ⟨l, el, e, he, hf⟩
    obtain ⟨l2, el2, h2⟩ := room'.fr
    rw [el2] at el; cases el
    obtain ⟨_, L, h3, h4, _⟩ := h2 e he
    rw [hf] at h3; cases h3; exact h4
  let Fc : Fx S := ⟨A.deeper (callEnvC fd s.heap.objs.size f), c.tb, callEnvC fd s.heap.objs.size f, (σ, s), (fun a => N a ∨ Own (callEnvC fd s.heap.objs.size f) a), k, room', hk, hg, hbl, fc'⟩
  have hD : ∀ b, DN Fc.N σ b → DN N σ b ∨ s.heap.get? b = Option.none := fun b hb => hb.elim (fun q => .inl (.inl q)) fun q => q.elim (fun q => .inl (.inr q)) fun q => .inr (ownNew b q)
  have st : Fc.St (argsM avs) σ s₁ := by
    refine ⟨⟨?_, ?_, ?_, ?_, hi.σg, (fun a d q => q.elim (hi.σN a d) fun q => by obtain ⟨ob, e⟩ := hi.dom_there d; rw [ownNew a q] at e; cases e), fun a q => ?_, fun a oa e => (hi.rep a oa e).ext er hD (by rw [hs₁]; exact hkeep a)⟩,
      ⟨_, _, hin.toInCall.ns, hin.cell, fun a ha => ⟨hi.not_dom (ownNew a ha), hi.not_g (ownNew a ha)⟩, fun x y cc h1 h2 => name_of_addr hin.apart (mem_of_lookup h1) (mem_of_lookup h2), fun x cc h1 => Nat.ne_of_gt (hin.above x cc (mem_of_lookup h1)), fun x i av hx hm => ?_⟩,
      Step.of_keeps (by rw [hs₁]; exact hkeep) (fun zz h => .inl h), hPN, ownNew, fun a ha => .inr ha, fun a e => hi.not_g e⟩
    · rw [hs₁]; exact fun b ob e => hkeep b ob (hi.keep b ob e)
    · rw [hs₁]; exact hi.gens
    · rw [hs₁]; exact hi.drawn
    · rw [hs₁]; exact hi.os
    · rcases q with q | rfl | ⟨x, hx⟩
      · obtain ⟨ob, e, nf⟩ := hi.Nin a q; rw [hs₁]; exact ⟨ob, hkeep a ob e, nf⟩
      · obtain ⟨ob, _, _, e, dd, _⟩ := hin.toInCall.ns; exact ⟨ob, e, fun vs z => by rw [dd] at z; cases z⟩
      · obtain ⟨ob, e, dd⟩ := hin.cell x a hx; exact ⟨ob, e, fun vs z => by rw [dd] at z; cases z⟩
    · obtain ⟨v, hv, rv⟩ := rl.get hm
      have hin' : i < names.length := by
        have : i < vals.length := by
          rcases Nat.lt_or_ge i vals.length with q | q
          · exact q
          · rw [List.getElem?_eq_none q] at hv; cases hv
        omega
      have hxi := List.getElem?_eq_getElem hin'
      have hxx : names[i] = x := ixS_inj (hnm i _ hxi).1 hx
      rw [hxx] at hxi
      have rv' : Rep S.cv s₁.heap (DN Fc.N σ) av v := rv.ext er hD
      have kd : (callEnvC fd s.heap.objs.size f).kindOf x = fd.scope.names.lookup x := rfl
      rcases (hnm i x hxi).2 with q | q
      · show LocAt _ _ _ _ _ _ ((callEnvC fd s.heap.objs.size f).kindOf x) _ _
        rw [kd, q]
        exact ⟨v, bindL_at _ hnod hxi hv (kd.trans q), rv'⟩
      · show LocAt _ _ _ _ _ _ ((callEnvC fd s.heap.objs.size f).kindOf x) _ _
        rw [kd, q]
        obtain ⟨cc, hcc⟩ := Option.isSome_iff_exists.mp (cellsFrom_some (x := x) fd.scope.names (s.heap.objs.size + 1) [] (.inl q))
        exact ⟨v, cc, hcc, bindC_at _ hnod hxi hv (by rw [kd, q]; simp), rv'⟩
  obtain ⟨lf, elf, _⟩ := room.fr
  have top : Fc.A.frames = some (Fc.env :: lf) := by show (A.frames.map (callEnvC fd s.heap.objs.size f :: ·)) = _; rw [elf]; rfl
  have hbody := h Fc rfl ⟨⟨lf, top⟩, rfl⟩
  have hcs' : CSs Fc.tb Fc.sc body c.body := hcs
  refine wpAny_mono (hbody _ hcs' s₁ st) (fun fl s' hq => ?_) fun e s' hx => leave_out (N := N) top elf rfl rfl rfl hPn (fun a q => by obtain ⟨o, e, _⟩ := hi.Nin a q; exact ⟨o, e⟩) hx
  obtain ⟨fl', m', σ', h', hfr, hret⟩ := hq
  obtain ⟨v', σ'', hview, hQ⟩ := hret N
  have hi' : Inv S N σ' s' := ⟨h'.inv.keep, h'.inv.gens, h'.inv.drawn, h'.inv.os, h'.inv.σg, fun a d q => h'.inv.σN a d (.inl q), fun a q => h'.inv.Nin a (.inl q),
    fun a oa e => (h'.inv.rep a oa e).ext (Ext.refl _ _) (fun b q => .inl (q.imp id .inl)) fun zz q => q⟩
  have fin : ∀ u, Rep S.cv s'.heap (DN Fc.N σ') (match fl' with | .ret v => v | .next => .none) u → PCv S N A σ s Q u s' := by
    intro u ru
    obtain ⟨i2, st2, r2⟩ := hview s' u hi' (ru.less fun a q => q.imp id .inl)
    exact ⟨v', σ'', (Step.narrow h'.frm hPn).trans st2.any, i2, r2, hQ⟩
  cases fl' with
  | next =>
    cases fl with
    | next => exact fin .none .none
    | _ => exact hfr.elim
  | ret v =>
    cases fl with
    | ret u => exact fin u hfr
    | _ => exact hfr.elim
theorem CallT.body {k : Nat} {f : Addr} {c : FnCore} {avs : List AV} {σ : Store} {Q : AV → Store → Prop} {X : KX} (hf : IsFn S f c) (hn : avs.length = c.n)
    (h : ∀ (F : Fx S), F.k = k → Top F → SsT F (argsM avs) σ c.body (RetK S Q) (XR F X)) : CallT S (k + 1) (.ref f) avs σ Q X :=
  CallT.body0 hf hn fun F hk ht ps hc s hs => wpAny_mono (h F hk ht ps hc s hs) (fun _ _ ⟨fl, m', σ', _, h1, h2, h3⟩ => ⟨fl, m', σ', h1, h2, h3⟩) fun zz zz e => e
end Mine
end
section
namespace Mine
open PySem PyProof.Rows PySem.W
variable {prog : Program} {w : World} {S : Sta prog w}
noncomputable def Its (h : Heap) (W : Addr → Prop) : Prop := ∀ a, W a → ∃ o, h.get? a = some o ∧ ItObj o
theorem Its.seq {h : Heap} {W : Addr → Prop} (x : Its h W) {a : Addr} {o : Obj} (e : h.get? a = some o) (hd : ∀ vs, o.data ≠ .fields vs) : ¬ W a := fun q => by
  obtain ⟨o', e', _, vs, hv⟩ := x a q
  rw [e] at e'; cases e'; exact hd vs hv
theorem Its.turn {h h' : Heap} {D W : Addr → Prop} (it : Its h W) (k : ∀ b o, ¬ W b → h.get? b = some o → h'.get? b = some o) (b : Addr) (o : Obj) (e : h.get? b = some o) (hd : ¬ ItObj o) (d : ¬ D b) : h'.get? b = some o ∧ ¬ D b :=
  ⟨k b o (fun q => by obtain ⟨o', e', h'⟩ := it b q; exact hd (Option.some.inj (e'.symm.trans e) ▸ h')) e, d⟩
section
variable {cv : Nat → Value} {h h' : Heap} {D W : Addr → Prop}
theorem Rep.it (it : Its h W) (k : ∀ b o, ¬ W b → h.get? b = some o → h'.get? b = some o) {av : AV} {v : Value} (r : Rep cv h D av v) : Rep cv h' D av v :=
  r.turn (it.turn k)
theorem RepL.it (it : Its h W) (k : ∀ b o, ¬ W b → h.get? b = some o → h'.get? b = some o) {av : List AV} {v : List Value} (r : RepL cv h D av v) : RepL cv h' D av v :=
  r.turn (it.turn k)
theorem RepD.it (it : Its h W) (k : ∀ b o, ¬ W b → h.get? b = some o → h'.get? b = some o) {av : List (Spot × AV)} {v : List DictEntry} (r : RepD cv h D av v) : RepD cv h' D av v :=
  r.turn (it.turn k)
theorem RepF.it (it : Its h W) (k : ∀ b o, ¬ W b → h.get? b = some o → h'.get? b = some o) {av : List (Str × AV)} {v : List DictEntry} (r : RepF cv h D av v) : RepF cv h' D av v :=
  r.turn (it.turn k)
theorem RepO.it (it : Its h W) (k : ∀ b o, ¬ W b → h.get? b = some o → h'.get? b = some o) {o : AObj} {a : Addr} (r : RepO cv h D o a) : RepO cv h' D o a := by
  induction r with
  | list e r => exact .list (k _ _ (it.seq e (by intro _ h; cases h)) e) (r.it it k)
  | dict e sm n r => exact .dict (k _ _ (it.seq e (by intro _ h; cases h)) e) sm n (r.it it k)
  | inst e n => exact .inst (k _ _ (it.seq e (by intro _ h; cases h)) e) n
  | attrs e r => exact .attrs (k _ _ (it.seq e (by intro _ h; cases h)) e) (r.it it k)
end
structure ItStep (W : Addr → Prop) (s s' : Shared) : Prop where
  keep : ∀ b o, ¬ W b → s.heap.get? b = some o → s'.heap.get? b = some o
  rest : s'.gens = s.gens ∧ s'.drawn = s.drawn ∧ s'.os = s.os
theorem St.it {tb : List Nat} {env : Env} {N P W : Addr → Prop} {b : Store × Shared} {m : Vars} {σ : Store} {s s' : Shared} (hs : Mine.St S tb env N P b m σ s) (it : Its s.heap W)
    (new : ∀ a, W a → b.2.heap.get? a = Option.none) (hN : ∀ a, W a → ¬ N a) (st : ItStep W s s') : Mine.St S tb env N P b m σ s' := by
  obtain ⟨mc, cm, n, c, ow, ap, cl, r⟩ := hs.loc
  have nI : ∀ a, Own env a → ¬ W a := by
    rintro a (rfl | ⟨x, hx⟩)
    · obtain ⟨o, es, ep, e, d, _⟩ := n; exact it.seq e (by rw [d]; intro _ h; cases h)
    · obtain ⟨o, e, d⟩ := c x a hx; exact it.seq e (by rw [d]; intro _ h; cases h)
  refine ⟨⟨fun a o e => st.keep a o (fun q => by rw [hs.gb a (new a q)] at e; cases e) (hs.inv.keep a o e), st.rest.1.trans hs.inv.gens, st.rest.2.1.trans hs.inv.drawn, st.rest.2.2.trans hs.inv.os, hs.inv.σg, hs.inv.σN, fun a h => ?_, fun a o e => (hs.inv.rep a o e).it it st.keep⟩, ?_, ?_, hs.pN, hs.new, hs.own, hs.gb⟩
  · obtain ⟨o, e, nf⟩ := hs.inv.Nin a h; exact ⟨o, st.keep a o (fun q => hN a q h) e, nf⟩
  · refine ⟨mc, cm, ?_, fun x cc hx => ?_, ow, ap, cl, fun x i av hx hm => ?_⟩
    · obtain ⟨o, es, ep, e, d⟩ := n; exact ⟨o, es, ep, st.keep _ _ (nI _ (.inl rfl)) e, d⟩
    · obtain ⟨o, e, d⟩ := c x cc hx; exact ⟨o, st.keep _ _ (nI _ (.inr ⟨x, hx⟩)) e, d⟩
    · exact LocAt.map (r x i av hx hm) (fun h2 => h2.it it st.keep) (fun zz h1 => h1) (fun zz h1 => h1)
  · exact hs.frm.over fun c e o => st.keep c o fun z => e.elim fun o e => no_some (new c z) e
structure Walk (F : Fx S) (I : Addr) (items : List AV) (t : PySem.Expr) (W : Addr → Prop) (J : Nat → Store → Shared → Prop) (ok : Store → Store → Prop) : Prop where
  its : ∀ i σ s, J i σ s → Its s.heap W
  stays : ∀ i m m' σ s σ' s' (O : Addr → Prop), (∀ a, O a → F.N a) → (∀ a, W a → ¬ F.N a) → J i σ s → F.St m σ s → Step F.P O σ s σ' s' → F.St m' σ' s' → ok σ σ' → J i σ' s'
  next : ∀ i x m σ s (Q₀ : Shared → Prop) (Q : Value → Shared → Prop) (X : Value → Shared → Prop), items[i]? = some x → F.St m σ s → J i σ s →
    (∀ v s₂, ItStep W s s₂ → Rep S.cv s₂.heap (F.D σ) x v → J (i + 1) σ s₂ → Q v s₂) →
    wpAny (model prog w) F.A (pyNext (.ref I)) (fun r s₁ => match r with
      | none => Q₀ s₁
      | some v => wpAny (model prog w) F.A (letOwnedTupleGo t (.ref I) v) (fun zz s₂ => Q v s₂) X s₁) X s
  self : ∀ i σ s (Q : Value → Shared → Prop) (X : Value → Shared → Prop), J i σ s → Q (.ref I) s → wpAny (model prog w) F.A (pyIter (.ref I)) Q X s
  done : ∀ m σ s (Q : Option Value → Shared → Prop) (X : Value → Shared → Prop), F.St m σ s → J items.length σ s → (∀ s₁, ItStep W s s₁ → Q none s₁) → wpAny (model prog w) F.A (pyNext (.ref I)) Q X s
set_option tactic.hygienic true in
noncomputable def LoopT (F : Fx S) (p : Pat) (body : List Mine.S) (ok : Store → Store → Prop) (K : Fl → Vars → Store → Prop) (X : Value → Shared → Prop) : List AV → Vars → Store → Prop
  | [], m, σ => K .next m σ
  | x :: r, m, σ => PT F m σ p x (fun m₁ σ₁ => SsT F m₁ σ₁ body (fun fl m₂ σ₂ => match fl with
      | .next => ok σ σ₂ ∧ LoopT F p body ok K X r m₂ σ₂
      | .ret v => K (.ret v) m₂ σ₂) X) X
section
variable {F : Fx S} {σ : Store} {X : Value → Shared → Prop} {K : Fl → Vars → Store → Prop}
inductive FInv (F : Fx S) (p : Pat) (body : List Mine.S) (ok : Store → Store → Prop) (K : Fl → Vars → Store → Prop) (X : Value → Shared → Prop) (items : List AV) (J : Nat → Store → Shared → Prop) (σ₀ : Store) (s₀ : Shared) (n : Nat) (s' : Shared) : Prop
  | mk (i : Nat) (m' : Vars) (σ' : Store) (hn : n + i = items.length + 1) (hi : i ≤ items.length) (st : Step F.P F.O σ₀ s₀ σ' s') (h : F.St m' σ' s') (hJ : J i σ' s') (l : LoopT F p body ok K X (items.drop i) m' σ') : FInv F p body ok K X items J σ₀ s₀ n s'
set_option tactic.hygienic true in
theorem forLoopT {I : Addr} {items : List AV} {t : PySem.Expr} {W : Addr → Prop} {J : Nat → Store → Shared → Prop} {ok : Store → Store → Prop} {p : Pat} {body : List Mine.S} {pb : List Stmt} {m : Vars} {s₀ s : Shared} {σ₀ : Store}
    (Wk : Walk F I items t W J ok) (hX : PassesOwn (model prog w) F.A F.env X) (hp : CP F.tb F.sc t p) (hb : CSs F.tb F.sc pb body) (new : ∀ a, W a → s₀.heap.get? a = Option.none)
    (st : Step F.P F.O σ₀ s₀ σ s) (hs : F.St m σ s) (bN : ∀ a, W a → F.b.2.heap.get? a = Option.none) (hN : ∀ a, W a → ¬ F.N a) (hJ : J 0 σ s) (h : LoopT F p body ok K X items m σ) :
    codeAny (model prog w) F.A (.forLoop t (.ref I) pb [] F.env) (fun r s' => match r with
      | .ok f => PS F σ₀ s₀ K f s'
      | .error e => cameBackBy (model prog w) F.A F.env X e s') s := by
  refine codeAny_forLoop_any (FInv F p body ok K X items J σ₀ s₀) ?_ (items.length + 1) ⟨0, m, σ, rfl, Nat.zero_le _, st, hs, hJ, h⟩
  rintro n s₁ ⟨i, m₁, σ₁, hn, hi, st₁, h₁, hJ₁, hl⟩
  have its := Wk.its i σ₁ s₁ hJ₁
  have stp : ∀ {s₂ : Shared}, ItStep W s₁ s₂ → Step F.P F.O σ₀ s₀ σ₁ s₂ := fun q => st₁.over fun c e o => q.keep c o fun z => e.elim fun o e => no_some (new c z) e
  by_cases hlt : i < items.length
  · obtain ⟨x, hx⟩ : ∃ x, items[i]? = some x := ⟨_, List.getElem?_eq_getElem hlt⟩
    have hd : items.drop i = x :: items.drop (i + 1) := by
      rw [List.drop_eq_getElem_cons hlt]
      rw [List.getElem?_eq_getElem hlt] at hx
      cases hx; rfl
    rw [hd] at hl
    refine Wk.next i x m₁ σ₁ s₁ _ _ _ hx h₁ hJ₁ fun v s₂ ist rv hJ₂ => ?_
    have h₂ : F.St m₁ σ₁ s₂ := h₁.it its bN hN ist
    refine wpAny_passesOwn hX (wpAny_mono (hl t hp v s₂ h₂ rv) ?_ fun zz zz e => e)
    rintro _ s₃ ⟨m₃, σ₃, st₃, h₃, hq⟩
    refine wpAny_passesOwn hX (wpAny_mono (hq pb hb s₃ h₃) ?_ fun zz zz e => e)
    rintro f s₄ ⟨fl, m₄, σ₄, st₄, h₄, hf, hq'⟩
    have st' := ((stp ist).trans st₃).trans st₄
    cases fl with
    | next =>
      cases f with
      | next => exact ⟨n - 1, by omega, i + 1, m₄, σ₄, by omega, hlt, st', h₄, Wk.stays _ _ _ _ _ _ _ F.O h₂.own hN hJ₂ h₂ (st₃.trans st₄) h₄ hq'.1, hq'.2⟩
      | _ => exact hf.elim
    | ret v =>
      cases f with
      | ret u => exact ⟨.ret v, m₄, σ₄, st', h₄, hf, hq'⟩
      | _ => exact hf.elim
  · have hi' : i = items.length := by omega
    subst hi'
    rw [List.drop_length] at hl
    refine Wk.done m₁ σ₁ s₁ _ _ h₁ hJ₁ fun s₂ ist => ?_
    exact wpAny_execs_nil ⟨.next, m₁, σ₁, stp ist, h₁.it its bN hN ist, trivial, hl⟩
end
end Mine
end
section
namespace Mine
open PySem PyProof.Rows PySem.W
variable {prog : Program} {w : World} {S : Sta prog w}
set_option tactic.hygienic true in
theorem letOwned_skip {A : Around} {X : Value → Shared → Prop} {t : PySem.Expr} {I : Addr} {v : Value} {s : Shared} {o : Obj} {T : String} {Q : Unit → Shared → Prop} (ho : s.heap.get? I = some o) (hc : o.cls = .type T)
    (hn : ["enumerate", "zip", "dict_itemiterator", "dict_reverseitemiterator", "odict_iterator", "itertools.zip_longest", "itertools.pairwise"].contains T = false) (h : Q () s) :
    wpAny (model prog w) A (letOwnedTupleGo t (.ref I) v) Q X s := by
  have core : wpAny (model prog w) A (do
    let (.ref r, .ref a) := ((Value.ref I, v) : Value × Value) | return
    let o ← load r
    match o.cls, o.data with
    | .type n, .fields vs =>
      if ["enumerate", "zip", "dict_itemiterator", "dict_reverseitemiterator", "odict_iterator", "itertools.zip_longest", "itertools.pairwise"].contains n && vs[0]? == some (rawInt a) then
        rule "for.unpacks-the-owned-tuple"
        updateField r 0 .none
    | _, _ => pure ()) Q X s := by
    cases v with
    | ref a =>
      refine wpAny_bind (wpAny_load ho ?_)
      rw [hc]
      split
      · rename_i n vs q1 q2
        cases q1
        rw [hn, Bool.false_and, if_neg Bool.false_ne_true]
        exact wpAny_pure h
      · exact wpAny_pure h
    | _ => exact wpAny_pure h
  cases t <;> first | exact core | exact wpAny_pure h
theorem Its.notDom {N W : Addr → Prop} {σ : Store} {s : Shared} (x : Its s.heap W) (hi : Inv S N σ s) {a : Addr} (q : W a) : ¬ Dom σ a := fun d => by
  cases e : σ a with
  | none => exact d e
  | some o =>
    cases hi.rep a o e with
    | list e _ => exact x.seq e (by intro _ h; cases h) q
    | dict e _ _ _ => exact x.seq e (by intro _ h; cases h) q
    | inst e _ => exact x.seq e (by intro _ h; cases h) q
    | attrs e _ => exact x.seq e (by intro _ h; cases h) q
section
variable {F : Fx S} {m m' : Vars} {σ σ' : Store} {s s' : Shared} {X : Value → Shared → Prop} {Q : AV → Store → Prop}
theorem Its.notOwn {W : Addr → Prop} (x : Its s.heap W) (hs : F.St m σ s) {a : Addr} (q : W a) : ¬ F.O a := by
  obtain ⟨mc, cm, n, c, _⟩ := hs.loc
  rintro (rfl | ⟨y, hy⟩)
  · obtain ⟨o, es, ep, e, d, _⟩ := n; exact x.seq e (by rw [d]; intro _ h; cases h) q
  · obtain ⟨o, e, d⟩ := c y a hy; exact x.seq e (by rw [d]; intro _ h; cases h) q
theorem Its.still {O W : Addr → Prop} (x : Its s.heap W) (hs : F.St m σ s) (hO : ∀ a, O a → F.N a) (hN : ∀ a, W a → ¬ F.N a) (st : Step F.P O σ s σ' s') {a : Addr} (q : W a) {o : Obj} (e : s.heap.get? a = some o) : s'.heap.get? a = some o :=
  st.ext.obj a o e (fun d => d.elim (x.notDom hs.inv q) fun z => hN a q (z.elim (hO a) (hs.pN a)))
noncomputable def Moves (F : Fx S) (σ : Store) (s₁ : Shared) (J : Fx S → Nat → Store → Shared → Prop) : Prop :=
  ∀ (F₂ : Fx S) (σ₂ : Store) (s₂ : Shared), (∀ b o, s₁.heap.get? b = some o → s₂.heap.get? b = some o) → (∀ b, F₂.D σ₂ b → F.D σ b ∨ s₁.heap.get? b = Option.none) → (∀ b o, σ b = some o → σ₂ b = some o) → J F₂ 0 σ₂ s₂
theorem Moves.here {J : Fx S → Nat → Store → Shared → Prop} (h : Moves F σ s J) : J F 0 σ s := h F σ s (fun zz zz e => e) (fun zz d => .inl d) fun zz zz e => e
inductive PIter (F : Fx S) (σ : Store) (s : Shared) (items : List AV) (ok : Store → Store → Prop) (t : PySem.Expr) (it : Value) (s₁ : Shared) : Prop
  | mk (I : Addr) (W : Addr → Prop) (J : Fx S → Nat → Store → Shared → Prop) (hit : it = .ref I) (wk : ∀ F₂ : Fx S, Walk F₂ I items t W (J F₂) ok) (kp : ∀ b o, s.heap.get? b = some o → s₁.heap.get? b = some o) (hs : ∃ h' tk, s₁ = { s with heap := h', toks := tk })
    (nw : ∀ a, W a → s.heap.get? a = Option.none) (mv : Moves F σ s₁ J) : PIter F σ s items ok t it s₁
noncomputable def IterT (F : Fx S) (σ : Store) (a : AV) (items : List AV) (ok : Store → Store → Prop) : Prop :=
  ∀ m va s t (X : Value → Shared → Prop), F.St m σ s → Rep S.cv s.heap (F.D σ) a va → wpAny (model prog w) F.A (pyIter va) (PIter F σ s items ok t) X s
noncomputable def okL (a : AV) (σ σ' : Store) : Prop := match a with
  | .loc ad => σ' ad = σ ad
  | _ => True
theorem okL_dl {a : AV} {l : List AV} (h : dl σ a = some l) (o : okL a σ σ') : dl σ' a = some l := by
  cases a with
  | loc ad => simp only [dl] at h ⊢; rw [show σ' ad = σ ad from o]; exact h
  | _ => exact h
set_option tactic.hygienic true in
theorem IterT.list (hq : S.hx = Option.none) {a : AV} {l : List AV} (h : dl σ a = some l) : IterT F σ a l (okL a) := by
  intro m va s t X hs ra
  obtain ⟨ad, vs, n, rfl, e, rl⟩ := ra.lst hs.inv h
  have hL : s.heap.IsList ad vs.toArray := ⟨_, e, rfl, n, rfl⟩
  refine wpAny_pyIter_list hL ⟨s.heap.objs.size, (· = s.heap.objs.size), fun F₂ i σ' s' => s'.heap.IsListIter s.heap.objs.size ad i ∧ Rep S.cv s'.heap (F₂.D σ') a (.ref ad) ∧ dl σ' a = some l, rfl, ?_, push_keeps _ _, ⟨_, _, rfl⟩, fun b q => by rw [q]; exact get_size _, ?_⟩
  · have its : ∀ i (s' : Shared), s'.heap.IsListIter s.heap.objs.size ad i → Its s'.heap (· = s.heap.objs.size) := by
      rintro i s' ⟨o, e, c, d⟩ b rfl
      exact ⟨o, e, ⟨_, c, by decide⟩, _, d⟩
    intro F₂
    refine ⟨fun i σ' s' hJ => its i s' hJ.1, fun i m₁ m₂ σ₁ s₁ σ₂ s₂ O hO hN hJ h₁ st h₂ o => ⟨?_, hJ.2.1.step st hO h₁.pN, okL_dl hJ.2.2 o⟩, fun i x m₁ σ₁ s₁ Q₀ Q X hx h₁ hJ hQ => ?_, fun i σ₁ s₁ Q X hJ hQ => wpAny_pyIter_listiter hJ.1 hQ, fun m₁ σ₁ s₁ Q X h₁ hJ hQ => ?_⟩
    · have z := its i s₁ hJ.1
      obtain ⟨o, e, c, d⟩ := hJ.1
      exact ⟨o, z.still h₁ hO hN st rfl e, c, d⟩
    · obtain ⟨hit, ra', hl⟩ := hJ
      obtain ⟨ad', ws, n', e1, e', rl'⟩ := ra'.lst h₁.inv hl
      cases e1
      obtain ⟨v, hv, rv⟩ := rl'.get hx
      have z := its i s₁ hit
      refine wpAny_pyNext_list_item hit (items := ws.toArray) ⟨_, e', rfl, n', rfl⟩ (x := v) (by simpa using hv) fun h' hit' hsb => ?_
      have ist : ItStep (· = s.heap.objs.size) s₁ { s₁ with heap := h' } := ⟨fun b o q e => hsb.extBut b o q e, rfl, rfl, rfl⟩
      obtain ⟨o, eo, co, _⟩ := id hit'
      refine letOwned_skip eo co (by decide) (hQ v _ ist (rv.it z ist.keep) ⟨hit', ra'.it z ist.keep, hl⟩)
    · obtain ⟨hit, ra', hl⟩ := hJ
      obtain ⟨ad', ws, n', e1, e', rl'⟩ := ra'.lst h₁.inv hl
      cases e1
      exact wpAny_pyNext_list_end (F₂.room.quiet hq) hit (items := ws.toArray) ⟨_, e', rfl, n', rfl⟩ (by simp [rl'.length]) fun h' he => hQ _ ⟨fun b o q e => he b o q e, rfl, rfl, rfl⟩
  · intro F₂ σ₂ s₂ kp hD ks
    refine ⟨⟨_, kp _ _ (Heap.get?_push_size _ rfl), rfl, rfl⟩, ?_, ?_⟩
    · obtain ⟨h1, st⟩ := hs.grow (push_keeps s.heap { cls := .type "list_iterator", data := .fields #[.ref ad, .int 0 0] }) s.toks
      exact (ra.st st.any h1).ext (Ext.of_keeps kp) hD
    · cases a with
      | loc ad' =>
        simp only [dl] at h ⊢
        split at h
        · rename_i l' e'
          rw [ks _ _ e']; exact h
        · cases h
      | _ => exact h
noncomputable def rangeAV (a c : Int) (n : Nat) : List AV := (List.range n).map fun i : Nat => AV.int (a + c * (i : Int))
end
end Mine
end
section
namespace Mine
open PySem PyProof.Rows PySem.W
variable {prog : Program} {w : World} {S : Sta prog w}
section
variable {A : Around} {E : Value → Shared → Prop} {s : Shared}
noncomputable def DictE (h : Heap) (d : Addr) (es : Array DictEntry) (ep : Nat) : Prop := h.get? d = some (dctObj es ep)
theorem DictE.typeIs {d : Addr} {es : Array DictEntry} {ep : Nat} (x : DictE s.heap d es ep) : s.TypeIs (.ref d) "dict" := ⟨_, x, rfl⟩
theorem dictIter {d : Addr} {es : Array DictEntry} {ep : Nat} {Q : Value → Shared → Prop} (hd : (d == sysModules) = false) (hm : DictE s.heap d es ep)
    (hQ : Q (.ref s.heap.objs.size) { s with heap := s.heap.push { cls := .type "dict_keyiterator", data := .fields #[.ref d, .int 0 0, .int es.size 0, .int ep 0] } }) :
    wpAny (model prog w) A (pyIter (.ref d)) Q E s := by
  have hT := hm.typeIs
  refine wpAny_pyIter_slot hT PySem.F.slot_dict_iter (wpAny_call_entry PySem.F.slot_dict_iter hT PySem.F.entry_dict_iter ?_ (PySem.F.args_dict_iter_1 _))
  unfold Builtin.«dict.__iter__»
  refine wpAny_bind ?_
  unfold Builtin.Dict.dictSlotNone
  refine wpAny_bind (wpAny_notOrdered_dict hT ?_)
  show wpAny _ _ (pure (Value.ref d)) _ _ s
  refine wpAny_pure ?_
  show wpAny _ _ (Builtin.Dict.showsAll d >>= _) _ _ s
  unfold Builtin.Dict.showsAll
  rw [if_neg (by rw [hd]; exact Bool.false_ne_true)]
  refine wpAny_bind (wpAny_pure ?_)
  refine wpAny_bind (wpAny_dictEntries hm rfl ?_)
  refine wpAny_bind (wpAny_dictEpoch hm rfl ?_)
  refine wpAny_bind (wpAny_newObj_type (wpAny_pure ⟨_, rfl, "dict_keyiterator", _, ⟨_, Heap.get?_push_size _ rfl, rfl⟩, PySem.F.slot_dict_keyiterator_next.lookup, ?_⟩))
  simpa [rawInt] using hQ
theorem dictNext {it d : Addr} {i ep : Nat} {es : Array DictEntry} {e : DictEntry} {Q : Option Value → Shared → Prop} (hit : s.heap.IsKeyIter it d i es.size ep)
    (hm : DictE s.heap d es ep) (hx : es[i]? = some e)
    (hQ : ∀ h', h'.IsKeyIter it d (i + 1) es.size ep → Heap.SameBut it s.heap h' → Q (some e.key) { s with heap := h' }) :
    wpAny (model prog w) A (pyNext (.ref it)) Q E s := by
  obtain ⟨o, ho, hc, hd⟩ := id hit
  unfold pyNext
  refine wpAny_bind (wpAny_attempt (wpAny_callSpecial?_slot (name := Str.ofString "__next__") hit.typeIs PySem.F.slot_dict_keyiterator_next
    (wpAny_call_entry PySem.F.slot_dict_keyiterator_next hit.typeIs PySem.F.entry_dict_keyiterator_next ?_ (PySem.F.args_dict_keyiterator_next_1 _))))
  refine wpAny_bind (wpAny_pure ?_)
  refine wpAny_bind ?_
  refine wpAny_bind ?_
  first | refine wpAny_bind (wpAny_typeNameOfWhole_keyiter hit.typeIs (wpAny_pure ?_)) | refine wpAny_bind (wpAny_typeNameOf_keyiter hit.typeIs (wpAny_pure ?_))
  refine wpAny_bind (wpAny_fieldsOf ho hd ?_)
  have hown : Builtin.Dict_items.ownsTuple "dict_keyiterator" = false := by decide
  simp only [hown, Bool.false_eq_true, if_false]
  show wpAny _ _ (if (Value.ref d == Value.none) = true then _ else _) _ _ s
  rw [if_neg (show ¬ ((Value.ref d == Value.none) = true) from Bool.false_ne_true)]
  refine wpAny_bind (wpAny_pure ?_)
  refine wpAny_bind (wpAny_dictEntries hm rfl ?_)
  rw [if_neg (by simp)]
  refine wpAny_bind (wpAny_pure ?_)
  refine wpAny_bind (wpAny_dictEpoch hm rfl ?_)
  rw [if_neg (by simp)]
  refine wpAny_pure ?_
  simp only [show ¬ ((i : Int) < 0) from by omega, if_false, Int.toNat_natCast, hx]
  refine wpAny_bind ?_
  first | refine wpAny_bind (wpAny_typeNameOfWhole_keyiter hit.typeIs (wpAny_pure ?_)) | refine wpAny_bind (wpAny_typeNameOf_keyiter hit.typeIs (wpAny_pure ?_))
  refine wpAny_bind (wpAny_isOneOf_keyiter hit.typeIs ?_)
  show wpAny _ _ (setField (.ref it) 1 (rawInt ((i : Int) + 1)) >>= _) _ _ s
  refine wpAny_bind (wpAny_setField ho hd (by simp) ?_)
  have hit' : (s.heap.update it (Obj.mapFields (·.setIfInBounds 1 (rawInt ((i : Int) + 1))))).IsKeyIter it d (i + 1) es.size ep :=
    ⟨_, Heap.get?_update_self _ ho (Obj.isFreed_of_fields (Obj.data_mapFields hd _)), (Obj.cls_mapFields ..).trans hc, by rw [Obj.data_mapFields hd]; simp [rawInt]⟩
  refine wpAny_bind (wpAny_holding ?_)
  refine wpAny_bind (wpAny_isOneOf_keyiter (s := { s with heap := s.heap.update it (Obj.mapFields (·.setIfInBounds 1 (rawInt ((i : Int) + 1)))) }) hit'.typeIs ?_)
  show wpAny _ _ (pure e.key) _ _ _
  exact wpAny_pure (wpAny_pure ⟨_, rfl, wpAny_pure (hQ _ hit' (Heap.SameBut.update ..))⟩)
theorem dictEnd {it d : Addr} {i ep : Nat} {es : Array DictEntry} {Q : Option Value → Shared → Prop} (hh : A.handled = none) (hit : s.heap.IsKeyIter it d i es.size ep)
    (hm : DictE s.heap d es ep) (hx : es.size ≤ i) (hQ : ∀ h', Heap.ExtBut it s.heap h' → Q none { s with heap := h' }) : wpAny (model prog w) A (pyNext (.ref it)) Q E s := by
  obtain ⟨o, ho, hc, hd⟩ := id hit
  unfold pyNext
  refine wpAny_bind (wpAny_attempt (wpAny_callSpecial?_slot (name := Str.ofString "__next__") hit.typeIs PySem.F.slot_dict_keyiterator_next
    (wpAny_call_entry PySem.F.slot_dict_keyiterator_next hit.typeIs PySem.F.entry_dict_keyiterator_next ?_ (PySem.F.args_dict_keyiterator_next_1 _))))
  refine wpAny_bind (wpAny_pure ?_)
  refine wpAny_bind ?_
  refine wpAny_bind ?_
  first | refine wpAny_bind (wpAny_typeNameOfWhole_keyiter hit.typeIs (wpAny_pure ?_)) | refine wpAny_bind (wpAny_typeNameOf_keyiter hit.typeIs (wpAny_pure ?_))
  refine wpAny_bind (wpAny_fieldsOf ho hd ?_)
  have hown : Builtin.Dict_items.ownsTuple "dict_keyiterator" = false := by decide
  simp only [hown, Bool.false_eq_true, if_false]
  show wpAny _ _ (if (Value.ref d == Value.none) = true then _ else _) _ _ s
  rw [if_neg (show ¬ ((Value.ref d == Value.none) = true) from Bool.false_ne_true)]
  refine wpAny_bind (wpAny_pure ?_)
  refine wpAny_bind (wpAny_dictEntries hm rfl ?_)
  rw [if_neg (by simp)]
  refine wpAny_bind (wpAny_pure ?_)
  refine wpAny_bind (wpAny_dictEpoch hm rfl ?_)
  rw [if_neg (by simp)]
  refine wpAny_pure ?_
  simp only [show ¬ ((i : Int) < 0) from by omega, if_false, Int.toNat_natCast, Array.getElem?_eq_none hx]
  refine wpAny_bind ?_
  first | refine wpAny_bind (wpAny_typeNameOfWhole_keyiter hit.typeIs (wpAny_pure ?_)) | refine wpAny_bind (wpAny_typeNameOf_keyiter hit.typeIs (wpAny_pure ?_))
  show wpAny _ _ (setField (.ref it) 0 .none >>= _) _ _ s
  refine wpAny_bind (wpAny_setField ho hd (by simp) ?_)
  show wpAny _ _ (newExc (.type "StopIteration") [] >>= _) _ _ _
  refine wpAny_bind ?_
  simp only [newExc, newTuple]
  refine wpAny_bind (wpAny_newObj_type ?_ (by size_fits))
  refine wpAny_bind (m := firstArgMember _ _) (wpAny_of_eq (a := Value.none) (by first | rfl | (simp only [firstArgMember]; rfl)) ?_)
  refine wpAny_newObj_type ?_ (by size_fits)
  simp only [raiseNew]
  refine wpAny_bind (wpAny_handled ?_)
  rw [show A.in1.handled = none from hh]
  refine wpAny_bind (wpAny_pure (wpAny_throw ?_))
  refine wpAny_bind (wpAny_isInstance (T := "StopIteration") (b := true) ⟨_, Heap.get?_push_size _ rfl, rfl⟩ isSubtype_stop ?_)
  exact wpAny_pure (hQ _ (((Heap.SameBut.update ..).extBut.push _).push _))
end
section
variable {F : Fx S} {m m' : Vars} {σ σ' : Store} {s s' : Shared} {X : Value → Shared → Prop} {Q : AV → Store → Prop}
theorem grown {o : Obj} {av : AV} {v : Value} (hs : F.St m σ s) (r : Rep S.cv s.heap (F.D σ) av v) : Rep S.cv (s.heap.push o) (F.D σ) av v := by
  obtain ⟨h1, st⟩ := hs.grow (push_keeps s.heap o) s.toks
  exact r.st st.any h1
theorem IterT.tup (hq : S.hx = Option.none) {l : List AV} : IterT F σ (.tup l) l (fun zz zz => True) := by
  intro m va s t X hs ra
  obtain ⟨ad, vs, n, rfl, e, rl⟩ : ∃ ad vs n, va = .ref ad ∧ s.heap.get? ad = some (tupObj (List.toArray vs) n) ∧ RepL S.cv s.heap (F.D σ) l vs := by
    obtain ⟨a, b, c, e, f, _, r⟩ := ra.inv; exact ⟨a, b, c, e, f, r⟩
  have hL : s.heap.IsTuple ad vs.toArray := ⟨_, e, rfl, n, rfl⟩
  refine wpAny_pyIter_tuple hL ⟨s.heap.objs.size, (· = s.heap.objs.size), fun F₂ i σ' s' => s'.heap.IsTupleIter s.heap.objs.size ad i ∧ Rep S.cv s'.heap (F₂.D σ') (.tup l) (.ref ad), rfl, ?_, push_keeps _ _, ⟨_, _, rfl⟩, fun b q => by rw [q]; exact get_size _, ?_⟩
  · have its : ∀ i (s' : Shared), s'.heap.IsTupleIter s.heap.objs.size ad i → Its s'.heap (· = s.heap.objs.size) := by
      rintro i s' ⟨o, e, c, d⟩ b rfl
      exact ⟨o, e, ⟨_, c, by decide, by decide⟩, _, d⟩
    intro F₂
    refine ⟨fun i σ' s' hJ => its i s' hJ.1, fun i m₁ m₂ σ₁ s₁ σ₂ s₂ O hO hN hJ h₁ st h₂ o => ⟨?_, hJ.2.step st hO h₁.pN⟩, fun i x m₁ σ₁ s₁ Q₀ Q X hx h₁ hJ hQ => ?_, fun i σ₁ s₁ Q X hJ hQ => wpAny_pyIter_tupleiter hJ.1 hQ, fun m₁ σ₁ s₁ Q X h₁ hJ hQ => ?_⟩
    · have z := its i s₁ hJ.1
      obtain ⟨o, e, c, d⟩ := hJ.1
      exact ⟨o, z.still h₁ hO hN st rfl e, c, d⟩
    · obtain ⟨hit, ra'⟩ := hJ
      · obtain ⟨_, ws, n', e0, e', d, rl'⟩ := ra'.inv
        obtain rfl := Value.ref.inj e0
        obtain ⟨v, hv, rv⟩ := rl'.get hx
        have z := its i s₁ hit
        refine wpAny_pyNext_tuple_item hit (items := ws.toArray) ⟨_, e', rfl, n', rfl⟩ (x := v) (by simpa using hv) fun h' hit' hsb => ?_
        have ist : ItStep (· = s.heap.objs.size) s₁ { s₁ with heap := h' } := ⟨fun b o q e => hsb.extBut b o q e, rfl, rfl, rfl⟩
        obtain ⟨o, eo, co, _⟩ := id hit'
        exact letOwned_skip eo co (by decide) (hQ v _ ist (rv.it z ist.keep) ⟨hit', ra'.it z ist.keep⟩)
    · obtain ⟨hit, ra'⟩ := hJ
      · obtain ⟨_, ws, n', e0, e', d, rl'⟩ := ra'.inv
        obtain rfl := Value.ref.inj e0
        exact wpAny_pyNext_tuple_end (F₂.room.quiet hq) hit (items := ws.toArray) ⟨_, e', rfl, n', rfl⟩ (by simp [rl'.length]) fun h' he => hQ _ ⟨fun b o q e => he b o q e, rfl, rfl, rfl⟩
  · intro F₂ σ₂ s₂ kp hD ks
    exact ⟨⟨_, kp _ _ (Heap.get?_push_size _ rfl), rfl, rfl⟩, (grown hs ra).ext (Ext.of_keeps kp) hD⟩
noncomputable def signs (x : Str) : List AV := x.cps.toList.map fun c => .str ⟨#[c]⟩
theorem IterT.str (hq : S.hx = Option.none) {x : Str} (ha : x.cps.all (· < 128) = true) : IterT F σ (.str x) (signs x) (fun zz zz => True) := by
  intro m va s t X hs ra
  obtain ⟨tk, rfl⟩ := ra.inv
  refine wpAny_pyIter_ascii ha ⟨s.heap.objs.size, (· = s.heap.objs.size), fun F₂ i σ' s' => s'.heap.IsStrIter s.heap.objs.size "str_ascii_iterator" x tk i, rfl, ?_, push_keeps _ _, ⟨_, _, rfl⟩, fun b q => by rw [q]; exact get_size _, ?_⟩
  · have its : ∀ i (s' : Shared), s'.heap.IsStrIter s.heap.objs.size "str_ascii_iterator" x tk i → Its s'.heap (· = s.heap.objs.size) := by
      rintro i s' ⟨o, e, c, d⟩ b rfl
      exact ⟨o, e, ⟨_, c, by decide, by decide⟩, _, d⟩
    intro F₂
    refine ⟨fun i σ' s' hJ => its i s' hJ, fun i m₁ m₂ σ₁ s₁ σ₂ s₂ O hO hN hJ h₁ st h₂ o => ?_, fun i y m₁ σ₁ s₁ Q₀ Q X hx h₁ hJ hQ => ?_, fun i σ₁ s₁ Q X hJ hQ => wpAny_pyIter_striter_ascii hJ hQ, fun m₁ σ₁ s₁ Q X h₁ hJ hQ => ?_⟩
    · have z := its i s₁ hJ
      obtain ⟨o, e, c, d⟩ := hJ
      exact ⟨o, z.still h₁ hO hN st rfl e, c, d⟩
    · have z := its i s₁ hJ
      simp only [signs, List.getElem?_map, Option.map_eq_some_iff, Array.getElem?_toList] at hx
      obtain ⟨c, hc, rfl⟩ := hx
      refine wpAny_pyNext_ascii_item hJ (c := c) hc fun h' hit' hsb => ?_
      have ist : ItStep (· = s.heap.objs.size) s₁ { s₁ with heap := h', toks := s₁.toks + 1 } := ⟨fun b o q e => hsb.extBut b o q e, rfl, rfl, rfl⟩
      obtain ⟨o, eo, co, _⟩ := id hit'
      exact letOwned_skip eo co (by decide) (hQ _ _ ist (.str _ _) hit')
    · exact wpAny_pyNext_ascii_end (F₂.room.quiet hq) hJ (by simp [signs]) fun h' he => hQ _ ⟨fun b o q e => he b o q e, rfl, rfl, rfl⟩
  · intro F₂ σ₂ s₂ kp hD ks
    exact ⟨_, kp _ _ (Heap.get?_push_size _ rfl), rfl, rfl⟩
theorem RepD.get {cv : Nat → Value} {h : Heap} {D : Addr → Prop} {l : List (Spot × AV)} {es : List DictEntry} {i : Nat} {k : Spot} {x : AV} (r : RepD cv h D l es) (q : l[i]? = some (k, x)) : ∃ e, es[i]? = some e ∧ Rep cv h D (sp k) e.key ∧ Rep cv h D x e.val := by
  induction l generalizing es i with
  | nil => exact (no_some List.getElem?_nil q).elim
  | cons p l ih =>
    obtain ⟨t, tx, ty, n, v, us, rfl, e, d, a, b⟩ := r.inv
    cases i with
    | zero => obtain rfl : p = (k, x) := Option.some.inj q; exact ⟨_, rfl, .tup (vs := [_, _]) e d (.cons (.int _ _) (.cons (.int _ _) .nil)), a⟩
    | succ i => exact ih (es := us) (i := i) b q
theorem RepD.length {cv : Nat → Value} {h : Heap} {D : Addr → Prop} {l : List (Spot × AV)} {es : List DictEntry} (r : RepD cv h D l es) : es.length = l.length := by
  induction l generalizing es with
  | nil => rw [show es = [] from r.inv]; rfl
  | cons p l ih => obtain ⟨t, tx, ty, n, v, us, rfl, _, _, _, b⟩ := r.inv; exact congrArg Nat.succ (ih b)
theorem Rep.dctE {a : AV} {l : List (Spot × AV)} {v : Value} (r : Rep S.cv s.heap (F.D σ) a v) (hs : F.St m σ s) (h : dd σ a = some l) :
    ∃ ad es n, v = .ref ad ∧ DictE s.heap ad (List.toArray es) n ∧ (ad == sysModules) = false ∧ RepD S.cv s.heap (F.D σ) l es := by
  obtain ⟨ad, es, n, rfl, e, sm, nd, rd⟩ := r.dct hs.inv h
  exact ⟨ad, es, n, rfl, e, sm, rd⟩
theorem IterT.dict (hq : S.hx = Option.none) {l : List (Spot × AV)} : IterT F σ (.dict l) (l.map fun p => sp p.1) (fun zz zz => True) := by
  intro m va s t X hs ra
  obtain ⟨ad, es, n, rfl, e, d, sm, nd, rd⟩ := ra.inv
  have hE : DictE s.heap ad es.toArray n := e
  refine dictIter sm hE ⟨s.heap.objs.size, (· = s.heap.objs.size), fun F₂ i σ' s' => s'.heap.IsKeyIter s.heap.objs.size ad i es.toArray.size n ∧ DictE s'.heap ad es.toArray n ∧ ¬ F₂.D σ' ad ∧ RepD S.cv s'.heap (F₂.D σ') l es, rfl, ?_, push_keeps _ _, ⟨_, _, rfl⟩, fun b q => by rw [q]; exact get_size _, ?_⟩
  · have its : ∀ i (s' : Shared), s'.heap.IsKeyIter s.heap.objs.size ad i es.toArray.size n → Its s'.heap (· = s.heap.objs.size) := by
      rintro i s' ⟨o, e, c, d⟩ b rfl
      exact ⟨o, e, ⟨_, c, by decide, by decide⟩, _, d⟩
    intro F₂
    refine ⟨fun i σ' s' hJ => its i s' hJ.1, fun i m₁ m₂ σ₁ s₁ σ₂ s₂ O hO hN hJ h₁ st h₂ o => ⟨?_, ?_, ?_, hJ.2.2.2.step st hO h₁.pN⟩, fun i x m₁ σ₁ s₁ Q₀ Q X hx h₁ hJ hQ => ?_, fun i σ₁ s₁ Q X hJ hQ => wpAny_pyIter_keyiter hJ.1 hQ, fun m₁ σ₁ s₁ Q X h₁ hJ hQ => ?_⟩
    · have z := its i s₁ hJ.1
      obtain ⟨o, e, c, d⟩ := hJ.1
      exact ⟨o, z.still h₁ hO hN st rfl e, c, d⟩
    · exact st.ext.obj _ _ hJ.2.1 (fun q => hJ.2.2.1 (q.imp id fun q => q.elim (hO _) (h₁.pN _)))
    · intro q
      rcases q with q | q
      · rcases st.dom _ q with z | z
        · exact hJ.2.2.1 (.inl z)
        · have := hJ.2.1; unfold DictE at this; rw [z] at this; cases this
      · exact hJ.2.2.1 (.inr q)
    · obtain ⟨hit, hE', nD, rd'⟩ := hJ
      simp only [List.getElem?_map, Option.map_eq_some_iff] at hx
      obtain ⟨⟨k, y⟩, hl, rfl⟩ := hx
      obtain ⟨en, he, rk, _⟩ := rd'.get hl
      have z := its i s₁ hit
      refine dictNext hit hE' (e := en) (by simpa using he) fun h' hit' hsb => ?_
      have ist : ItStep (· = s.heap.objs.size) s₁ { s₁ with heap := h' } := ⟨fun b o q e => hsb.extBut b o q e, rfl, rfl, rfl⟩
      obtain ⟨o, eo, co, _⟩ := id hit'
      refine letOwned_skip eo co (by decide) (hQ _ _ ist (rk.it z ist.keep) ⟨hit', ist.keep _ _ (z.seq hE' (by intro _ h; cases h)) hE', nD, rd'.it z ist.keep⟩)
    · obtain ⟨hit, hE', nD, rd'⟩ := hJ
      exact dictEnd (F₂.room.quiet hq) hit hE' (by simp [rd'.length]) fun h' he => hQ _ ⟨fun b o q e => he b o q e, rfl, rfl, rfl⟩
  · intro F₂ σ₂ s₂ kp hD ks
    obtain ⟨h1, st⟩ := hs.grow (push_keeps s.heap { cls := .type "dict_keyiterator", data := .fields #[.ref ad, .int 0 0, .int es.toArray.size 0, .int n 0] }) s.toks
    exact ⟨⟨_, kp _ _ (Heap.get?_push_size _ rfl), rfl, rfl⟩, kp _ _ (Heap.get?_push_of_some _ hE), (fun q => (hD _ q).elim d fun z => by rw [Heap.get?_push_of_some _ e] at z; cases z), (rd.step st.any h1.own h1.pN).ext (Ext.of_keeps kp) hD⟩
noncomputable def rangeN (a b c : Int) : Nat := (Builtin.Range.rangeSize a b c).toNat
theorem IterT.range {a b c : Int} (hsm : Builtin.Range.small a b c = true) : IterT F σ (.range a b c) (rangeAV a c (rangeN a b c)) (fun zz zz => True) := by
  intro m va s t X hs ra
  obtain ⟨r, tk1, tk2, tk3, rfl, e, d⟩ := ra.inv
  have sz : 0 ≤ Builtin.Range.rangeSize a b c := by
    unfold Builtin.Range.rangeSize
    split
    · split
      · have : 0 ≤ (b - a - 1) / c := Int.ediv_nonneg (by omega) (by omega)
        omega
      · omega
    · split
      · have : 0 ≤ (a - b - 1) / -c := Int.ediv_nonneg (by omega) (by omega)
        omega
      · omega
  refine wpAny_pyIter_range (t := tk1) (u := tk2) (v := tk3) e hsm ⟨s.heap.objs.size, (· = s.heap.objs.size), fun F₂ i σ' s' => IsRangeIter s'.heap s.heap.objs.size (a + c * i) (Builtin.Range.rangeSize a b c - i) c, rfl, ?_, push_keeps _ _, ⟨_, _, rfl⟩, fun b q => by rw [q]; exact get_size _, ?_⟩
  · have its : ∀ (i : Nat) (s' : Shared), IsRangeIter s'.heap s.heap.objs.size (a + c * i) (Builtin.Range.rangeSize a b c - i) c → Its s'.heap (· = s.heap.objs.size) := by
      rintro i s' e b rfl
      exact ⟨_, e, ⟨_, rfl, by decide, by decide⟩, _, rfl⟩
    have len : (rangeAV a c (rangeN a b c)).length = rangeN a b c := by simp [rangeAV]
    intro F₂
    refine ⟨fun i σ' s' hJ => its i s' hJ, fun i m₁ m₂ σ₁ s₁ σ₂ s₂ O hO hN hJ h₁ st h₂ o => ?_, fun i y m₁ σ₁ s₁ Q₀ Q X hx h₁ hJ hQ => ?_, fun i σ₁ s₁ Q X hJ hQ => wpAny_pyIter_rangeiter hJ hQ, fun m₁ σ₁ s₁ Q X h₁ hJ hQ => ?_⟩
    · exact (its i s₁ hJ).still h₁ hO hN st rfl hJ
    · have z := its i s₁ hJ
      simp only [rangeAV, List.getElem?_map, Option.map_eq_some_iff] at hx
      obtain ⟨j, hj, rfl⟩ := hx
      have hlt : i < rangeN a b c := by
        rcases Nat.lt_or_ge i (rangeN a b c) with q | q
        · exact q
        · rw [List.getElem?_eq_none (by simpa using q)] at hj; cases hj
      have : j = i := by rw [List.getElem?_range hlt] at hj; exact (Option.some.inj hj).symm
      subst this
      refine wpAny_pyNext_range_item hJ (by unfold rangeN at hlt; omega) fun h' hit' hsb => ?_
      have ist : ItStep (· = s.heap.objs.size) s₁ { s₁ with heap := h', toks := s₁.toks + 1 } := ⟨fun b o q e => hsb.extBut b o q e, rfl, rfl, rfl⟩
      refine letOwned_skip hit' rfl (by decide) (hQ _ _ ist (.int _ _) ?_)
      show IsRangeIter h' _ _ _ _
      have e1 : a + c * ((j + 1 : Nat) : Int) = a + c * j + c := by rw [Int.natCast_add, Int.mul_add]; simp [Int.add_assoc]
      have e2 : Builtin.Range.rangeSize a b c - ((j + 1 : Nat) : Int) = Builtin.Range.rangeSize a b c - j - 1 := by omega
      rw [e1, e2]; exact hit'
    · refine range_end F₂.room.hh (fun x hx => by obtain ⟨o, vs, e, r⟩ := S.hxo x hx; exact ⟨o, vs, h₁.inv.keep _ _ e, r⟩) hJ ?_ fun h' he => hQ _ ⟨fun b o q e => he b o q e, rfl, rfl, rfl⟩
      rw [len]; unfold rangeN; omega
  · intro F₂ σ₂ s₂ kp hD ks
    show IsRangeIter _ _ _ _ _
    have := kp _ _ <| Heap.get?_push_size s.heap (o := { cls := .type "range_iterator", data := .fields #[rawInt a, rawInt (Builtin.Range.rangeSize a b c), rawInt c] }) rfl
    simpa using this
theorem new_range {h' : Heap} {tk : Nat} {r : Addr} {a b c : Int} {t u v : Tok} (hs : F.St m σ s) (k : ∀ b o, s.heap.get? b = some o → h'.get? b = some o) (ha : s.heap.get? r = Option.none)
    (e : h'.get? r = some (rngObj a b c t u v)) (q : Q (.range a b c) σ) :
    PW F m σ s (PV F Q) (.ref r) { s with heap := h', toks := tk } := by
  obtain ⟨h1, st⟩ := hs.grow k tk
  exact ⟨σ, st.any, h1, _, .range e (hs.inv.not_D ha), q⟩
theorem CT.range1 {n : Int} (h : Q (.range 0 n 1) σ) : CT F m σ (.type "range") [.int n] Q X := by
  intro vals s hs r
  obtain ⟨v, rfl, ra⟩ := r.one
  obtain ⟨_, rfl⟩ := ra.inv
  exact call_range_1 (new_range (tk := s.toks + 1 + 1) hs (push_keeps _ _) (get_size _) (IsRange.new ..) h)
theorem CT.range2 {a b : Int} (h : Q (.range a b 1) σ) : CT F m σ (.type "range") [.int a, .int b] Q X := by
  intro vals s hs r
  obtain ⟨v, u, rfl, ra, rb⟩ := r.two
  obtain ⟨_, rfl⟩ := ra.inv
  obtain ⟨_, rfl⟩ := rb.inv
  exact call_range_2 (new_range (tk := s.toks + 1) hs (push_keeps _ _) (get_size _) (IsRange.new ..) h)
theorem CT.range3 {a b c : Int} (hc : c ≠ 0) (hc' : c.natAbs < 1073741824) (h : Q (.range a b c) σ) : CT F m σ (.type "range") [.int a, .int b, .int c] Q X := by
  intro vals s hs r
  · obtain ⟨_, _, rfl, ra, r⟩ := r.inv
    obtain ⟨_, _, rfl, rb, rc⟩ := r.two
    obtain ⟨_, rfl⟩ := ra.inv
    obtain ⟨_, rfl⟩ := rb.inv
    obtain ⟨_, rfl⟩ := rc.inv
    · · exact call_range_3 hc (new_range (tk := s.toks) hs (push_keeps _ _) (get_size _) (IsRange.new ..) h) (.inl (PyProof.noPylong_small hc'))
end
end Mine
end
section
namespace Mine
open PySem PyProof.Rows PySem.W
variable {prog : Program} {w : World} {S : Sta prog w}
section
variable {F : Fx S} {m m' : Vars} {σ σ' : Store} {s s' : Shared} {X : Value → Shared → Prop} {Q : AV → Store → Prop} {K : Fl → Vars → Store → Prop}
noncomputable def Tgt (p : Pat) (t : PySem.Expr) : Prop := match p with
  | .tup _ => ∃ es k q, t = .Tuple es k q
  | _ => True
theorem CP.tgt {tb : List Nat} {sc : Nms} {t : PySem.Expr} {p : Pat} (h : CP tb sc t p) : Tgt p t := by
  cases h with
  | v => trivial
  | tup => exact ⟨_, _, _, rfl⟩
inductive PSrc (F : Fx S) (m : Vars) (σ : Store) (s : Shared) (t : PySem.Expr) (G : List AV → (Store → Store → Prop) → Store → Prop) (it : Value) (s₂ : Shared) : Prop
  | mk (I : Addr) (items : List AV) (W : Addr → Prop) (J : Fx S → Nat → Store → Shared → Prop) (ok : Store → Store → Prop) (σ₂ : Store) (sm : Shared) (hit : it = .ref I) (wk : ∀ F₂ : Fx S, Walk F₂ I items t W (J F₂) ok) (st : Step F.P F.O σ s σ₂ sm) (hm : F.St m σ₂ sm)
    (st' : Step noO noO σ₂ sm σ₂ s₂) (h : F.St m σ₂ s₂) (nw : ∀ a, W a → sm.heap.get? a = Option.none) (mv : Moves F σ₂ s₂ J) (g : G items ok σ₂) : PSrc F m σ s t G it s₂
noncomputable def SrcT (F : Fx S) (m : Vars) (σ : Store) (p : Pat) (e : E) (G : List AV → (Store → Store → Prop) → Store → Prop) (X : Value → Shared → Prop) : Prop :=
  ∀ pe t, CE F.tb F.sc pe e → Tgt p t → ∀ s, F.St m σ s →
    wpAny (model prog w) F.A (eval pe F.env) (fun x s₁ => wpAny (model prog w) F.A (pyIter x) (PSrc F m σ s t G) X s₁) X s
theorem SrcT.val {p : Pat} {e : E} {G : List AV → (Store → Store → Prop) → Store → Prop} (h : ET F m σ e (fun a σ₁ => ∃ items ok, IterT F σ₁ a items ok ∧ G items ok σ₁) X) : SrcT F m σ p e G X := by
  intro pe t hc hp s hs
  refine (h pe hc s hs).out ?_
  rintro v σ₁ s₁ st₁ h₁ ⟨a, ra, items, ok, hit, hg⟩
  refine wpAny_mono (hit m v s₁ t X h₁ ra) ?_ fun zz zz e => e
  rintro it s₂ ⟨I, W, J, rfl, wk, kp, ⟨h', tk, rfl⟩, nw, hJ⟩
  obtain ⟨h₂, st⟩ := h₁.grow kp tk
  exact ⟨I, items, W, J, ok, σ₁, s₁, rfl, wk, st₁, h₁, st, h₂, nw, hJ, hg⟩
theorem folded_of {e : PySem.Expr} {env : Env} (h : notSet e = true) : ∀ x, foldedSetIterable e env x = pure x := by
  intro x; cases e <;> first | rfl | cases h
theorem ST.for_ {p : Pat} {e : E} {body : List Mine.S} (hX : PassesOwn (model prog w) F.A F.env X) (h : SrcT F m σ p e (fun items ok σ₁ => LoopT F p body ok K X items m σ₁) X) : ST F m σ (.for_ p e body) K X := by
  intro ps hc s hs
  obtain ⟨_, _, _, _, rfl, hn, hp, he, hb⟩ := hc.inv
  refine wpAny_For (wpAny_mono (h _ _ he hp.tgt s hs) ?_ fun zz zz e => e) (folded_of hn)
  intro x s₁ h₁
  refine wpAny_mono h₁ ?_ fun zz zz e => e
  rintro it s₂ ⟨I, items, W, J, ok, σ₂, sm, rfl, wk, st, hm, stm, h₂, nwm, hJ, hl⟩
  have nw : ∀ a, W a → s.heap.get? a = Option.none := fun a q => st.new (nwm a q)
  replace st := st.trans stm.any
  refine codeAny_mono (forLoopT (wk F) hX hp hb nw st h₂ (fun a q => ?_) (fun a q n => ?_) hJ.here hl) fun r s' x => ?_
  · cases z : F.b.2.heap.get? a with
    | none => rfl
    | some o => obtain ⟨o', e'⟩ := hs.frm.there a o z; rw [nw a q] at e'; cases e'
  · obtain ⟨o, e', nf⟩ := hs.inv.Nin a n; rw [nw a q] at e'; cases e'
  · cases r <;> exact x
set_option tactic.hygienic true in
theorem ST.while_ {c : E} {body : List Mine.S} (hX : PassesOwn (model prog w) F.A F.env X) (I : Nat → Vars → Store → Prop)
    (turn : ∀ n m σ, I n m σ → TT F m σ c (fun t σ₁ => if t then SsT F m σ₁ body (fun fl m₂ σ₂ => match fl with
      | .next => ∃ n', n' < n ∧ I n' m₂ σ₂
      | .ret v => K (.ret v) m₂ σ₂) X else K .next m σ₁) X) (n : Nat) (h : I n m σ) : ST F m σ (.while_ c body) K X := by
  intro ps hc s hs
  have hi0 := hc.inv
  clear hc
  obtain ⟨_, _, _, rfl, hc, hb⟩ := hi0
  refine wpAny_While (codeAny_whileLoop (fun n => PP F σ s (I n)) ?_ n ⟨m, σ, Step.refl _ _ _ _, hs, h⟩)
  rintro n s₁ ⟨m₁, σ₁, st₁, h₁, hI⟩
  refine wpAny_passesOwn hX ((turn n m₁ σ₁ hI _ hc s₁ h₁).out ?_)
  rintro b σ₂ s₂ st₂ h₂ q
  cases b with
  | true =>
    simp only [if_true] at q ⊢
    refine wpAny_passesOwn hX (wpAny_mono (q _ hb s₂ h₂) ?_ fun zz zz e => e)
    rintro f s₃ ⟨fl, m₃, σ₃, st₃, h₃, hf, q'⟩
    have st' := (st₁.trans st₂).trans st₃
    cases fl with
    | next =>
      cases f with
      | next => obtain ⟨n', hn, hI'⟩ := q'; exact ⟨n', hn, m₃, σ₃, st', h₃, hI'⟩
      | _ => exact hf.elim
    | ret v =>
      cases f with
      | ret u => exact ⟨.ret v, m₃, σ₃, st', h₃, hf, q'⟩
      | _ => exact hf.elim
  | false =>
    simp only [Bool.false_eq_true, if_false] at q ⊢
    exact wpAny_execs_nil ⟨.next, m₁, σ₂, st₁.trans st₂, h₂, trivial, q⟩
noncomputable def PTs (F : Fx S) (X : Value → Shared → Prop) (K : Vars → Store → Prop) : List Pat → List AV → Vars → Store → Prop
  | [], [], m, σ => K m σ
  | p :: ps, a :: as, m, σ => PT F m σ p a (fun m₁ σ₁ => PTs F X K ps as m₁ σ₁) X
  | _, _, _, _ => False
theorem each_cons {e : PySem.Expr} {r : List PySem.Expr} {env : Env} (h : notStar e = true) : assignEach (e :: r) env = (false, assign e env) :: assignEach r env := by
  cases e <;> first | rfl | cases h
theorem each_len : ∀ {qs : List Pat} {es : List PySem.Expr}, CPs F.tb F.sc es qs → (assignEach es F.env).length = qs.length ∧ (assignEach es F.env).findIdx? (·.1) = none := by
  intro qs
  induction qs with
  | nil => intro es hc; obtain rfl := hc.inv_nil; exact ⟨rfl, rfl⟩
  | cons q qs ih =>
    intro es hc
    obtain ⟨_, _, rfl, hn, hp, hr⟩ := hc.inv
    obtain ⟨z1, z2⟩ := ih hr
    rw [each_cons hn]
    refine ⟨by rw [List.length_cons, List.length_cons, z1], ?_⟩
    rw [List.findIdx?_cons]; simp [z2]
theorem PTs.run {K : Vars → Store → Prop} : ∀ {ps : List Pat} {as : List AV} {pes : List PySem.Expr} {vs : List Value} {m : Vars} {σ : Store} {s : Shared} , PTs F X K ps as m σ → CPs F.tb F.sc pes ps → RepL S.cv s.heap (F.D σ) as vs → F.St m σ s →
    wpAny (model prog w) F.A (assignInOrder ((assignEach pes F.env).map (·.2)) vs) (fun zz => PP F σ s K) X s := by
  intro ps
  induction ps with
  | nil =>
    intro as pes vs m σ s h hc r hs
    obtain rfl := hc.inv_nil
    cases as with
    | nil => rw [show vs = [] from r.inv]; exact wpAny_assignInOrder_none ⟨m, σ, Step.refl _ _ _ _, hs, h⟩
    | cons => exact h.elim
  | cons p ps ih =>
    intro as pes vs m σ s h hc r hs
    obtain ⟨e, rr, rfl, hn, hp, hr⟩ := hc.inv
    rw [each_cons hn]
    cases as with
    | nil => exact h.elim
    | cons a as =>
      · obtain ⟨v, vs, rfl, r1, r⟩ := r.inv
        refine wpAny_assignInOrder_more (wpAny_mono (h e hp v s hs r1) ?_ fun zz zz e => e)
        rintro _ s₁ ⟨m₁, σ₁, st₁, h₁, q⟩
        refine wpAny_mono (ih q hr (r.st st₁ h₁) h₁) ?_ fun zz zz e => e
        rintro _ s₂ ⟨m₂, σ₂, st₂, h₂, q₂⟩
        exact ⟨m₂, σ₂, st₁.trans st₂, h₂, q₂⟩
theorem grow_at {h' : Heap} (hs : F.St m σ s) (k : Heap.ExtBut s.heap.objs.size s.heap h') : F.St m σ { s with heap := h' } ∧ Step F.P F.O σ s σ { s with heap := h' } := by
  obtain ⟨h1, st⟩ := hs.grow (h' := h') (fun b o e => k b o (Nat.ne_of_lt (Heap.lt_size e)) e) s.toks
  exact ⟨h1, st.any⟩
theorem PT.tup (hq : S.hx = Option.none) {ps : List Pat} {l : List AV} {K : Vars → Store → Prop} (hl : ps.length = l.length) (h : PTs F X K ps l m σ) : PT F m σ (.tup ps) (.tup l) K X := by
  intro pe hc v s hs r
  have hi0 := hc.inv
  clear hc
  obtain ⟨_, _, _, rfl, hc⟩ := hi0
  · obtain ⟨ad, vs, n, rfl, e, d, r⟩ := r.inv
    have ht : s.heap.IsTuple ad vs.toArray := ⟨_, e, rfl, n, rfl⟩
    obtain ⟨z1, z2⟩ := each_len hc
    refine wpAny_assign_Tuple (F.room.quiet hq) ht (by rw [z1, hl, List.size_toArray, r.length]) z2 fun h' k => ?_
    obtain ⟨h1, st⟩ := grow_at hs k
    refine wpAny_mono (h.run hc (r.st st h1) h1) ?_ fun zz zz e => e
    rintro _ s₂ ⟨m₂, σ₂, st₂, h₂, q₂⟩
    exact ⟨m₂, σ₂, st.trans st₂, h₂, q₂⟩
theorem swapped_none {ts : List PySem.Expr} {k : Nat} {tp : Pos} {pe : PySem.Expr} {e : E} {env : Env} {tb : List Nat} {sc : Nms} (hc : CE tb sc pe e) (h : notTup e = true) : swappedStores [.Tuple ts k tp] pe env = pure none := by
  induction hc using CE.casesOn <;> first | rfl | exact (Bool.false_ne_true h).elim
set_option tactic.hygienic true in
theorem ST.unpack {ps : List Pat} {e : E} (hn : notTup e = true) (hn' : notComp e = true) (h : ET F m σ e (fun a σ₁ => PT F m σ₁ (.tup ps) a (fun m₂ σ₂ => K .next m₂ σ₂) X) X) : ST F m σ (.assign (.tup ps) e) K X := by
  intro st hc s hs
  obtain ⟨_, _, _, rfl, hp, he⟩ := hc.inv
  have hp' := hp
  obtain ⟨_, _, _, rfl, hps⟩ := hp'.inv
  refine Assign_Tuple ((h _ he s hs).out ?_) (by unfold swapsWithSole; exact swaps_of he hn') (swapped_none he hn)
  rintro v σ₁ s₁ st₁ h₁ ⟨a, ra, q⟩
  refine wpAny_mono (q _ hp v s₁ h₁ ra) ?_ fun zz zz e => e
  rintro _ s₂ ⟨m₂, σ₂, st₂, h₂, q₂⟩
  exact ⟨.next, m₂, σ₂, st₁.trans st₂, h₂, trivial, q₂⟩
noncomputable def named : Nat → E → Bool
  | _, .v _ => true
  | n + 1, .bin _ l r => named n l || named n r
  | n + 1, .tup es => es.any (named n)
  | _, _ => false
theorem named_not {tb : List Nat} {sc : Nms} : ∀ {n : Nat} {pe : PySem.Expr} {e : E}, CE tb sc pe e → named n e = true → constantsAlone n pe = false := by
  intro n
  induction n with
  | zero =>
    intro pe e hc h
    cases e <;> first | exact (Bool.false_ne_true h).elim | skip
    obtain ⟨_, _, rfl, hx⟩ := hc.inv
    exact okName_debug hx.ok
  | succ n ih =>
    intro pe e hc h
    cases e with
    | v =>
      obtain ⟨_, _, rfl, hx⟩ := hc.inv
      exact okName_debug hx.ok
    | bin op l r =>
      obtain ⟨_, _, _, rfl, hl, hr⟩ := hc.inv
      exact Bool.and_eq_false_iff.mpr ((Bool.or_eq_true_iff.mp h).imp (ih hl) (ih hr))
    | tup es =>
      obtain ⟨pes, _, _, rfl, he⟩ := hc.inv
      change es.any (named n) = true at h
      show pes.all (constantsAlone n) = false
      clear hc
      induction es generalizing pes with
      | nil => exact (Bool.false_ne_true h).elim
      | cons e es ih2 =>
        have hi0 := he.inv
        clear he
        obtain ⟨_, _, rfl, hn, he, hr⟩ := hi0
        exact Bool.and_eq_false_iff.mpr ((Bool.or_eq_true_iff.mp h).imp (ih he) fun h => ih2 _ hr h)
    | _ => exact (Bool.false_ne_true h).elim
theorem set_swap (m : Vars) {i j : Nat} (a b : AV) (h : i ≠ j) : (m.set i a).set j b = (m.set j b).set i a := by
  funext k
  unfold Vars.set
  by_cases h1 : k = j
  · subst h1; simp [Ne.symm h]
  · simp [h1]
set_option tactic.hygienic true in
theorem sw2 {env : Env} {x1 x2 : Str} {p1 p2 tp p : Pos} {k kk : Nat} {pa pb : PySem.Expr} (bk : env.blockKind = .function)
    (c2 : (constantsAlone 8 pa && constantsAlone 8 pb) = false) :
    swappedStores [.Tuple [.Name x1 p1, .Name x2 p2] k tp] (.Tuple [pa, pb] kk p) env = pure none ∨ swappedStores [.Tuple [.Name x1 p1, .Name x2 p2] k tp] (.Tuple [pa, pb] kk p) env = pure (some [x1, x2]) := by
  have c3 : List.all [pa, pb] (constantsAlone 8) = false := by simpa [Bool.and_true] using c2
  unfold swappedStores
  simp only [c3, bk]
  generalize hf : List.filterMap _ _ = ns
  have key : ns.length = 2 → ns = [x1, x2] := by
    rw [← hf]
    simp only [List.filterMap_cons, List.filterMap_nil]
    split <;> split <;> rename_i a b <;> (try (intro h; simp at h; done))
    rename_i y1 y2
    intro _
    split at y1 <;> cases y1
    split at b <;> cases b
    rfl
  clear hf
  generalize List.any [pa, pb] _ = b0
  generalize List.all [pa, pb] (foldedForSure 8) = b1
  cases b0 with
  | true => left; rfl
  | false =>
    cases b1 with
    | true =>
      left
      by_cases q : (ns.length != 2 || ns.eraseDups.length != ns.length) = true
      · simp only [List.length_cons, List.length_nil, q]; rfl
      · simp only [List.length_cons, List.length_nil, q]; rfl
    | false =>
      by_cases q : (ns.length != 2 || ns.eraseDups.length != ns.length) = true
      · left; simp only [List.length_cons, List.length_nil, q]; rfl
      · right
        have : ns.length = 2 := by
          simp only [Bool.or_eq_true, bne_iff_ne, ne_eq, not_or, Decidable.not_not] at q; exact q.1
        simp only [List.length_cons, List.length_nil, q]
        rw [key this]
        rfl
theorem unpack2 (hq : S.hx = Option.none) {i j : Nat} {x1 x2 : Str} {x y : AV} {v : Value} (hij : i ≠ j) (hf1 : F.sc.lookup x1 ≠ some .free) (hx1 : IsV F.tb F.sc x1 i) (hf2 : F.sc.lookup x2 ≠ some .free) (hx2 : IsV F.tb F.sc x2 j) (hs : F.St m σ s)
    (ra : Rep S.cv s.heap (F.D σ) (.tup [x, y]) v) : wpAny (model prog w) F.A (unpackItems v 2 none) (fun items s₂ =>
      wpAny (model prog w) F.A (assignInOrder [bindName F.env x2, bindName F.env x1] items.reverse) (fun zz s' => Step F.P F.O σ s σ s' ∧ F.St ((m.set i x).set j y) σ s') X s₂) X s := by
  · obtain ⟨ad, vs, n, rfl, e, d, r⟩ := ra.inv
    obtain ⟨u1, u2, rfl, r1, r2⟩ := r.two
    have ht : s.heap.IsTuple ad #[u1, u2] := ⟨_, e, rfl, n, rfl⟩
    refine wpAny_unpackItems_tuple (items := #[u1, u2]) (F.room.quiet hq) ht fun h' kx => ?_
    obtain ⟨hh1, stx⟩ := grow_at hs kx
    show wpAny _ _ (assignInOrder [bindName F.env x2, bindName F.env x1] [u2, u1]) _ _ _
    refine wpAny_assignInOrder_more (wpAny_bindName (store_v hf2 hx2 hh1 (r2.st stx hh1) fun s₂ st₂ h₂ => ?_))
    refine wpAny_assignInOrder_more (wpAny_bindName (store_v hf1 hx1 h₂ ((r1.st stx hh1).st st₂ h₂) fun s₃ st₃ h₃ => ?_))
    refine wpAny_assignInOrder_none ⟨(stx.trans st₂).trans st₃, ?_⟩
    rw [set_swap _ _ _ hij]
    exact h₃
set_option tactic.hygienic true in
theorem ST.assign2 (hq : S.hx = Option.none) {i j : Nat} {e1 e2 : E} (hij : i ≠ j) (hn : (named 8 e1 || named 8 e2) = true) (h : ET F m σ e1 (fun x σ₁ => ET F m σ₁ e2 (fun y σ₂ => K .next ((Vars.set m i x).set j y) σ₂) X) X) :
    ST F m σ (.assign (.tup [.v i, .v j]) (.tup [e1, e2])) K X := by
  intro st hc s hs
  obtain ⟨_, _, _, rfl, hp, he⟩ := hc.inv
  have ev : ET F m σ (.tup [e1, e2]) (fun a σ₁ => ∃ x y, a = .tup [x, y] ∧ K .next ((Vars.set m i x).set j y) σ₁) X :=
    ET.tup (EsT.cons (h.mono fun x σ₁ q => EsT.cons (q.mono fun y σ₂ q => EsT.nil ⟨by show 2 ≤ big; decide, x, y, rfl, q⟩)))
  have hp' := hp
  obtain ⟨ts, k, tp, rfl, hps⟩ := hp'.inv
  · · · · obtain ⟨t1, _, rfl, n1, hp1, hps⟩ := hps.inv
          obtain ⟨t2, _, rfl, n2, hp2, hps⟩ := hps.inv
          obtain rfl := hps.inv_nil
          obtain ⟨x1, p1, rfl, hf1, hx1⟩ := hp1.inv
          obtain ⟨x2, p2, rfl, hf2, hx2⟩ := hp2.inv
          have hne : x1 ≠ x2 := by
            rintro rfl
            have := hx1.ix
            rw [hx2.ix] at this
            exact hij (Option.some.inj this).symm
          have he' := he
          · · · obtain ⟨pes, kk, p, rfl, hes⟩ := he'.inv
                obtain ⟨pa, _, rfl, m1, ha, hes⟩ := hes.inv
                obtain ⟨pb, _, rfl, m2, hb, hes⟩ := hes.inv
                obtain rfl := hes.inv_nil
                have bk : F.env.blockKind = .function := by unfold Env.blockKind; rw [F.fk]; rfl
                have c2 : (constantsAlone 8 pa && constantsAlone 8 pb) = false := by
                  simp only [Bool.or_eq_true] at hn
                  simp only [Bool.and_eq_false_iff]
                  exact hn.imp (named_not ha) (named_not hb)
                rcases sw2 (x1 := x1) (x2 := x2) (p1 := p1) (p2 := p2) (tp := tp) (p := p) (k := k) (kk := kk) bk c2 with sw | sw
                · refine Assign_Tuple ((ev _ he s hs).out ?_) (by unfold swapsWithSole; exact swaps_of he rfl) sw
                  rintro v σ₁ s₁ st₁ h₁ ⟨a, ra, x, y, rfl, q⟩
                  have pt : PT F m σ₁ (.tup [.v i, .v j]) (.tup [x, y]) (fun m₂ σ₂ => K .next m₂ σ₂) X := PT.tup hq rfl (by
                    show PT F m σ₁ (.v i) x (fun m₁ σ₁ => PT F m₁ σ₁ (.v j) y (fun m₂ σ₂ => K .next m₂ σ₂) X) X
                    exact PT.v (PT.v q))
                  refine wpAny_mono (pt _ hp v s₁ h₁ ra) ?_ fun zz zz e => e
                  rintro _ s₂ ⟨m₂, σ₂, st₂, h₂, q₂⟩
                  exact ⟨.next, m₂, σ₂, st₁.trans st₂, h₂, trivial, q₂⟩
                · refine Assign_Tuple_swapped (names := [x1, x2]) ((ev _ he s hs).out ?_) (by unfold swapsWithSole; exact swaps_of he rfl) sw
                  rintro v σ₁ s₁ st₁ h₁ ⟨a, ra, x, y, rfl, q⟩
                  refine wpAny_mono (unpack2 hq hij hf1 hx1 hf2 hx2 h₁ ra) (fun items s₂ h₂ => ?_) fun zz zz e => e
                  refine wpAny_mono h₂ (fun zz s₃ h₃ => ?_) fun zz zz e => e
                  exact ⟨.next, _, σ₁, st₁.trans h₃.1, h₃.2, trivial, q⟩
end
end Mine
end
section
namespace Mine
open PySem PyProof.Rows PySem.W
variable {prog : Program} {w : World} {S : Sta prog w}
section
variable {F : Fx S} {m m' : Vars} {σ σ' : Store} {s s' : Shared} {X : Value → Shared → Prop} {Q : AV → Store → Prop} {K : Fl → Vars → Store → Prop}
noncomputable def enumd (l : List AV) : List AV := l.mapIdx fun i x => .tup [.int i, x]
theorem enumd_get {l : List AV} {i : Nat} {y : AV} (h : (enumd l)[i]? = some y) : ∃ x, l[i]? = some x ∧ y = .tup [.int i, x] := by
  simp only [enumd, List.getElem?_mapIdx, Option.map_eq_some_iff] at h
  obtain ⟨x, hx, rfl⟩ := h
  exact ⟨x, hx, rfl⟩
theorem enumd_length (l : List AV) : (enumd l).length = l.length := by simp [enumd]
theorem enum_its {h : Heap} {e it : Addr} {i : Int} {old : Value} {oi : Obj} (he : IsEnum h e it i old) (hi : h.get? it = some oi) (hoi : ItObj oi) : Its h (fun a => a = e ∨ a = it) := by
  rintro a (rfl | rfl)
  · exact ⟨_, he, ⟨_, rfl, by decide, by decide⟩, _, rfl⟩
  · exact ⟨_, hi, hoi⟩
set_option tactic.hygienic true in
theorem dl_more {a : AV} {l : List AV} {σ σ₂ : Store} (h : dl σ a = some l) (ks : ∀ b o, σ b = some o → σ₂ b = some o) : dl σ₂ a = some l := by
  cases a with
  | loc ad' =>
    simp only [dl] at h ⊢
    split at h
    · rename_i l' e'
      rw [ks _ _ e']; exact h
    · cases h
  | _ => exact h
theorem enumWalkList (hq : S.hx = Option.none) {t : PySem.Expr} {ps : List Pat} {a : AV} {l : List AV} {ad e it : Addr} (hp : Tgt (.tup ps) t) (hne : e ≠ it) :
    Walk F e (enumd l) t (fun b => b = e ∨ b = it) (fun i σ' s' => (∃ old, IsEnum s'.heap e it i old) ∧ s'.heap.IsListIter it ad i ∧ Rep S.cv s'.heap (F.D σ') a (.ref ad) ∧ dl σ' a = some l) (okL a) := by
  obtain ⟨es, kk, pp, rfl⟩ := hp
  have its : ∀ (i : Nat) (s' : Shared) (old : Value), IsEnum s'.heap e it i old → s'.heap.IsListIter it ad i → Its s'.heap (fun b => b = e ∨ b = it) := by
    rintro i s' old he ⟨o, eo, c, d⟩
    exact enum_its he eo ⟨⟨_, c, by decide, by decide⟩, _, d⟩
  refine ⟨?_, ?_, ?_, ?_, ?_⟩
  · rintro i σ' s' ⟨⟨old, he⟩, hit, _⟩
    exact its i s' old he hit
  · rintro i m₁ m₂ σ₁ s₁ σ₂ s₂ O hO hN ⟨⟨old, he⟩, hit, ra, hl⟩ h₁ st h₂ o
    have z := its i s₁ old he hit
    obtain ⟨oi, ei, c, d⟩ := hit
    exact ⟨⟨old, z.still h₁ hO hN st (.inl rfl) he⟩, ⟨oi, z.still h₁ hO hN st (.inr rfl) ei, c, d⟩, ra.step st hO h₁.pN, okL_dl hl o⟩
  · rintro i y m₁ σ₁ s₁ Q₀ Q X hxx h₁ ⟨⟨old, he⟩, hit, ra, hl⟩ hQ
    obtain ⟨x, hx, rfl⟩ := enumd_get hxx
    have z := its i s₁ old he hit
    obtain ⟨ad', ws, n', e1, e', rl'⟩ := ra.lst h₁.inv hl
    cases e1
    obtain ⟨v, hv, rv⟩ := rl'.get hx
    refine wpAny_pyNext_enum_item he hit (items := ws.toArray) ⟨_, e', rfl, n', rfl⟩ (x := v) (by simpa using hv) hne fun h' ho hit' hT hz hk => ?_
    refine wpAny_letOwnedTupleGo_enum ho fun h'' he'' hsb => ?_
    have kp : ∀ b o, ¬ (b = e ∨ b = it) → s₁.heap.get? b = some o → h''.get? b = some o := fun b o q eb => hsb.extBut b o (fun z => q (.inl z)) (hk b o (fun z => q (.inl z)) (fun z => q (.inr z)) eb)
    have hlt : s₁.heap.objs.size ≠ e := Nat.ne_of_gt (Heap.lt_size he)
    have ist : ItStep (fun b => b = e ∨ b = it) s₁ { s₁ with heap := h'', toks := s₁.toks + 1 } := ⟨kp, rfl, rfl, rfl⟩
    refine hQ _ _ ist ?_ ⟨⟨v, by simpa using he''⟩, hit'.extBut hsb.extBut (Ne.symm hne), ra.it z kp, hl⟩
    exact .tup (vs := [_, _]) (hsb.extBut _ _ hlt hT) (h₁.inv.not_D (get_size _)) (.cons (.int _ _) (.cons (rv.it z kp) .nil))
  · rintro i σ₁ s₁ Q X ⟨⟨old, he⟩, _⟩ hQ
    exact wpAny_pyIter_enum he hQ
  · rintro m₁ σ₁ s₁ Q X h₁ ⟨⟨old, he⟩, hit, ra, hl⟩ hQ
    obtain ⟨ad', ws, n', e1, e', rl'⟩ := ra.lst h₁.inv hl
    cases e1
    refine wpAny_pyNext_enum_end (F.room.quiet hq) he hit (items := ws.toArray) ⟨_, e', rfl, n', rfl⟩ (by simp [rl'.length, enumd_length]) fun h' hx => hQ _ ⟨fun b o q e => hx b o (fun z => q (.inr z)) e, rfl, rfl, rfl⟩
theorem enumWalkStr (hq : S.hx = Option.none) {t : PySem.Expr} {ps : List Pat} {x : Str} {tk : Tok} {e it : Addr} (hp : Tgt (.tup ps) t) (hne : e ≠ it) :
    Walk F e (enumd (signs x)) t (fun b => b = e ∨ b = it) (fun i σ' s' => (∃ old, IsEnum s'.heap e it i old) ∧ s'.heap.IsStrIter it "str_ascii_iterator" x tk i) (fun zz zz => True) := by
  obtain ⟨es, kk, pp, rfl⟩ := hp
  have its : ∀ (i : Nat) (s' : Shared) (old : Value), IsEnum s'.heap e it i old → s'.heap.IsStrIter it "str_ascii_iterator" x tk i → Its s'.heap (fun b => b = e ∨ b = it) := by
    rintro i s' old he ⟨o, eo, c, d⟩
    exact enum_its he eo ⟨⟨_, c, by decide, by decide⟩, _, d⟩
  have D : Draws prog w F.A.in1 it [it] x.cps.size (fun i v => ∃ c u, x.cps[i]? = some c ∧ v = .str ⟨#[c]⟩ u) (fun i h => h.IsStrIter it "str_ascii_iterator" x tk i) := Draws.strAscii (A := F.A.in1) (F.room.quiet hq) it x tk
  refine ⟨?_, ?_, ?_, ?_, ?_⟩
  · rintro i σ' s' ⟨⟨old, he⟩, hit⟩
    exact its i s' old he hit
  · rintro i m₁ m₂ σ₁ s₁ σ₂ s₂ O hO hN ⟨⟨old, he⟩, hit⟩ h₁ st h₂ o
    have z := its i s₁ old he hit
    obtain ⟨oi, ei, c, d⟩ := hit
    exact ⟨⟨old, z.still h₁ hO hN st (.inl rfl) he⟩, ⟨oi, z.still h₁ hO hN st (.inr rfl) ei, c, d⟩⟩
  · rintro i y m₁ σ₁ s₁ Q₀ Q X hxx h₁ ⟨⟨old, he⟩, hit⟩ hQ
    obtain ⟨u, hx, rfl⟩ := enumd_get hxx
    have z := its i s₁ old he hit
    have hlt' : i < x.cps.size := by
      rcases Nat.lt_or_ge i x.cps.size with q | q
      · exact q
      · rw [List.getElem?_eq_none (by simpa [signs] using q)] at hx; cases hx
    refine wpAny_pyNext_enum_itemD D he hit hlt' hne (by simpa using hne) fun v h' tk' hP ho hit' hT hz hk => ?_
    refine wpAny_letOwnedTupleGo_enum ho fun h'' he'' hsb => ?_
    have kp : ∀ b o, ¬ (b = e ∨ b = it) → s₁.heap.get? b = some o → h''.get? b = some o := fun b o q eb => hsb.extBut b o (fun z => q (.inl z)) (hk b o (fun z => q (.inl z)) (fun z => q (.inr z)) eb)
    have hlt : s₁.heap.objs.size ≠ e := Nat.ne_of_gt (Heap.lt_size he)
    have ist : ItStep (fun b => b = e ∨ b = it) s₁ { s₁ with heap := h'', toks := tk' + 1 } := ⟨kp, rfl, rfl, rfl⟩
    obtain ⟨c, tu, hc, rfl⟩ := hP
    simp only [signs, List.getElem?_map, Option.map_eq_some_iff, Array.getElem?_toList] at hx
    obtain ⟨c', hc', rfl⟩ := hx
    rw [hc] at hc'; cases hc'
    refine hQ _ _ ist ?_ ⟨⟨_, by simpa using he''⟩, hit'.extBut hsb.extBut (Ne.symm hne)⟩
    exact .tup (vs := [_, _]) (hsb.extBut _ _ hlt hT) (h₁.inv.not_D (get_size _)) (.cons (.int _ _) (.cons (.str _ _) .nil))
  · rintro i σ₁ s₁ Q X ⟨⟨old, he⟩, _⟩ hQ
    exact wpAny_pyIter_enum he hQ
  · rintro m₁ σ₁ s₁ Q X h₁ ⟨⟨old, he⟩, hit⟩ hQ
    have hl : (enumd (signs x)).length = x.cps.size := by simp [enumd_length, signs]
    rw [hl] at hit
    exact wpAny_pyNext_enum_endD D he hit fun h' hx => hQ _ ⟨fun b o q e => hx b o (fun z => q (.inr z)) e, rfl, rfl, rfl⟩
theorem SrcT.enum1 {ps : List Pat} {e : E} {gi : Nat} {G : List AV → (Store → Store → Prop) → Store → Prop} (hg : Glob S gi (.type "enumerate"))
    (h' : EsT F m σ [e] (fun avs σ₁ => ∃ a, avs = [a] ∧ S.hx = Option.none ∧ ((∃ l, dl σ₁ a = some l ∧ G (enumd l) (okL a) σ₁) ∨ (∃ x, a = .str x ∧ x.cps.all (· < 128) = true ∧ G (enumd (signs x)) (fun zz zz => True) σ₁))) X) : SrcT F m σ (.tup ps) (.call (.g gi) [e]) G X := by
  intro pe t hc hp s hs
  obtain ⟨_, _, _, _, rfl, _, hx, ha⟩ := hc.inv
  refine Call_ (load_g hx hg hs (callWithT ha (Callable.type _) h' hs ?_))
  rintro vals avs σ₁ s₁ st₁ h₁ r ⟨a, rfl, hq, q⟩
  obtain ⟨v, rfl, ra⟩ := r.one
  have nsz : ∀ k, s₁.heap.get? (s₁.heap.objs.size + k) = Option.none := fun k => by
    cases q : s₁.heap.get? (s₁.heap.objs.size + k) with
    | none => rfl
    | some o => exact absurd (Heap.lt_size q) (Nat.not_lt.mpr (Nat.le_add_right _ _))
  rcases q with ⟨l, hl, hG⟩ | ⟨x, rfl, hasc, hG⟩
  · obtain ⟨ad, vs, n, rfl, e1, rl⟩ := ra.lst h₁.inv hl
    refine call_enumerate_list (items := vs.toArray) ⟨_, e1, rfl, n, rfl⟩ fun h2 he hit hz hk => ?_
    refine wpAny_pyIter_enum he ?_
    obtain ⟨h₂, st₂⟩ := h₁.grow hk s₁.toks
    refine ⟨_, _, _, _, _, σ₁, s₁, rfl, fun F₂ => enumWalkList (F := F₂) (a := a) (ad := ad) hq hp (Nat.succ_ne_self _), st₁, h₁, st₂, h₂, ?_, ?_, hG⟩
    case refine_2 =>
      intro F₂ σ₂ s₂ kp hD ks
      obtain ⟨oi, eo, r⟩ := hit
      refine ⟨⟨_, kp _ _ he⟩, ⟨oi, kp _ _ eo, r⟩, (ra.st st₂.any h₂).ext (Ext.of_keeps kp) hD, dl_more hl ks⟩
    rintro b (rfl | rfl)
    · exact nsz 1
    · exact nsz 0
  · obtain ⟨tk, rfl⟩ := ra.inv
    refine call_enumerate_str fun h2 he hit hz hk => ?_
    refine wpAny_pyIter_enum he ?_
    obtain ⟨h₂, st₂⟩ := h₁.grow hk s₁.toks
    have hty : strIterType x = "str_ascii_iterator" := by unfold strIterType; rw [hasc]; rfl
    rw [hty] at hit
    refine ⟨_, _, _, _, _, σ₁, s₁, rfl, fun F₂ => enumWalkStr (F := F₂) (tk := tk) hq hp (Nat.succ_ne_self _), st₁, h₁, st₂, h₂, ?_, ?_, hG⟩
    case refine_2 =>
      intro F₂ σ₂ s₂ kp hD ks
      obtain ⟨oi, eo, r⟩ := hit
      exact ⟨⟨_, kp _ _ he⟩, ⟨oi, kp _ _ eo, r⟩⟩
    rintro b (rfl | rfl)
    · exact nsz 1
    · exact nsz 0
end
end Mine
end
section
namespace Mine
open PySem PyProof.Rows PySem.W
variable {prog : Program} {w : World} {S : Sta prog w}
noncomputable def clOf (env : Env) : List (Str × NameKind) → List (Str × Addr) → List (Str × Addr)
  | [], acc => acc
  | (n, k) :: r, acc => if k == .free then clOf env r ((n, (env.cells.lookup n).getD 0) :: acc) else clOf env r acc
set_option tactic.hygienic true in
theorem clOf_mem {env : Env} {y : Str} {c : Addr} : ∀ {names : List (Str × NameKind)} {acc : List (Str × Addr)}, (y, c) ∈ clOf env names acc → ((y, NameKind.free) ∈ names ∧ c = (env.cells.lookup y).getD 0) ∨ (y, c) ∈ acc
  | [], _, h => .inr h
  | (n, k) :: r, acc, h => by
    unfold clOf at h
    split at h
    · rename_i hk
      have hk' : k = NameKind.free := by simpa using hk
      rcases clOf_mem h with q | q
      · exact .inl ⟨.tail _ q.1, q.2⟩
      · rcases List.mem_cons.mp q with e | q
        · cases e; subst hk'; exact .inl ⟨.head _, rfl⟩
        · exact .inr q
    · rcases clOf_mem h with q | q
      · exact .inl ⟨.tail _ q.1, q.2⟩
      · exact .inr q
set_option tactic.hygienic true in
theorem clOf_some {env : Env} {y : Str} : ∀ {names : List (Str × NameKind)} {acc : List (Str × Addr)}, (y, NameKind.free) ∈ names ∨ (acc.lookup y).isSome = true → ((clOf env names acc).lookup y).isSome = true
  | [], _, h => h.elim (fun e => by cases e) id
  | (n, k) :: r, acc, h => by
    unfold clOf
    split
    · refine clOf_some ?_
      by_cases q : (y == n) = true
      · right; rw [List.lookup_cons, q]; rfl
      · rcases h with h | h
        · rcases List.mem_cons.mp h with e | h
          · cases e; simp at q
          · exact .inl h
        · right; rw [List.lookup_cons]; simpa only [q] using h
    · rename_i hk
      refine clOf_some ?_
      rcases h with h | h
      · rcases List.mem_cons.mp h with e | h
        · cases e; simp at hk
        · exact .inl h
      · exact .inr h
theorem closure_go {env : Env} (f : Str × NameKind → List (Str × Addr) → Sem (ForInStep (List (Str × Addr))))
    (hf : ∀ name kind cs, f (name, kind) cs = if kind == .free then (do let a ← cellOf env name; pure (.yield ((name, a) :: cs))) else pure (.yield cs)) :
    ∀ (names : List (Str × NameKind)) (acc : List (Str × Addr)), (∀ p ∈ names, p.2 = .free → ∃ c, env.cells.lookup p.1 = some c) → forIn names acc f = pure (clOf env names acc)
  | [], acc, _ => by rw [List.forIn_nil]; rfl
  | (n, k) :: r, acc, h => by
    rw [List.forIn_cons, hf]
    unfold clOf
    by_cases hk : (k == NameKind.free) = true
    · rw [if_pos hk, if_pos hk]
      obtain ⟨c, hc⟩ := h (n, k) (.head _) (by simpa using hk)
      have : cellOf env n = pure c := by unfold cellOf; rw [hc]
      rw [this, hc]
      exact closure_go f hf r _ fun p hp => h p (.tail _ hp)
    · rw [if_neg hk, if_neg hk]
      exact closure_go f hf r _ fun p hp => h p (.tail _ hp)
theorem closureFor_eq {env : Env} {scope : Scope} (h : ∀ p ∈ scope.names, p.2 = .free → ∃ c, env.cells.lookup p.1 = some c) : closureFor scope env = pure (clOf env scope.names []) := by
  unfold closureFor
  dsimp only
  rw [closure_go _ (fun name kind cs => by cases hkc : kind == NameKind.free <;> simp [hkc]) scope.names [] h]
  rfl
set_option tactic.hygienic true in
theorem cells_mem {y : Str} {c : Addr} : ∀ {names : List (Str × NameKind)} {h : Heap} {acc : List (Str × Addr)}, (y, c) ∈ cellsFrom h.objs.size names acc → (y, c) ∈ acc ∨ ((pushCells h names).IsCell c Option.none ∧ h.objs.size ≤ c ∧ (y, NameKind.cell) ∈ names)
  | [], _, _, h => .inl h
  | (n, k) :: r, hp, acc, h => by
    unfold cellsFrom at h
    unfold pushCells
    split at h
    · rename_i hk
      rw [if_pos hk]
      have hz : (hp.push { cls := .type "cell", data := .cell Option.none }).objs.size = hp.objs.size + 1 := Heap.size_push ..
      rw [← hz] at h
      rcases cells_mem h with q | q
      · rcases List.mem_cons.mp q with e | q
        · cases e
          have hk' : k = NameKind.cell := by simpa using hk
          subst hk'
          exact .inr ⟨⟨_, pushCells_keeps _ _ _ _ (Heap.get?_push_size _ rfl), rfl⟩, Nat.le_refl _, .head _⟩
        · exact .inl q
      · exact .inr ⟨q.1, by have := q.2.1; rw [hz] at this; exact Nat.le_of_succ_le this, .tail _ q.2.2⟩
    · rename_i hk
      rw [if_neg hk]
      rcases cells_mem h with q | q
      · exact .inl q
      · exact .inr ⟨q.1, q.2.1, .tail _ q.2.2⟩
theorem cells_inj : ∀ {names : List (Str × NameKind)} {n : Nat} {acc : List (Str × Addr)}, (∀ p ∈ acc, p.2 < n) → (∀ p ∈ acc, ∀ q ∈ acc, p.2 = q.2 → p.1 = q.1) → ∀ p ∈ cellsFrom n names acc, ∀ q ∈ cellsFrom n names acc, p.2 = q.2 → p.1 = q.1
  | [], _, _, _, h2 => h2
  | (x, k) :: r, n, acc, h1, h2 => by
    unfold cellsFrom
    split
    · refine cells_inj (fun p hp => ?_) fun p hp q hq e => ?_
      · rcases List.mem_cons.mp hp with rfl | hp
        · exact Nat.lt_succ_self n
        · exact Nat.lt_succ_of_lt (h1 p hp)
      · rcases List.mem_cons.mp hp with rfl | hp <;> rcases List.mem_cons.mp hq with rfl | hq
        · rfl
        · exact absurd e (Nat.ne_of_gt (h1 q hq))
        · exact absurd e (Nat.ne_of_lt (h1 p hp))
        · exact h2 p hp q hq e
    · exact cells_inj h1 h2
noncomputable def compEnv (scope : Scope) (env : Env) (cl : List (Str × Addr)) (C : Addr) : Env :=
  { scope := relabel scope env, locals := C, globals := env.globals, cells := cellsFrom (C + 1) scope.names cl, qual := env.qual, func := none, code := env.code, frame := env.frame, builtins := env.builtins }
theorem newEnv_comp {A : Around} {E : Value → Shared → Prop} {s : Shared} {scope : Scope} {env : Env} {cl : List (Str × Addr)} {M : Model} {Q : Env → Shared → Prop}
    (h : Q { scope := scope, locals := s.heap.objs.size, globals := env.globals, cells := cellsFrom (s.heap.objs.size + 1) scope.names cl, qual := env.qual, func := none, code := env.code, frame := env.frame, builtins := env.builtins }
      { s with heap := pushCells (s.heap.push { cls := .type "dict", data := .dict #[] }) scope.names }) :
    wpAny M A (newFunctionEnv scope env.globals cl [] env.qual none .none (some env)) Q E s := by
  simp only [newFunctionEnv, Option.isSome_some, if_true]
  refine wpAny_bind (wpAny_alloc ?_)
  refine wpAny_bind (wpAny_layCells _ (fun name kind cells => by cases hkc : kind == NameKind.cell <;> simp [hkc]) _ _ _ _ ?_)
  rw [show ({ s with heap := s.heap.push { cls := .type "dict", data := .dict #[] } } : Shared).heap.objs.size = s.heap.objs.size + 1 from Heap.size_push ..]
  exact wpAny_bind (wpAny_pure (wpAny_pure h))
set_option tactic.hygienic true in
theorem relab_mem {sc names : List (Str × NameKind)} {y : Str} {k : NameKind} (h : (y, k) ∈ relab sc names) : (y, k) ∈ names ∨ (k = .cell ∧ (y, NameKind.free) ∈ names ∧ sc.lookup y = some .cell) := by
  unfold relab at h
  obtain ⟨⟨n, k'⟩, hm, e⟩ := List.mem_map.mp h
  simp only at e
  split at e
  · rename_i hc
    cases e
    simp only [Bool.and_eq_true, beq_iff_eq] at hc
    obtain ⟨rfl, hc⟩ := hc
    exact .inr ⟨rfl, hm, hc⟩
  · cases e; exact .inl hm
theorem relab_lookup {sc : List (Str × NameKind)} {y : Str} {k : NameKind} : ∀ {names : List (Str × NameKind)}, names.lookup y = some k → (relab sc names).lookup y = some (if (k == .free && sc.lookup y == some .cell) then .cell else k)
  | [], h => by cases h
  | (n, k') :: r, h => by
    unfold relab
    rw [List.map_cons]
    by_cases q : (y == n) = true
    · rw [List.lookup_cons, q] at h
      cases h
      have : y = n := by simpa using q
      subst this
      simp only
      split <;> rw [List.lookup_cons] <;> simp
    · rw [List.lookup_cons] at h
      simp only [q] at h
      have ih := relab_lookup (sc := sc) (names := r) h
      simp only
      split <;> rw [List.lookup_cons] <;> simp only [q] <;> exact ih
section
variable {F : Fx S} {m : Vars} {σ : Store} {s : Shared} {scope : Scope} {x : Str} {i : Nat}
theorem relabel_names (F : Fx S) (scope : Scope) : (relabel scope F.env).names = relab F.sc scope.names := by
  unfold relabel relab
  simp only [F.fk, beq_self_eq_true, Bool.and_true]
  rfl
structure CompOk (F : Fx S) (scope : Scope) (x : Str) (i : Nat) : Prop where
  kind : scope.kind = .function
  var : scope.names.lookup x = some .local ∨ scope.names.lookup x = some .cell
  ok : okName x = true
  ix : ixS F.tb x = some i
  names : ∀ q ∈ scope.names, okComp F.tb F.sc x q = true ∧ scope.names.lookup q.1 = some q.2
theorem CompOk.free (c : CompOk F scope x i) {y : Str} (h : (y, NameKind.free) ∈ scope.names) : F.sc.lookup y = some .cell := by
  have := (c.names _ h).1
  simpa [okComp] using this
theorem CompOk.own (c : CompOk F scope x i) {y : Str} {k : NameKind} {j : Nat} (h : (y, k) ∈ scope.names) (hk : k = .local ∨ k = .cell) (hj : ixS F.tb y = some j) : j = i := by
  have := (c.names _ h).1
  rcases hk with rfl | rfl <;>
  · simp only [okComp, hj, c.ix, Option.isNone_some, Bool.false_or, beq_iff_eq, Option.some.injEq] at this
    exact this
theorem CompOk.cl (c : CompOk F scope x i) : ∀ p ∈ scope.names, p.2 = .free → ∃ a, F.env.cells.lookup p.1 = some a := by
  rintro ⟨y, k⟩ hp rfl
  exact F.fc y (c.free hp)
theorem CompOk.closure (c : CompOk F scope x i) : closureFor scope F.env = pure (clOf F.env scope.names []) := closureFor_eq c.cl
theorem CompOk.clCell (c : CompOk F scope x i) {y : Str} {a : Addr} (h : (y, a) ∈ clOf F.env scope.names []) : (y, NameKind.free) ∈ scope.names ∧ F.env.cells.lookup y = some a := by
  rcases clOf_mem h with q | q
  · obtain ⟨a', ha⟩ := c.cl _ q.1 rfl
    have := q.2
    simp only at ha
    rw [ha] at this
    exact ⟨q.1, by rw [this]; exact ha⟩
  · cases q
end
end Mine
end
section
namespace Mine
open PySem PyProof.Rows PySem.W
variable {prog : Program} {w : World} {S : Sta prog w}
section
variable {F : Fx S} {m m₁ : Vars} {σ σ₁ : Store} {s s₁ : Shared} {scope : Scope} {x : Str} {i : Nat}
noncomputable abbrev ccl (F : Fx S) (scope : Scope) : List (Str × Addr) := clOf F.env scope.names []
noncomputable abbrev cEnv (F : Fx S) (scope : Scope) (C : Addr) : Env := compEnv scope F.env (ccl F scope) C
theorem cEnv_kind (C : Addr) (y : Str) : (cEnv F scope C).kindOf y = (relab F.sc scope.names).lookup y := by
  show (relabel scope F.env).names.lookup y = _
  rw [relabel_names]
theorem CompOk.fc (c : CompOk F scope x i) (C : Addr) : ∀ y, (cEnv F scope C).kindOf y = some .cell → ∃ a, (cEnv F scope C).cells.lookup y = some a := by
  intro y hy
  rw [cEnv_kind] at hy
  refine Option.isSome_iff_exists.mp (cellsFrom_some _ _ _ ?_)
  rcases relab_mem (mem_of_lookup hy) with q | ⟨_, q, _⟩
  · exact .inl ((c.names _ q).2)
  · exact .inr (clOf_some (.inl q))
noncomputable def compF (c : CompOk F scope x i) (D C : Addr) : Fx S :=
  ⟨F.A, F.tb, cEnv F scope C, F.b, fun a => F.N a ∨ a = D ∨ Own (cEnv F scope C) a, F.k, F.room.wide (fun zz q => .inl q), c.kind, F.fg, F.fb, c.fc C⟩
structure CompNew (F : Fx S) (scope : Scope) (s : Shared) (C : Addr) : Prop where
  out : ∀ a, Own (cEnv F scope C) a → (∃ y, (y, NameKind.free) ∈ scope.names ∧ F.env.cells.lookup y = some a) ∨ s.heap.get? a = Option.none
theorem CompOk.own_out (c : CompOk F scope x i) {C : Addr} {h : Heap} (hC : h.objs.size = C + 1) (hn : ∀ a, C ≤ a → s.heap.get? a = Option.none) : CompNew F scope s C := by
  constructor
  rintro a (rfl | ⟨y, hy⟩)
  · exact .inr (hn _ (Nat.le_refl _))
  · have hm := mem_of_lookup hy
    have hm' : (y, a) ∈ cellsFrom h.objs.size scope.names (ccl F scope) := by rw [hC]; exact hm
    rcases cells_mem hm' with q | q
    · exact .inl ⟨y, c.clCell q⟩
    · exact .inr (hn a (Nat.le_of_succ_le (by have := q.2.1; rw [hC] at this; exact this)))
theorem comp_in (c : CompOk F scope x i) (hs : F.St m σ s) :
    let D := s.heap.objs.size
    let h₁ := (s.heap.push (lstObj #[] 0)).push { cls := .type "dict", data := .dict #[] }
    let s₄ : Shared := { s with heap := pushCells h₁ scope.names }
    (compF c D (D + 1)).St (fun j => if j = i then Option.none else m j) σ s₄ ∧ Step noO noO σ s σ s₄ ∧ s₄.heap.get? D = some (lstObj #[] 0) ∧ CompNew F scope s (D + 1) ∧ (∀ b o, s.heap.get? b = some o → s₄.heap.get? b = some o) ∧ (∀ b, (compF c D (D + 1)).D σ b → F.D σ b ∨ s.heap.get? b = Option.none) ∧ ¬ Own (cEnv F scope (D + 1)) D := by
  intro D h₁ s₄
  have hz1 : (s.heap.push (lstObj #[] 0)).objs.size = D + 1 := Heap.size_push ..
  have hz : h₁.objs.size = D + 1 + 1 := (Heap.size_push ..).trans (by rw [hz1])
  have kp : ∀ b o, s.heap.get? b = some o → s₄.heap.get? b = some o := fun b o e => pushCells_keeps _ _ _ _ (Heap.get?_push_of_some _ (Heap.get?_push_of_some _ e))
  have fresh : ∀ a, D ≤ a → s.heap.get? a = Option.none := fun a ha => by
    cases q : s.heap.get? a with
    | none => rfl
    | some o => exact absurd (Heap.lt_size q) (Nat.not_lt.mpr ha)
  have cn : CompNew F scope s (D + 1) := c.own_out (h := h₁) hz fun a ha => fresh a (Nat.le_of_succ_le ha)
  have gD : s₄.heap.get? D = some (lstObj #[] 0) := pushCells_keeps _ _ _ _ (Heap.get?_push_of_some _ (Heap.get?_push_size _ rfl))
  have gC : h₁.get? (D + 1) = some { cls := .type "dict", data := .dict #[] } := by rw [← hz1]; exact Heap.get?_push_size _ rfl
  obtain ⟨_, st⟩ := hs.grow kp s.toks
  obtain ⟨mc, cm, n, cc, ow, ap, cl, rr⟩ := hs.loc
  have FO : ∀ {y a}, F.env.cells.lookup y = some a → F.O a := fun h => .inr ⟨_, h⟩
  have hDN : ∀ b, DN (compF c D (D + 1)).N σ b → DN F.N σ b ∨ s.heap.get? b = Option.none := by
    rintro b (q | q | q | q)
    · exact .inl (.inl q)
    · exact .inl (.inr q)
    · exact .inr (q ▸ fresh D (Nat.le_refl _))
    · rcases cn.out b q with ⟨y, _, hy⟩ | q
      · exact .inl (.inr (hs.own b (FO hy)))
      · exact .inr q
  have e0 : Ext (DN F.N σ) s.heap s₄.heap := Ext.of_keeps kp
  have cellAt : ∀ {y a}, (cEnv F scope (D + 1)).cells.lookup y = some a → ((y, NameKind.free) ∈ scope.names ∧ F.env.cells.lookup y = some a) ∨ (s₄.heap.IsCell a Option.none ∧ D + 2 ≤ a ∧ (y, NameKind.cell) ∈ scope.names) := by
    intro y a hy
    have hm : (y, a) ∈ cellsFrom h₁.objs.size scope.names (ccl F scope) := by rw [hz]; exact mem_of_lookup hy
    rcases cells_mem hm with q | ⟨q1, q2, q3⟩
    · exact .inl (c.clCell q)
    · exact .inr ⟨q1, by rw [hz] at q2; exact q2, q3⟩
  have uniq : ∀ {y k k'}, (y, k) ∈ scope.names → (y, k') ∈ scope.names → k = k' := by
    intro y k k' h1 h2
    have a1 := (c.names _ h1).2
    have a2 := (c.names _ h2).2
    simp only at a1 a2
    rw [a1] at a2
    exact Option.some.inj a2
  refine ⟨⟨⟨?_, hs.inv.gens, hs.inv.drawn, hs.inv.os, hs.inv.σg, ?_, ?_, ?_⟩, ?_, hs.frm.trans st.any, fun a q => .inl (hs.pN a q), ?_, fun a q => .inr (.inr q), hs.gb⟩, st, gD, cn, kp, hDN, ?_⟩
  · exact fun b o e => kp b o (hs.inv.keep b o e)
  · rintro a d (q | q | q)
    · exact hs.inv.σN a d q
    · exact hs.inv.not_dom (q ▸ fresh D (Nat.le_refl _)) d
    · rcases cn.out a q with ⟨y, _, hy⟩ | q
      · exact hs.inv.σN a d (hs.own a (FO hy))
      · exact hs.inv.not_dom q d
  · rintro a (q | q | q | ⟨y, hy⟩)
    · obtain ⟨o, e, nf⟩ := hs.inv.Nin a q; exact ⟨o, kp a o e, nf⟩
    · exact ⟨_, q ▸ gD, fun vs z => by cases z⟩
    · have q' : a = D + 1 := q
      exact ⟨_, by rw [q']; exact pushCells_keeps _ _ _ _ gC, fun vs z => by cases z⟩
    · rcases cellAt hy with ⟨_, hy⟩ | ⟨⟨o, e, dd⟩, _⟩
      · obtain ⟨o, e, dd⟩ := cc y a hy; exact ⟨o, kp a o e, fun vs z => by rw [dd] at z; cases z⟩
      · exact ⟨o, e, fun vs z => by rw [dd] at z; cases z⟩
  · exact fun a o e => (hs.inv.rep a o e).ext e0 hDN (kp a)
  · refine ⟨fun zz => Option.none, fun y => if (y, NameKind.cell) ∈ scope.names then Option.none else cm y, ?_, ?_, ?_, ?_, ?_, ?_⟩
    · have : h₁.Ns (D + 1) (fun zz => Option.none) := by rw [← hz1]; exact Heap.Ns.new _ _
      exact this.keeps (pushCells_keeps _ _)
    · intro y a hy
      rcases cellAt hy with ⟨hf, hy⟩ | ⟨q, _, hc⟩
      · have : ¬ (y, NameKind.cell) ∈ scope.names := fun h => by cases uniq h hf
        simp only [if_neg this]
        exact (cc y a hy).keeps kp
      · simp only [if_pos hc]; exact q
    · intro a q
      rcases cn.out a q with ⟨y, _, hy⟩ | q
      · exact ow a (FO hy)
      · exact ⟨hs.inv.not_dom q, hs.inv.not_g q⟩
    · intro y z a hy hz'
      refine cells_inj (n := D + 1 + 1) (names := scope.names) (acc := ccl F scope) ?_ ?_ (y, a) (mem_of_lookup hy) (z, a) (mem_of_lookup hz') rfl
      · rintro ⟨p1, p2⟩ hp
        obtain ⟨_, hl⟩ := c.clCell hp
        have := (cc p1 p2 hl).lt
        show p2 < D + 1 + 1
        exact Nat.lt_of_lt_of_le this (Nat.le_add_right _ 2)
      · rintro ⟨p1, p2⟩ hp ⟨q1, q2⟩ hq e
        simp only at e; subst e
        exact ap _ _ _ (c.clCell hp).2 (c.clCell hq).2
    · intro y a hy
      rcases cellAt hy with ⟨_, hy⟩ | ⟨_, q, _⟩
      · have := (cc y a hy).lt
        exact Nat.ne_of_lt (Nat.lt_succ_of_lt this)
      · exact Nat.ne_of_gt q
    · intro y j av hj hm
      have hji : j ≠ i := fun e => by rw [if_pos e] at hm; cases hm
      rw [if_neg hji] at hm
      show LocAt _ _ _ _ _ _ ((cEnv F scope (D + 1)).kindOf y) _ _
      cases hk : (cEnv F scope (D + 1)).kindOf y with
      | none => trivial
      | some k =>
        have hk2 := hk
        rw [cEnv_kind] at hk2
        rcases relab_mem (mem_of_lookup hk2) with q | ⟨rfl, q, q2⟩
        · cases k with
          | «local» => exact absurd (c.own q (.inl rfl) hj) hji
          | cell => exact absurd (c.own q (.inr rfl) hj) hji
          | free =>
            have e1 := (c.names _ q).2
            simp only at e1
            rw [relab_lookup e1, c.free q] at hk2
            simp at hk2
          | globalExplicit => trivial
          | globalImplicit => trivial
        · have := rr y j av hj hm
          have kd : F.env.kindOf y = F.sc.lookup y := rfl
          rw [kd, q2] at this
          obtain ⟨v, a, h0, h1, h2⟩ := this
          obtain ⟨a', ha'⟩ := c.fc (D + 1) y hk
          have hmem : ¬ (y, NameKind.cell) ∈ scope.names := fun h => by cases uniq h q
          refine ⟨v, a', ha', by simp only [if_neg hmem]; exact h1, h2.ext e0 hDN⟩
  · intro a q
    rcases cn.out a q with ⟨y, _, hy⟩ | q
    · exact hs.new a (FO hy)
    · exact hs.frm.new q
  · rintro (q | ⟨y, hy⟩)
    · exact absurd (show D = D + 1 from q) (Nat.ne_of_lt (Nat.lt_succ_self D))
    · rcases cellAt hy with ⟨_, hy⟩ | ⟨_, q, _⟩
      · exact absurd (cc y D hy).lt (Nat.lt_irrefl _)
      · exact absurd q (Nat.not_le.mpr (Nat.lt_succ_of_lt (Nat.lt_succ_self D)))
theorem comp_step (c : CompOk F scope x i) {D C : Addr} (cn : CompNew F scope s C) (y : Step F.P (compF c D C).O σ s σ₁ s₁) : Step F.P F.O σ s σ₁ s₁ := by
  have oo : ∀ {b o}, s.heap.get? b = some o → (compF c D C).O b → F.O b := fun {b o} e q => by
    rcases cn.out b q with ⟨z, _, hz⟩ | q
    · exact .inr ⟨z, hz⟩
    · rw [q] at e; cases e
  exact ⟨⟨fun b o e d => y.ext.obj b o e fun q => d (q.imp id fun q => q.imp (oo e) id)⟩, fun b o e n ho d => y.frm b o e n (fun q => ho (oo e q)) d, y.dom, y.there⟩
open Classical in
set_option tactic.hygienic true in
theorem comp_back (c : CompOk F scope x i) {C : Addr} (cn : CompNew F scope s C) (hs : F.St m σ s) {Np : Addr → Prop} (hN : ∀ b, Np b → F.N b ∨ s.heap.get? b = Option.none) (hN2 : ∀ b, F.N b → Np b) (stF : Step F.P F.O σ s σ₁ s₁) (inv' : Inv S Np σ₁ s₁) (frm' : Step F.P noO F.b.1 F.b.2 σ₁ s₁)
    (out : ∀ a o, s.heap.get? a = some o → F.O a → ¬ Own (cEnv F scope C) a → ∃ o', s₁.heap.get? a = some o' ∧ o'.cls = o.cls ∧ o'.data = o.data ∧ o'.dict = o.dict)
    (cm' : Str → Option Value) (hcm : ∀ z a, (z, NameKind.free) ∈ scope.names → (cEnv F scope C).cells.lookup z = some a → s₁.heap.IsCell a (cm' z))
    (hcv : ∀ z j av, (z, NameKind.free) ∈ scope.names → ixS F.tb z = some j → j ≠ i → m j = some av → ∃ v, cm' z = some v ∧ Rep S.cv s₁.heap (DN Np σ₁) av v) : Mine.St S F.tb F.env Np F.P F.b m σ₁ s₁ := by
  have FO : ∀ {y a}, F.env.cells.lookup y = some a → F.O a := fun h => .inr ⟨_, h⟩
  obtain ⟨mc, cm, n, cc, ow, ap, cl, rr⟩ := hs.loc
  have uniq : ∀ {y k k'}, (y, k) ∈ scope.names → (y, k') ∈ scope.names → k = k' := by
    intro y k k' h1 h2
    have a1 := (c.names _ h1).2
    have a2 := (c.names _ h2).2
    simp only at a1 a2
    rw [a1] at a2
    exact Option.some.inj a2
  have step_rep : ∀ {av v}, Rep S.cv s.heap (DN F.N σ) av v → Rep S.cv s₁.heap (DN Np σ₁) av v := fun r => r.ext (stF.ext.mono fun a h => h.imp id fun h => h.elim (hs.own a) (hs.pN a)) fun b h => h.elim (fun h => (stF.dom b h).imp .inl id) fun h => (hN b h).imp .inr id
  have shared : ∀ {z a}, F.env.cells.lookup z = some a → Own (cEnv F scope C) a → (z, NameKind.free) ∈ scope.names := by
    intro z a hz ha
    obtain ⟨o, e, _⟩ := cc z a hz
    rcases cn.out a ha with ⟨z', hf, hz'⟩ | q
    · have := ap _ _ _ hz hz'
      subst this
      exact hf
    · rw [e] at q; cases q
  have lk : ∀ {z a b}, F.env.cells.lookup z = some a → (z, NameKind.free) ∈ scope.names → (cEnv F scope C).cells.lookup z = some b → b = a := by
    intro z a b hz hf hb
    have hm : (z, b) ∈ cellsFrom (C + 1) scope.names (ccl F scope) := mem_of_lookup hb
    have gen : ∀ {names : List (Str × NameKind)} {k : Nat} {acc : List (Str × Addr)}, (z, b) ∈ cellsFrom k names acc → (z, b) ∈ acc ∨ (z, NameKind.cell) ∈ names := by
      intro names
      induction names with
      | nil => intro k acc h; exact .inl h
      | cons p r ih =>
        intro k acc h
        obtain ⟨pn, pk⟩ := p
        unfold cellsFrom at h
        split at h
        · rename_i hk
          have hk' : pk = NameKind.cell := by simpa using hk
          subst hk'
          rcases ih h with q | q
          · rcases List.mem_cons.mp q with e | q
            · cases e; exact .inr (.head _)
            · exact .inl q
          · exact .inr (.tail _ q)
        · rcases ih h with q | q
          · exact .inl q
          · exact .inr (.tail _ q)
    rcases gen hm with q | q
    · have := (c.clCell q).2
      rw [hz] at this
      exact (Option.some.inj this).symm
    · cases uniq q hf
  refine ⟨inv', ⟨mc, fun z => if (z, NameKind.free) ∈ scope.names then cm' z else cm z, ?_, ?_, ?_, ap, cl, ?_⟩, frm', (fun a q => hN2 a (hs.pN a q)), hs.new, fun a q => hN2 a (hs.own a q), hs.gb⟩
  · obtain ⟨o, es, ep, e, d, r⟩ := n
    have hn : ¬ Own (cEnv F scope C) F.env.locals := fun q => by
      rcases cn.out _ q with ⟨z, _, hz⟩ | q
      · exact cl z _ hz rfl
      · rw [e] at q; cases q
    obtain ⟨o', e', _, d', _⟩ := out _ _ e (.inl rfl) hn
    exact ⟨o', es, ep, e', d'.trans d, r⟩
  · intro z a hz
    by_cases hf : (z, NameKind.free) ∈ scope.names
    · simp only [if_pos hf]
      obtain ⟨b, hb⟩ := Option.isSome_iff_exists.mp (cellsFrom_some (x := z) scope.names (C + 1) (ccl F scope) (.inr (clOf_some (.inl hf))))
      have := lk hz hf hb
      subst this
      exact hcm z b hf hb
    · simp only [if_neg hf]
      have hn : ¬ Own (cEnv F scope C) a := fun q => hf (shared hz q)
      obtain ⟨o, e, d⟩ := cc z a hz
      obtain ⟨o', e', _, d', _⟩ := out _ _ e (FO hz) hn
      exact ⟨o', e', d'.trans d⟩
  · intro a ha
    exact ⟨fun d => inv'.σN a d (hN2 a (hs.own a ha)), (ow a ha).2⟩
  · intro z j av hj hmj
    have old := rr z j av hj hmj
    have kd : F.env.kindOf z = F.sc.lookup z := rfl
    by_cases hf : (z, NameKind.free) ∈ scope.names
    · have q2 := c.free hf
      rw [kd, q2] at old ⊢
      obtain ⟨v, a, h0, _, _⟩ := old
      have hji : j ≠ i := by
        rintro rfl
        have : z = x := ixS_inj hj c.ix
        subst this
        rcases c.var with q | q <;> cases uniq (mem_of_lookup q) hf
      obtain ⟨v', h1', h2'⟩ := hcv z j av hf hj hji hmj
      exact ⟨v', a, h0, by simp only [if_pos hf]; exact h1', h2'⟩
    · exact LocAt.map old (fun h2 => step_rep h2) (fun zz h1 => h1) (fun zz h1 => by simp only [if_neg hf]; exact h1)
theorem comp_out (c : CompOk F scope x i) {D C : Addr} {h' : Heap} {ys : List AV} {vs : List Value} {n : Nat} (cn : CompNew F scope s C) (hs : F.St m σ s) (hDs : s.heap.get? D = Option.none) (hCs : s.heap.get? C = Option.none) (hDC : D ≠ C)
    (y : Step F.P (compF c D C).O σ s σ₁ s₁) (h₁ : (compF c D C).St m₁ σ₁ s₁) (hm : ∀ j, j ≠ i → m₁ j = m j) (hb : Heap.SameBut C s₁.heap h') (gD : s₁.heap.get? D = some (lstObj vs.toArray n)) (rl : RepL S.cv s₁.heap ((compF c D C).D σ₁) ys vs)
    {Np : Addr → Prop} (hNp : ∀ b, Np b → F.N b ∨ b = C) (hN2 : ∀ b, F.N b → Np b) (hex : Np C → ∃ o, h'.get? C = some o ∧ ∀ vs, o.data ≠ .fields vs)
    {Q : AV → Store → Prop} (q : Fresh σ₁ (.list ys) (.list ys) Q) : ∃ σ', Step F.P F.O σ s σ' { s₁ with heap := h' } ∧ Mine.St S F.tb F.env Np F.P F.b m σ' { s₁ with heap := h' } ∧ ∃ av, Rep S.cv h' (DN Np σ') av (.ref D) ∧ Q av σ' := by
  have stF := comp_step c cn y
  obtain ⟨mc', cm', n', cc', ow', ap', cl', rr'⟩ := h₁.loc
  have oC : Own (cEnv F scope C) C := .inl rfl
  have nC : ∀ {b o}, s.heap.get? b = some o → b ≠ C := fun e q => by rw [q, hCs] at e; cases e
  have kpC : ∀ b o, b ≠ C → s₁.heap.get? b = some o → h'.get? b = some o := fun b o ne e => hb.extBut b o ne e
  have e0 : Ext (DN (compF c D C).N σ₁) s₁.heap h' := Ext.of_but fun b o d e => kpC b o (fun q => d (.inr (.inr (.inr (q ▸ oC))))) e
  have nFN : ¬ F.N D := fun q => by obtain ⟨o, e, nf⟩ := hs.inv.Nin D q; rw [hDs] at e; cases e
  have nNp : ¬ Np D := fun q => (hNp D q).elim nFN hDC
  have inNp : ∀ b, Np b → (compF c D C).N b := fun b q => (hNp b q).elim .inl fun q => .inr (.inr (q ▸ oC))
  have nD₁ : ¬ Dom σ₁ D := fun d => h₁.inv.σN D d (.inr (.inl rfl))
  have mk : ∀ σ' : Store, (∀ a o, σ' a = some o → σ₁ a = some o ∨ (a = D ∧ o = .list ys)) → Mine.St S F.tb F.env Np F.P F.b m σ' { s₁ with heap := h' } ∧ Step F.P F.O σ s σ' { s₁ with heap := h' } := by
    intro σ' ho
    have hd : ∀ a, Dom σ' a → Dom σ₁ a ∨ a = D := fun a d => by
      cases e : σ' a with
      | none => exact absurd e d
      | some o => exact (ho a o e).imp (fun q => by unfold Dom; rw [q]; simp) fun q => q.1
    have hDN : ∀ b, DN Np σ' b → DN (compF c D C).N σ₁ b := fun b q => q.elim (fun q => (hd b q).elim .inl fun q => .inr (.inr (.inl q))) fun q => .inr (inNp b q)
    have stF' : Step F.P F.O σ s σ' { s₁ with heap := h' } := ⟨⟨fun b o e d => kpC b o (nC e) (stF.ext.obj b o e d)⟩, fun b o e d f g => by
        obtain ⟨o', e', r⟩ := stF.frm b o e d f g
        exact ⟨o', kpC b o' (nC e) e', r⟩, fun b d => (hd b d).elim (stF.dom b) fun q => .inr (q ▸ hDs), fun b o e => by
        obtain ⟨o', e'⟩ := stF.there b o e
        exact ⟨o', kpC b o' (nC e) e'⟩⟩
    have inv' : Inv S Np σ' { s₁ with heap := h' } := by
      refine ⟨fun b o e => kpC b o (fun q => ?_) (h₁.inv.keep b o e), h₁.inv.gens, h₁.inv.drawn, h₁.inv.os, fun a d => (hd a d).elim (h₁.inv.σg a) fun q => q ▸ hs.inv.not_g hDs, fun a d q => (hd a d).elim (fun d => h₁.inv.σN a d (inNp a q)) fun z => nNp (z ▸ q), fun a q => ?_, fun a o e => ?_⟩
      · subst q
        have := (ow' b oC).2
        rw [this] at e; cases e
      · rcases hNp a q with q' | q'
        · obtain ⟨o, e, nf⟩ := hs.inv.Nin a q'
          obtain ⟨o', e', nf'⟩ := h₁.inv.Nin a (.inl q')
          exact ⟨o', kpC a o' (nC e) e', nf'⟩
        · rw [q'] at q ⊢; exact hex q
      · rcases ho a o e with q | ⟨rfl, rfl⟩
        · exact (h₁.inv.rep a o q).ext e0 (fun b z => .inl (hDN b z)) fun ob e' => kpC a ob (fun z => h₁.inv.σN a (by unfold Dom; rw [q]; simp) (.inr (.inr (z ▸ oC)))) e'
        · exact .list (kpC _ _ hDC gD) (rl.ext e0 fun b z => .inl (hDN b z))
    have frm' : Step F.P noO F.b.1 F.b.2 σ' { s₁ with heap := h' } := by
      have bC : ∀ {b o}, F.b.2.heap.get? b = some o → b ≠ C := fun {b o} e q => by
        obtain ⟨o', e'⟩ := hs.frm.there b o e
        exact nC e' q
      have bD : F.b.2.heap.get? D = Option.none := hs.frm.new hDs
      have f := h₁.frm
      exact ⟨⟨fun b o e d => kpC b o (bC e) (f.ext.obj b o e d)⟩, fun b o e d g x => by
        obtain ⟨o', e', r⟩ := f.frm b o e d g x
        exact ⟨o', kpC b o' (bC e) e', r⟩, fun b d => (hd b d).elim (f.dom b) fun q => .inr (q ▸ bD), fun b o e => by
        obtain ⟨o', e'⟩ := f.there b o e
        exact ⟨o', kpC b o' (bC e) e'⟩⟩
    refine ⟨comp_back c cn hs (fun b q => (hNp b q).imp id fun (q : b = C) => by rw [q]; exact hCs) hN2 stF' inv' frm' ?_ cm' ?_ ?_, stF'⟩
    · intro a o e ha hn
      obtain ⟨_, _, _, _, ow, _, _, _⟩ := hs.loc
      obtain ⟨o', e', r⟩ := y.there' e (ow a ha).1 hn
      exact ⟨o', kpC a o' (nC e) e', r⟩
    · intro z a hf hz
      obtain ⟨o, e, d⟩ := cc' z a hz
      exact ⟨o, kpC a o (cl' z a hz) e, d⟩
    · intro z j av hf hj hji hmj
      have hk : (compF c D C).env.kindOf z = some .cell := by
        show (cEnv F scope C).kindOf z = _
        rw [cEnv_kind, relab_lookup ((c.names _ hf).2), c.free hf]; simp
      have new := rr' z j av hj ((hm j hji).trans hmj)
      rw [hk] at new
      obtain ⟨v, a, _, h1, h2⟩ := new
      exact ⟨v, h1, h2.ext e0 fun b q => .inl (hDN b q)⟩
  rcases q with q | q
  · obtain ⟨h2, st2⟩ := mk σ₁ fun a o e => .inl e
    exact ⟨σ₁, st2, h2, _, .list (kpC _ _ hDC gD) (fun d => d.elim nD₁ nNp) (rl.ext e0 fun b z => .inl (z.imp id (inNp b))), q⟩
  · obtain ⟨h2, st2⟩ := mk (σ₁.set D (.list ys)) fun a o e => by
      by_cases z : a = D
      · subst z; rw [Store.set_self] at e; exact .inr ⟨rfl, (Option.some.inj e).symm⟩
      · rw [Store.set_ne _ _ z] at e; exact .inl e
    exact ⟨_, st2, h2, _, .loc D, q D nD₁⟩
end
end Mine
end
section
namespace Mine
open PySem PyProof.Rows PySem.W
variable {prog : Program} {w : World} {S : Sta prog w}
noncomputable abbrev NoX : Value → Shared → Prop := fun zz zz => False
theorem compLoop_any {A : Around} {R : Result → Shared → Prop} {s : Shared} {elt target iter : PySem.Expr} {ifs : List PySem.Expr} {scope : Scope} {pos : Pos} {it acc : Value} {env : Env} (I : Nat → Shared → Prop)
    (turn : ∀ n s, I n s → wpAny (model prog w) A (pyNext it) (fun r s₁ => match r with
      | none => R (.ok .next) s₁
      | some v => wpAny (model prog w) A (letOwnedTupleGo target it v) (fun zz s₁' => wpAny (model prog w) A (assign target env v) (fun zz s₂ =>
          wpAny (model prog w) A (forIn ifs true fun c r => if r = true then do let ok ← isTrue c env (eval c env); pure (ForInStep.yield ok) else pure (ForInStep.yield r)) (fun ok s₃ =>
            if ok = true then wpAny (model prog w) A (eval elt env) (fun x s₄ =>
              wpAny (model prog w) A (call (.builtin "list.append") [acc, x]) (fun zz s₅ => ∃ m, m < n ∧ I m s₅) NoX s₄) NoX s₃
            else ∃ m, m < n ∧ I m s₃) NoX s₂) NoX s₁') NoX s₁) NoX s)
    (n : Nat) (h : I n s) : codeAny (model prog w) A (.compLoop (.ListComp elt [⟨target, iter, ifs, 0⟩] scope pos) 0 it acc env) R s := by
  refine codeAny_loop rfl I (fun n s hI => ?_) n h
  show wpAny _ A ((compTurn (.ListComp elt [⟨target, iter, ifs, 0⟩] scope pos) 0 it acc env).onRaise (fun x => do noteFrame x env; theTreesLotGoes x)) _ _ s
  refine wpAny_noted (wpAny_noRaise ?_)
  rw [compTurn_list]
  refine wpAny_bind (wpAny_standAt (wpAny_bind (wpAny_mono (turn n s hI) (fun r s₁ h₁ => ?_) fun zz zz h' => h')))
  cases r with
  | none => exact wpAny_pure h₁
  | some v =>
    refine wpAny_bind (wpAny_mono h₁ (fun zz s₁' h₁' => ?_) fun zz zz h' => h')
    refine wpAny_bind (wpAny_mono h₁' (fun zz s₂ h₂ => wpAny_bind (wpAny_mono h₂ (fun ok s₃ h₃ => ?_) fun zz zz h' => h')) fun zz zz h' => h')
    cases ok with
    | false => exact wpAny_pure ⟨rfl, h₃⟩
    | true =>
      exact wpAny_bind (wpAny_bind (wpAny_mono h₃ (fun x s₄ h₄ => wpAny_bind (wpAny_mono h₄ (fun zz s₅ h₅ => wpAny_pure (wpAny_pure ⟨rfl, h₅⟩)) fun zz zz h' => h')) fun zz zz h' => h'))
noncomputable def TestT (F : Fx S) (m : Vars) (σ : Store) (cs : List E) (Q : Bool → Store → Prop) : Prop := match cs with
  | [] => Q true σ
  | [c] => TT F m σ c Q NoX
  | _ => False
theorem TestT.run {F : Fx S} {m : Vars} {σ : Store} {s : Shared} {cs : List E} {pcs : List PySem.Expr} {Q : Bool → Store → Prop} (h : TestT F m σ cs Q) (hc : CEs F.tb F.sc pcs cs) (hs : F.St m σ s) :
    W F m σ s (forIn pcs true fun c r => if r = true then do let ok ← isTrue c F.env (eval c F.env); pure (ForInStep.yield ok) else pure (ForInStep.yield r)) (fun b σ' zz => Q b σ') NoX := by
  match cs, h with
  | [], h => obtain rfl := hc.inv_nil; exact wpAny_tests_nil ⟨σ, Step.refl _ _ _ _, hs, h⟩
  | [c], h =>
    obtain ⟨_, _, rfl, hn, he, hr⟩ := hc.inv
    obtain rfl := hr.inv_nil; exact wpAny_tests_one (h _ he s hs)
noncomputable def CompT (F : Fx S) (i : Nat) (elt : E) (cs : List E) (ok : Store → Store → Prop) (m : Vars) (K : List AV → Store → Prop) : List AV → List AV → Store → Prop
  | [], ys, σ => K ys σ
  | x :: r, ys, σ => TestT F (m.set i x) σ cs (fun b σ₁ => if b = true then ET F (m.set i x) σ₁ elt (fun y σ₂ => ok σ σ₂ ∧ CompT F i elt cs ok m K r (ys ++ [y]) σ₂) NoX else ok σ σ₁ ∧ CompT F i elt cs ok m K r ys σ₁)
section
variable {F : Fx S} {m : Vars} {σ : Store} {s : Shared} {scope : Scope} {x : Str} {i : Nat}
theorem set_over {m m' : Vars} {i : Nat} {x : AV} (h : ∀ j, j ≠ i → m' j = m j) : m'.set i x = m.set i x := by
  funext j
  unfold Vars.set
  by_cases q : j = i
  · simp [q]
  · simp [q, h j q]
theorem RepL.snoc {cv : Nat → Value} {h : Heap} {D : Addr → Prop} {a : AV} {v : Value} {l : List AV} {vs : List Value} (r : RepL cv h D l vs) (r' : Rep cv h D a v) : RepL cv h D (l ++ [a]) (vs ++ [v]) := r.app (.cons r' .nil)
theorem St.turnN {tb : List Nat} {env : Env} {N P : Addr → Prop} {b : Store × Shared} {m : Vars} {σ : Store} {s : Shared} {h' : Heap} {C : Addr} (hs : Mine.St S tb env N P b m σ s) (hC : N C) (nO : ¬ Own env C) (hb0 : b.2.heap.get? C = Option.none)
    (hb : Heap.ExtBut C s.heap h') (hex : ∃ o, h'.get? C = some o ∧ ∀ vs, o.data ≠ .fields vs) : Mine.St S tb env N P b m σ { s with heap := h' } ∧ Step P (· = C) σ s σ { s with heap := h' } := by
  have kpC : ∀ b o, b ≠ C → s.heap.get? b = some o → h'.get? b = some o := fun b o ne e => hb b o ne e
  have e0 : Ext (DN N σ) s.heap h' := Ext.of_but fun b o d e => kpC b o (fun q => d (.inr (q ▸ hC))) e
  have hD : ∀ b, DN N σ b → DN N σ b ∨ s.heap.get? b = Option.none := fun b q => .inl q
  have rep : ∀ {av v}, Rep S.cv s.heap (DN N σ) av v → Rep S.cv h' (DN N σ) av v := fun r => r.ext e0 hD
  have there : ∀ a o, s.heap.get? a = some o → ∃ o', h'.get? a = some o' := fun a o e => by
    by_cases q : a = C
    · subst q; exact ⟨hex.choose, hex.choose_spec.1⟩
    · exact ⟨o, kpC a o q e⟩
  obtain ⟨mc, cm, n, cc, ow, ap, cl, rr⟩ := hs.loc
  have oC : ∀ a, Own env a → a ≠ C := fun a q z => nO (z ▸ q)
  refine ⟨⟨⟨fun a o e => kpC a o (fun q => ?_) (hs.inv.keep a o e), hs.inv.gens, hs.inv.drawn, hs.inv.os, hs.inv.σg, hs.inv.σN, fun a q => ?_, fun a o e => (hs.inv.rep a o e).ext e0 hD fun ob e' => kpC a ob (fun z => hs.inv.σN a (by unfold Dom; rw [e]; simp) (z ▸ hC)) e'⟩, ?_, ?_, hs.pN, hs.new, hs.own, hs.gb⟩,
    Step.of_but (fun a o zz n e => kpC a o n e) (fun zz h => .inl h) there⟩
  · subst q; rw [hs.gb a hb0] at e; cases e
  · obtain ⟨o, e, nf⟩ := hs.inv.Nin a q
    by_cases z : a = C
    · rw [z]; exact hex
    · exact ⟨o, kpC a o z e, nf⟩
  · refine ⟨mc, cm, ?_, fun z a hz => ?_, ow, ap, cl, fun z j av hj hm => ?_⟩
    · obtain ⟨o, es, ep, e, d⟩ := n; exact ⟨o, es, ep, kpC _ _ (oC _ (.inl rfl)) e, d⟩
    · obtain ⟨o, e, d⟩ := cc z a hz; exact ⟨o, kpC _ _ (oC _ (.inr ⟨z, hz⟩)) e, d⟩
    · exact LocAt.map (rr z j av hj hm) (fun h2 => rep h2) (fun zz h1 => h1) (fun zz h1 => h1)
  · have bC : ∀ {a o}, b.2.heap.get? a = some o → a ≠ C := fun e z => by rw [z, hb0] at e; cases e
    have f := hs.frm
    exact ⟨⟨fun a o e d => kpC a o (bC e) (f.ext.obj a o e d)⟩, fun a o e d g x => by
      obtain ⟨o', e', r⟩ := f.frm a o e d g x
      exact ⟨o', kpC a o' (bC e) e', r⟩, f.dom, fun a o e => by
      obtain ⟨o', e'⟩ := f.there a o e
      exact ⟨o', kpC a o' (bC e) e'⟩⟩
theorem ItStep.step {W P O : Addr → Prop} {σ₀ : Store} {s₀ s₂ : Shared} (st : ItStep W s s₂) (new : ∀ a, W a → s₀.heap.get? a = Option.none) (z : Step P O σ₀ s₀ σ s) : Step P O σ₀ s₀ σ s₂ :=
  z.over fun c e o => st.keep c o fun z => e.elim fun o e => no_some (new c z) e
inductive CEnd (F : Fx S) (i : Nat) (m : Vars) (K : List AV → Store → Prop) (D : Addr) (σ₀ : Store) (s₀ s' : Shared) : Prop
  | mk (σ' : Store) (m₁ : Vars) (ys : List AV) (vs : List Value) (n : Nat) (st : Step F.P F.O σ₀ s₀ σ' s') (h : F.St m₁ σ' s') (hm : ∀ j, j ≠ i → m₁ j = m j) (g : s'.heap.get? D = some (lstObj (List.toArray vs) n)) (rl : RepL S.cv s'.heap (F.D σ') ys vs) (k : K ys σ') : CEnd F i m K D σ₀ s₀ s'
inductive CInv (F : Fx S) (i : Nat) (elt : E) (cs : List E) (ok : Store → Store → Prop) (m : Vars) (K : List AV → Store → Prop) (items : List AV) (J : Nat → Store → Shared → Prop) (D : Addr) (σ₀ : Store) (s₀ : Shared) (n : Nat) (s' : Shared) : Prop
  | mk (k : Nat) (m₁ : Vars) (σ' : Store) (ys : List AV) (vs : List Value) (nn : Nat) (hn : n + k = items.length + 1) (hk : k ≤ items.length) (hv : vs.length ≤ k) (st : Step F.P F.O σ₀ s₀ σ' s') (h : F.St m₁ σ' s') (hm : ∀ j, j ≠ i → m₁ j = m j) (hJ : J k σ' s')
    (g : s'.heap.get? D = some (lstObj (List.toArray vs) nn)) (rl : RepL S.cv s'.heap (F.D σ') ys vs) (c : CompT F i elt cs ok m K (items.drop k) ys σ') : CInv F i elt cs ok m K items J D σ₀ s₀ n s'
set_option tactic.hygienic true in
theorem compLoopT {I D : Addr} {items : List AV} {x : Str} {px : Pos} {W : Addr → Prop} {J : Nat → Store → Shared → Prop} {ok : Store → Store → Prop} {i : Nat} {elt : E} {cs : List E} {pelt piter : PySem.Expr} {pcs : List PySem.Expr} {scope : Scope} {pos : Pos} {m₀ : Vars} {K : List AV → Store → Prop} {σ₀ : Store} {s₀ : Shared}
    (Wk : Walk F I items (.Name x px) W J ok) (hf : F.sc.lookup x ≠ some .free) (hx : IsV F.tb F.sc x i) (hlen : items.length ≤ big) (he : CE F.tb F.sc pelt elt) (hcs : CEs F.tb F.sc pcs cs)
    (new : ∀ a, W a → F.b.2.heap.get? a = Option.none) (hN : ∀ a, W a → ¬ F.N a) (hD : F.N D) (hDO : ¬ F.O D) (hDP : ¬ F.P D) (hDb : F.b.2.heap.get? D = Option.none) (hD0 : s₀.heap.get? D = Option.none)
    (new0 : ∀ a, W a → s₀.heap.get? a = Option.none) (hs : F.St m₀ σ s) (st0 : Step F.P F.O σ₀ s₀ σ s) (hm0 : ∀ j, j ≠ i → m₀ j = m j) (gD : s.heap.get? D = some (lstObj #[] 0)) (hJ : J 0 σ s) (h : CompT F i elt cs ok m K items [] σ) :
    codeAny (model prog w) F.A (.compLoop (.ListComp pelt [⟨.Name x px, piter, pcs, 0⟩] scope pos) 0 (.ref I) (.ref D) F.env) (fun r s' => match r with
      | .ok _ => CEnd F i m K D σ₀ s₀ s'
      | .error _ => False) s := by
  have wD : ¬ W D := fun q => hN D q hD
  refine compLoop_any (CInv F i elt cs ok m K items J D σ₀ s₀) ?_ (items.length + 1)
    ⟨0, m₀, σ, [], [], 0, rfl, Nat.zero_le _, Nat.le_refl _, st0, hs, hm0, hJ, gD, .nil, h⟩
  rintro n s₁ ⟨k, m₁, σ₁, ys, vs, nn, hn, hk, hv, st₁, h₁, hm₁, hJ₁, g₁, rl₁, hl⟩
  have its := Wk.its k σ₁ s₁ hJ₁
  have dom_D : ∀ {σ' : Store} {s' : Shared} {m' : Vars}, F.St m' σ' s' → ¬ (Dom σ' D ∨ F.O D ∨ F.P D) := fun q d => d.elim (fun d => q.inv.σN D d hD) fun d => d.elim hDO hDP
  by_cases hlt : k < items.length
  · obtain ⟨y, hy⟩ : ∃ y, items[k]? = some y := ⟨_, List.getElem?_eq_getElem hlt⟩
    have hd : items.drop k = y :: items.drop (k + 1) := by
      rw [List.drop_eq_getElem_cons hlt]
      rw [List.getElem?_eq_getElem hlt] at hy
      cases hy; rfl
    rw [hd] at hl
    refine Wk.next k y m₁ σ₁ s₁ _ _ _ hy h₁ hJ₁ fun v s₂ ist rv hJ₂ => ?_
    have h₂ : F.St m₁ σ₁ s₂ := h₁.it its new hN ist
    have g₂ := ist.keep D _ wD g₁
    have rl₂ := rl₁.it its ist.keep
    refine wpAny_assign_Name (store_v hf hx h₂ rv fun s₃ st₃ h₃ => ?_)
    rw [set_over hm₁] at h₃
    refine (TestT.run hl hcs h₃).out ?_
    rintro b σ₄ s₄ st₄ h₄ q
    have st34 := st₃.trans st₄
    have g₄ := st34.ext.obj D _ g₂ (dom_D h₂)
    have rl₄ := rl₂.st st34 h₄
    have st' := (ist.step new0 st₁).trans st34
    cases b with
    | false =>
      simp only [Bool.false_eq_true, if_false] at q ⊢
      exact ⟨n - 1, by omega, k + 1, _, σ₄, ys, vs, nn, by omega, hlt, by omega, st', h₄, fun j hj => by unfold Vars.set; rw [if_neg hj], Wk.stays _ _ _ _ _ _ _ F.O h₂.own hN hJ₂ h₂ st34 h₄ q.1, g₄, rl₄, q.2⟩
    | true =>
      simp only [if_true] at q ⊢
      refine (q _ he s₄ h₄).out ?_
      rintro v5 σ₅ s₅ st₅ h₅ ⟨e5, r5, hok, hrest⟩
      have g₅ := st₅.ext.obj D _ g₄ (dom_D h₄)
      have rl₅ := rl₄.st st₅ h₅
      refine wpAny_list_append_plain (items := vs.toArray) ⟨nn, g₅⟩ (fun h' pl sb => ?_) (by rw [List.size_toArray]; exact big_ok (by omega))
      obtain ⟨n6, g₆⟩ := pl
      obtain ⟨h₆, st₆⟩ := h₅.turnN hD hDO hDb sb.extBut ⟨_, g₆, fun vs z => by cases z⟩
      have ee : vs.toArray.push v5 = (vs ++ [v5]).toArray := by simp
      rw [ee] at g₆
      have stN : Step F.P F.N σ₁ s₂ σ₅ { s₅ with heap := h' } := ((st34.trans st₅).mono h₂.own).trans (st₆.mono fun a q => q ▸ hD)
      have rl₆ : RepL S.cv h' (F.D σ₅) (ys ++ [e5]) (vs ++ [v5]) := (RepL.snoc rl₅ r5).step st₆ (fun a q => q ▸ hD) h₅.pN
      have stD : Step F.P F.O σ₀ s₀ σ₅ { s₅ with heap := h' } := by
        exact (st'.trans st₅).over fun a e o => sb.extBut a o fun q => e.elim fun o e => by rw [q] at e; exact no_some hD0 e
      exact ⟨n - 1, by omega, k + 1, _, σ₅, ys ++ [e5], vs ++ [v5], n6, by omega, hlt, by simp; omega, stD, h₆, fun j hj => by unfold Vars.set; rw [if_neg hj], Wk.stays _ _ _ _ _ _ _ F.N (fun zz q => q) hN hJ₂ h₂ stN h₆ hok, g₆, rl₆, hrest⟩
  · have hk' : k = items.length := by omega
    subst hk'
    rw [List.drop_length] at hl
    refine Wk.done m₁ σ₁ s₁ _ _ h₁ hJ₁ fun s₂ ist => ?_
    exact ⟨σ₁, m₁, ys, vs, nn, ist.step new0 st₁, h₁.it its new hN ist, hm₁, ist.keep D _ wD g₁, rl₁.it its ist.keep, hl⟩
theorem CompOk.isV (c : CompOk F scope x i) {D C : Addr} : (compF c D C).sc.lookup x ≠ some .free ∧ IsV (compF c D C).tb (compF c D C).sc x i := by
  have e : (compF c D C).sc.lookup x = scope.names.lookup x := by
    show (relabel scope F.env).names.lookup x = _
    rw [relabel_names]
    rcases c.var with q | q <;> rw [relab_lookup q, q] <;> rfl
  rw [e]
  refine ⟨?_, c.ok, ?_, c.ix⟩
  · rcases c.var with q | q <;> rw [q] <;> simp
  · rw [e]; exact c.var.imp id .inl
theorem compT {psrc pelt : PySem.Expr} {pcs : List PySem.Expr} {px pos pos' : Pos} {src elt : E} {cs : List E} {X : Value → Shared → Prop} {K : List AV → Store → Prop} {use : Option (Value → Sem Unit)} {Q : Value → Shared → Prop} (c : CompOk F scope x i)
    (hsrc : CE F.tb F.sc psrc src) (hcs : CEs F.tb (relab F.sc scope.names) pcs cs) (helt : CE F.tb (relab F.sc scope.names) pelt elt) (hns : notSet psrc = true)
    (h : SrcT F m σ (.v i) src (fun items ok σ₁ => items.length ≤ big ∧ ∀ F' : Fx S, F'.tb = F.tb → F'.k = F.k → CompT F' i elt cs ok m K items [] σ₁) X) (hs : F.St m σ s)
    (fin : ∀ (D C : Addr) σb sb σ₁ s₁ m₁ ys vs n, Step F.P F.O σ s σb sb → F.St m σb sb → sb.heap.get? D = Option.none → sb.heap.get? C = Option.none → D ≠ C → CompNew F scope sb C → Step F.P (compF c D C).O σb sb σ₁ s₁ → (compF c D C).St m₁ σ₁ s₁ → (∀ j, j ≠ i → m₁ j = m j) →
      s₁.heap.get? D = some (lstObj (List.toArray vs) n) → RepL S.cv s₁.heap ((compF c D C).D σ₁) ys vs → K ys σ₁ → compPost (model prog w) F.A X use Q (.ref D) C (.ok .next) s₁) :
    wpAny (model prog w) F.A (comprehension (.ListComp pelt [⟨.Name x px, psrc, pcs, 0⟩] scope pos) scope F.env pos' (newList []) false (eval psrc F.env) use) Q X s := by
  refine wpAny_comprehension_free (use := use) rfl (folded_of hns) c.closure c.kind (fun q hq hl => by have := (c.names q hq).2; rw [hl] at this; exact this) ?_
  refine wpAny_mono (h psrc (.Name x px) hsrc trivial s hs) (fun xv s₁ h₁ => wpAny_mono h₁ ?_ fun zz zz e => e) fun zz zz e => e
  rintro it s₂ ⟨I, items, W, J, ok, σ₂, sm, rfl, wk, stm, hm, st, h₂, nw, mv, hlen, hcomp⟩
  have comp_in' := comp_in c h₂
  generalize hDD : s₂.heap.objs.size = D at comp_in'
  dsimp only at comp_in'
  refine wpAny_newObj_type ?_ (by size_fits)
  have hC : (s₂.heap.push { cls := .type "list", data := .seq ([] : List Value).toArray }).objs.size = D + 1 := by rw [← hDD]; exact Heap.size_push ..
  refine newEnv_comp ?_
  dsimp only
  rw [hC, hDD]
  show codeAny (model prog w) F.A (.compStart (.ListComp pelt [⟨.Name x px, psrc, pcs, 0⟩] scope pos) 0 (.ref I) (.ref D) (cEnv F scope (D + 1))) (compPost (model prog w) F.A X use Q (.ref D) (D + 1))
    { s₂ with heap := pushCells ((s₂.heap.push (lstObj #[] 0)).push { cls := .type "dict", data := .dict #[] }) scope.names }
  obtain ⟨h₄, st₄, g₄, cn, kp, hDN, hDO⟩ := comp_in'
  have its := (wk F).its 0 σ₂ s₂ mv.here
  have fD : s₂.heap.get? D = Option.none := by rw [← hDD]; exact get_size _
  have fC : s₂.heap.get? (D + 1) = Option.none := by
    cases q : s₂.heap.get? (D + 1) with
    | none => rfl
    | some o => exact absurd (Heap.lt_size q) (by rw [hDD]; exact Nat.not_lt.mpr (Nat.le_succ _))
  have sD := st.new fD
  have sC := st.new fC
  have cn0 : CompNew F scope sm (D + 1) := ⟨fun a q => (cn.out a q).imp id st.new⟩
  have Wb : ∀ a, W a → F.b.2.heap.get? a = Option.none := fun a q => hm.frm.new (nw a q)
  have WN : ∀ a, W a → ¬ (compF c D (D + 1)).N a := by
    rintro a q (z | z | z)
    · obtain ⟨o, e, nf⟩ := hm.inv.Nin a z; rw [nw a q] at e; cases e
    · obtain ⟨o, e, _⟩ := its a q; rw [z, fD] at e; cases e
    · rcases cn.out a z with ⟨y, _, hy⟩ | z
      · exact its.notOwn h₂ q (.inr ⟨y, hy⟩)
      · obtain ⟨o, e, _⟩ := its a q; rw [z] at e; cases e
  have Db : F.b.2.heap.get? D = Option.none := hm.frm.new sD
  have hJ := mv (compF c D (D + 1)) σ₂ { s₂ with heap := pushCells ((s₂.heap.push (lstObj #[] 0)).push { cls := .type "dict", data := .dict #[] }) scope.names } kp hDN fun zz zz e => e
  have scn : (compF c D (D + 1)).sc = relab F.sc scope.names := relabel_names F scope
  have st0 : Step F.P (compF c D (D + 1)).O σ₂ sm σ₂ { s₂ with heap := pushCells ((s₂.heap.push (lstObj #[] 0)).push { cls := .type "dict", data := .dict #[] }) scope.names } := (st.trans st₄).any
  have loop : codeAny (model prog w) F.A (.compLoop (.ListComp pelt [⟨.Name x px, psrc, pcs, 0⟩] scope pos) 0 (.ref I) (.ref D) (cEnv F scope (D + 1))) (compPost (model prog w) F.A X use Q (.ref D) (D + 1))
      { s₂ with heap := pushCells ((s₂.heap.push (lstObj #[] 0)).push { cls := .type "dict", data := .dict #[] }) scope.names } := by
    refine codeAny_mono (compLoopT (F := compF c D (D + 1)) (m := m) (σ₀ := σ₂) (s₀ := sm) (wk _) c.isV.1 c.isV.2 hlen (by rw [scn]; exact helt) (by rw [scn]; exact hcs) Wb WN (.inr (.inl rfl)) hDO (fun q => by obtain ⟨o, e, _⟩ := hm.inv.Nin D (hm.pN D q); rw [sD] at e; cases e) Db sD nw h₄ st0 (fun j hj => if_neg hj) g₄ hJ (hcomp _ rfl rfl)) fun r s' hr => ?_
    cases r with
    | error e => exact hr.elim
    | ok f =>
      obtain ⟨σ', m₁, ys, vs, n, st', h', hm₁, gD', rl', hK⟩ := hr
      have := fin D (D + 1) σ₂ sm σ' s' m₁ ys vs n stm hm sD sC (Nat.ne_of_lt (Nat.lt_succ_self D)) cn0 st' h' hm₁ gD' rl' hK
      cases use <;> exact this
  exact codeAny_compStart_list loop ((wk (compF c D (D + 1))).self 0 σ₂ _ _ _ hJ loop)
theorem ET.comp {src elt : E} {cs : List E} {X : Value → Shared → Prop} {Q : AV → Store → Prop}
    (h : SrcT F m σ (.v i) src (fun items ok σ₁ => items.length ≤ big ∧ ∀ F' : Fx S, F'.tb = F.tb → F'.k = F.k → CompT F' i elt cs ok m (fun ys σ₂ => Fresh σ₂ (.list ys) (.list ys) Q) items [] σ₁) X) : ET F m σ (.comp elt i src cs) Q X := by
  intro pe hc s hs
  obtain ⟨_, _, _, _, _, _, _, rfl, hkind, hvar, hns, hok, hnames, hsrc, hix, hcs, helt⟩ := hc.inv
  have c : CompOk F _ _ i := ⟨hkind, hvar, hok, hix, hnames⟩
  show wpAny _ _ (eval _ _) _ _ _
  rw [eval_ListComp]
  refine compT (K := fun ys σ₂ => Fresh σ₂ (.list ys) (.list ys) Q) c hsrc hcs helt hns h hs ?_
  intro D C σb sb σ₁ s₁ m₁ ys vs n stb hb hD hC hDC cn st h₁ hm₁ gD rl hK
  obtain ⟨mc, _, ns, _⟩ := h₁.loc
  refine ⟨mc, ns, fun h' sb' => ?_⟩
  obtain ⟨σ', st', h2, av, ra, q⟩ := comp_out c cn hb hD hC hDC st h₁ hm₁ sb' gD rl (Np := F.N) (fun b q => .inl q) (fun b q => q) (fun q => by obtain ⟨o, e, nf⟩ := hb.inv.Nin C q; rw [hC] at e; cases e) hK
  exact ⟨σ', stb.trans st', h2, av, ra, q⟩
end
end Mine
end
section
namespace Mine
open PySem PyProof.Rows PySem.W
variable {prog : Program} {w : World} {S : Sta prog w}
inductive Ty where
  | none | bool | int | str | tup | list | dict
  deriving DecidableEq
noncomputable def Ty.name : Ty → String
  | .none => "NoneType"
  | .bool => "bool"
  | .int => "int"
  | .str => "str"
  | .tup => "tuple"
  | .list => "list"
  | .dict => "dict"
noncomputable def tyA (σ : Store) : AV → Option Ty
  | .none => some .none
  | .bool _ => some .bool
  | .int _ => some .int
  | .str _ => some .str
  | .tup _ => some .tup
  | .list _ => some .list
  | .dict _ => some .dict
  | .loc a => match σ a with
    | some (.list _) => some .list
    | some (.dict _) => some .dict
    | _ => Option.none
  | _ => Option.none
noncomputable def isT (t u : Ty) : Bool := t == u || (t == .bool && u == .int)
section
variable {F : Fx S} {m : Vars} {σ : Store} {s : Shared} {X : Value → Shared → Prop} {Q : AV → Store → Prop}
theorem rep_ty {a : AV} {v : Value} {t : Ty} (r : Rep S.cv s.heap (F.D σ) a v) (hs : F.St m σ s) (h : tyA σ a = some t) : match t with
    | .none => v = .none
    | .bool => ∃ b, v = .bool b
    | .int => ∃ n u, v = .int n u
    | .str => ∃ x u, v = .str x u
    | .tup => ∃ ad o, v = .ref ad ∧ s.heap.get? ad = some o ∧ o.cls = .type "tuple"
    | .list => ∃ ad o, v = .ref ad ∧ s.heap.get? ad = some o ∧ o.cls = .type "list"
    | .dict => ∃ ad o, v = .ref ad ∧ s.heap.get? ad = some o ∧ o.cls = .type "dict" := by
  cases a with
  | none => obtain rfl := Option.some.inj h; exact r.inv
  | bool b => obtain rfl := Option.some.inj h; exact ⟨_, r.inv⟩
  | int n => obtain rfl := Option.some.inj h; exact ⟨n, r.inv⟩
  | str x => obtain rfl := Option.some.inj h; exact ⟨x, r.inv⟩
  | tup l => obtain rfl := Option.some.inj h; obtain ⟨a, b, c, e, f, _⟩ := r.inv; exact ⟨a, _, e, f, rfl⟩
  | list l => obtain rfl := Option.some.inj h; obtain ⟨a, b, c, e, f, _⟩ := r.inv; exact ⟨a, _, e, f, rfl⟩
  | dict l => obtain rfl := Option.some.inj h; obtain ⟨a, b, c, e, f, _⟩ := r.inv; exact ⟨a, _, e, f, rfl⟩
  | loc ad =>
    unfold tyA at h
    dsimp only at h
    cases e : σ ad with
    | none => rw [e] at h; cases h
    | some o =>
      rw [e] at h
      cases o with
      | list l' => obtain rfl := Option.some.inj h; obtain ⟨vs, n, g, q⟩ := (hs.inv.rep ad _ e).inv; exact ⟨ad, _, r.inv, g, rfl⟩
      | dict l' => obtain rfl := Option.some.inj h; obtain ⟨vs, n, g, q⟩ := (hs.inv.rep ad _ e).inv; exact ⟨ad, _, r.inv, g, rfl⟩
      | _ => exact (no_some rfl h).elim
  | _ => exact (no_some rfl h).elim
theorem CT.isinst {a : AV} {j : Nat} {t u : Ty} (ha : tyA σ a = some t) (hj : S.cv j = .type u.name) (hu : u ≠ .none) (h : Q (.bool (isT t u)) σ) : CT F m σ (.builtin "isinstance") [a, .cls j] Q X := by
  intro vals s hs r
  obtain ⟨v, c, rfl, ra, rc⟩ := r.two
  have hc : c = .type u.name := rc.inv.trans hj
  subst hc
  have q := rep_ty ra hs ha
  cases t with
  | none =>
    subst q
    cases u with
    | none => exact absurd rfl hu
    | bool => exact PySem.IsiPair.NoneType_bool (nowT _ hs (.bool _) h)
    | int => exact PySem.IsiPair.NoneType_int (nowT _ hs (.bool _) h)
    | str => exact PySem.IsiPair.NoneType_str (nowT _ hs (.bool _) h)
    | tup => exact PySem.IsiPair.NoneType_tuple (nowT _ hs (.bool _) h)
    | list => exact PySem.IsiPair.NoneType_list (nowT _ hs (.bool _) h)
    | dict => exact PySem.IsiPair.NoneType_dict (nowT _ hs (.bool _) h)
  | bool =>
    obtain ⟨b, rfl⟩ := q
    cases u with
    | none => exact absurd rfl hu
    | bool => exact PySem.IsiPair.bool_bool (now hs (.bool _) h)
    | int => exact PySem.IsiPair.bool_int (now hs (.bool _) h)
    | str => exact PySem.IsiPair.bool_str (nowT _ hs (.bool _) h)
    | tup => exact PySem.IsiPair.bool_tuple (nowT _ hs (.bool _) h)
    | list => exact PySem.IsiPair.bool_list (nowT _ hs (.bool _) h)
    | dict => exact PySem.IsiPair.bool_dict (nowT _ hs (.bool _) h)
  | int =>
    obtain ⟨n, k, rfl⟩ := q
    cases u with
    | none => exact absurd rfl hu
    | bool => exact PySem.IsiPair.int_bool (nowT _ hs (.bool _) h)
    | int => exact PySem.IsiPair.int_int (now hs (.bool _) h)
    | str => exact PySem.IsiPair.int_str (nowT _ hs (.bool _) h)
    | tup => exact PySem.IsiPair.int_tuple (nowT _ hs (.bool _) h)
    | list => exact PySem.IsiPair.int_list (nowT _ hs (.bool _) h)
    | dict => exact PySem.IsiPair.int_dict (nowT _ hs (.bool _) h)
  | str =>
    obtain ⟨x, k, rfl⟩ := q
    cases u with
    | none => exact absurd rfl hu
    | bool => exact PySem.IsiPair.str_bool (nowT _ hs (.bool _) h)
    | int => exact PySem.IsiPair.str_int (nowT _ hs (.bool _) h)
    | str => exact PySem.IsiPair.str_str (now hs (.bool _) h)
    | tup => exact PySem.IsiPair.str_tuple (nowT _ hs (.bool _) h)
    | list => exact PySem.IsiPair.str_list (nowT _ hs (.bool _) h)
    | dict => exact PySem.IsiPair.str_dict (nowT _ hs (.bool _) h)
  | tup =>
    obtain ⟨ad, o, rfl, e, hc⟩ := q
    cases u with
    | none => exact absurd rfl hu
    | bool => exact PySem.IsiPair.tuple_bool e hc (nowT _ hs (.bool _) h)
    | int => exact PySem.IsiPair.tuple_int e hc (nowT _ hs (.bool _) h)
    | str => exact PySem.IsiPair.tuple_str e hc (nowT _ hs (.bool _) h)
    | tup => exact PySem.IsiPair.tuple_tuple e hc (now hs (.bool _) h)
    | list => exact PySem.IsiPair.tuple_list e hc (nowT _ hs (.bool _) h)
    | dict => exact PySem.IsiPair.tuple_dict e hc (nowT _ hs (.bool _) h)
  | list =>
    obtain ⟨ad, o, rfl, e, hc⟩ := q
    cases u with
    | none => exact absurd rfl hu
    | bool => exact PySem.IsiPair.list_bool e hc (nowT _ hs (.bool _) h)
    | int => exact PySem.IsiPair.list_int e hc (nowT _ hs (.bool _) h)
    | str => exact PySem.IsiPair.list_str e hc (nowT _ hs (.bool _) h)
    | tup => exact PySem.IsiPair.list_tuple e hc (nowT _ hs (.bool _) h)
    | list => exact PySem.IsiPair.list_list e hc (now hs (.bool _) h)
    | dict => exact PySem.IsiPair.list_dict e hc (nowT _ hs (.bool _) h)
  | dict =>
    obtain ⟨ad, o, rfl, e, hc⟩ := q
    cases u with
    | none => exact absurd rfl hu
    | bool => exact PySem.IsiPair.dict_bool e hc (nowT _ hs (.bool _) h)
    | int => exact PySem.IsiPair.dict_int e hc (nowT _ hs (.bool _) h)
    | str => exact PySem.IsiPair.dict_str e hc (nowT _ hs (.bool _) h)
    | tup => exact PySem.IsiPair.dict_tuple e hc (nowT _ hs (.bool _) h)
    | list => exact PySem.IsiPair.dict_list e hc (nowT _ hs (.bool _) h)
    | dict => exact PySem.IsiPair.dict_dict e hc (now hs (.bool _) h)
theorem ET.cls {j : Nat} (hg : Glob S j (S.cv j)) (h : Q (.cls j) σ) : ET F m σ (.g j) Q X := by
  intro pe hc s hs
  obtain ⟨_, _, rfl, hx⟩ := hc.inv
  exact load_g hx hg hs (now hs (.cls j) h)
theorem CT.lenTup {l : List AV} (hz : l.length ≤ big) (h : Q (.int l.length) σ) : CT F m σ (.builtin "len") [.tup l] Q X := by
  intro vals s hs r
  obtain ⟨v, rfl, ra⟩ := r.one
  · obtain ⟨ad, vs, n, rfl, e, d, rl⟩ := ra.inv
    have ht : IsTup s.heap ad vs.toArray := ⟨_, e, rfl, n, rfl⟩
    refine len_tuple ht (by rw [List.size_toArray, rl.length]; exact Int.not_le.mp (big_63 hz)) ?_
    rw [List.size_toArray, rl.length]
    exact nowT _ hs (.int _ _) h
theorem CT.lenDict {a : AV} {l : List (Spot × AV)} (ha : dd σ a = some l) (hz : l.length ≤ big) (h : Q (.int l.length) σ) : CT F m σ (.builtin "len") [a] Q X := by
  intro vals s hs r
  obtain ⟨v, rfl, ra⟩ := r.one
  obtain ⟨ad, es, n, rfl, e, sm, rd⟩ := ra.dctE hs ha
  have e' : s.heap.get? ad = some (dctObj es.toArray n) := e
  refine call_len_slot (n := l.length) e.typeIs PySem.F.slot_dict_len (fun Q' hq => ?_) (by omega) (big_63 hz) (nowT _ hs (.int _ _) h)
  refine wpAny_call_entry PySem.F.slot_dict_len (s := s) ⟨_, e', rfl⟩ PySem.F.entry_dict_len ?_ (PySem.F.args_dict_len_1 _)
  show wpAny _ _ (dictSize ad >>= _) _ _ s
  unfold dictSize
  refine wpAny_bind (wpAny_bind (wpAny_dictEntries e' rfl (wpAny_pure ?_)))
  show wpAny _ _ (Builtin.Dict.pendingCount ad >>= _) _ _ s
  refine wpAny_bind (wpAny_pendingCount_other sm ?_)
  refine wpAny_bind (wpAny_mkInt (wpAny_pure ⟨_, rfl, ?_⟩))
  have hl : es.toArray.size = l.length := by rw [List.size_toArray, rd.length]
  rw [hl, Nat.add_zero]
  exact hq
theorem CT.max2 (hq : S.hx = Option.none) {a b : Int} (h : Q (.int (if b > a then b else a)) σ) : CT F m σ (.builtin "max") [.int a, .int b] Q X := by
  intro vals s hs r
  obtain ⟨v, u, rfl, ra, rb⟩ := r.two
  obtain ⟨_, rfl⟩ := ra.inv
  obtain ⟨_, rfl⟩ := rb.inv
  refine max_two_ints (F.room.quiet hq) fun h' tk k => ?_
  obtain ⟨h1, st⟩ := hs.grow k tk
  by_cases c : b > a
  · rw [if_pos c] at h ⊢; exact ⟨σ, st.any, h1, _, .int _ _, h⟩
  · rw [if_neg c] at h ⊢; exact ⟨σ, st.any, h1, _, .int _ _, h⟩
theorem CT.min2 (hq : S.hx = Option.none) {a b : Int} (h : Q (.int (if b < a then b else a)) σ) : CT F m σ (.builtin "min") [.int a, .int b] Q X := by
  intro vals s hs r
  obtain ⟨v, u, rfl, ra, rb⟩ := r.two
  obtain ⟨_, rfl⟩ := ra.inv
  obtain ⟨_, rfl⟩ := rb.inv
  refine min_two_ints (F.room.quiet hq) fun h' tk k => ?_
  obtain ⟨h1, st⟩ := hs.grow k tk
  by_cases c : b < a
  · rw [if_pos c] at h ⊢; exact ⟨σ, st.any, h1, _, .int _ _, h⟩
  · rw [if_neg c] at h ⊢; exact ⟨σ, st.any, h1, _, .int _ _, h⟩
theorem CT.listList {a : AV} {l : List AV} (ha : dl σ a = some l) (hz : l.length ≤ big) (h : Fresh σ (.list l) (.list l) Q) : CT F m σ (.type "list") [a] Q X := by
  intro vals s hs r
  obtain ⟨v, rfl, ra⟩ := r.one
  obtain ⟨ad, vs, n, rfl, e, rl⟩ := ra.lst hs.inv ha
  refine call_list_seq ad (T := "list") (.inl rfl) e rfl rfl (fun h' c' k e' => fresh_list (tk := s.toks) hs k (get_size _) e' rl h) (by rw [List.size_toArray, rl.length]; exact big_ok hz)
theorem CT.listTup {l : List AV} (hz : l.length ≤ big) (h : Fresh σ (.list l) (.list l) Q) : CT F m σ (.type "list") [.tup l] Q X := by
  intro vals s hs r
  obtain ⟨v, rfl, ra⟩ := r.one
  · obtain ⟨ad, vs, n, rfl, e, d, rl⟩ := ra.inv
    exact call_list_seq ad (T := "tuple") (.inr rfl) e rfl rfl (fun h' c' k e' => fresh_list (tk := s.toks) hs k (get_size _) e' rl h) (by rw [List.size_toArray, rl.length]; exact big_ok hz)
theorem CT.tupList {a : AV} {l : List AV} (ha : dl σ a = some l) (hz : l.length ≤ big) (h : Q (.tup l) σ) : CT F m σ (.type "tuple") [a] Q X := by
  intro vals s hs r
  obtain ⟨v, rfl, ra⟩ := r.one
  obtain ⟨ad, vs, n, rfl, e, rl⟩ := ra.lst hs.inv ha
  refine call_tuple_list ⟨_, e, rfl, n, rfl⟩ (fun h' k => ?_) (by rw [List.size_toArray, rl.length]; exact big_ok hz)
  have hn : s.heap.get? h'.objs.size = Option.none := by
    cases q : s.heap.get? h'.objs.size with
    | none => rfl
    | some o => exact absurd (Heap.lt_size (k _ _ q)) (Nat.lt_irrefl _)
  exact new_tuple (tk := s.toks) hs (fun b o e => Heap.get?_push_of_some _ (k b o e)) hn (Heap.get?_push_size _ rfl) rl h
theorem BT.mulList {a : AV} {l : List AV} {x : Int} (ha : dl σ a = some l) (h0 : 0 ≤ x) (hz : l.length * x.toNat ≤ 1000000) (hx : x < 1000000) (h : Fresh σ (.list (List.replicate x.toNat l).flatten) (.list (List.replicate x.toNat l).flatten) Q) : BT F m σ .Mult a (.int x) Q X := by
  intro va vb s hs ra rb
  obtain ⟨u, rfl⟩ := rb.inv
  obtain ⟨ad, vs, k, rfl, hl, rl⟩ := ra.lst hs.inv ha
  have hsz : vs.toArray.size * x.toNat ≤ 2 ^ 24 := by rw [List.size_toArray, rl.length]; exact Nat.le_trans hz (by decide)
  have hlo : -(2 ^ 63 : Int) ≤ x := Int.le_trans (by decide) h0
  have hhi := lt_63 hx
  refine wpAny_binaryOp_repeat_ref (T := "list") (U := "int") (by decide) ⟨_, hl, rfl⟩ (fun s' => typeIs_int s' x u) noFill_list_mul PySem.F.fills_int_mul PySem.F.slot_int_rmul repeat_list PySem.F.slot_int_index.lookup
    (call_meets PySem.F.slot_int_rmul (typeIs_int s x u) PySem.F.entry_int_rmul (PySem.F.args_int_rmul_2 _ _) (int___rmul___int_list x u ad vs.toArray k)
      ⟨hl, rfl, ⟨_, hl, rfl⟩, call_meets PySem.F.slot_list_mul ⟨_, hl, rfl⟩ PySem.F.entry_list_mul (PySem.F.args_list_mul_2 _ _)
        (AutoListH.list___mul___list_int_3 ad vs.toArray k x u (by simp [Builtin.List.listFitsIndex]; omega) (by omega) (by simp [Builtin.List.listTooLong, sizeLine] at hsz ⊢; omega))
        ⟨hl, ?_⟩⟩)
  have e1 : List.foldl (fun x1 x2 => x1 ++ x2) #[] (List.replicate (if vs.toArray.isEmpty = true then 0 else x.toNat) vs.toArray) = ((List.replicate x.toNat vs).flatten).toArray := by
    have gen : ∀ (n : Nat) (acc : List Value), List.foldl (fun x1 x2 => x1 ++ x2) acc.toArray (List.replicate n vs.toArray) = (acc ++ (List.replicate n vs).flatten).toArray := by
      intro n
      induction n with
      | zero => intro acc; simp
      | succ n ih => intro acc; rw [List.replicate_succ, List.replicate_succ, List.foldl_cons, List.flatten_cons, show acc.toArray ++ vs.toArray = (acc ++ vs).toArray by simp, ih]; simp
    cases vs with
    | nil => simp
    | cons v vs => simp only [List.isEmpty_toArray, List.isEmpty_cons, Bool.false_eq_true, if_false]; have := gen x.toNat []; simpa using this
  have rr : ∀ n, RepL S.cv s.heap (F.D σ) (List.replicate n l).flatten (List.replicate n vs).flatten := by
    intro n
    induction n with
    | zero => exact .nil
    | succ n ih => rw [List.replicate_succ, List.replicate_succ, List.flatten_cons, List.flatten_cons]; exact rl.app ih
  rw [e1]
  exact fresh_list (tk := s.toks) hs (push_keeps _ _) (get_size _) (Heap.get?_push_size _ rfl) (rr _) h
noncomputable def seqPy (σ : Store) (a : AV) : Option (List PyData) := match toPyS σ a with
  | some (.list xs) => some xs
  | some (.tuple xs) => some xs
  | _ => Option.none
set_option tactic.hygienic true in
theorem KT.inSeq {a b : AV} {d : PyData} {xs : List PyData} {Q : Bool → Store → Prop} (ha : toPyS σ a = some d) (hb : seqPy σ b = some xs) (sx : PyData.canLayAll0 xs = true) (sd : d.canLay0 = true) (hdp : d.depth ≤ 100) (h : Q (xs.any fun y => PyData.eqv y d) σ) : KT F m σ .In a b Q X := by
  intro va vb s hs ra rb
  obtain ⟨as, r1⟩ := ra.readsS hs.inv ha
  unfold seqPy at hb
  have hu : F.A.units + 1 + min (PyData.depthAll xs) d.depth < cLine := by have := F.room.un; unfold cLine; omega
  split at hb
  · rename_i ys e
    cases hb
    obtain ⟨bs, r2⟩ := rb.readsS hs.inv e
    exact PySem.SeqAt.in_list_reads r2 r1 sx sd hu ⟨σ, Step.refl _ _ _ _, hs, _, rfl, h⟩
  · rename_i ys e
    cases hb
    obtain ⟨bs, r2⟩ := rb.readsS hs.inv e
    exact PySem.SeqAt.in_tuple_reads r2 r1 sx sd hu ⟨σ, Step.refl _ _ _ _, hs, _, rfl, h⟩
  · cases hb
set_option tactic.hygienic true in
theorem KT.notInSeq {a b : AV} {d : PyData} {xs : List PyData} {Q : Bool → Store → Prop} (ha : toPyS σ a = some d) (hb : seqPy σ b = some xs) (sx : PyData.canLayAll0 xs = true) (sd : d.canLay0 = true) (hdp : d.depth ≤ 100) (h : Q (!xs.any fun y => PyData.eqv y d) σ) : KT F m σ .NotIn a b Q X := by
  intro va vb s hs ra rb
  obtain ⟨as, r1⟩ := ra.readsS hs.inv ha
  unfold seqPy at hb
  have hu : F.A.units + 1 + min (PyData.depthAll xs) d.depth < cLine := by have := F.room.un; unfold cLine; omega
  split at hb
  · rename_i ys e
    cases hb
    obtain ⟨bs, r2⟩ := rb.readsS hs.inv e
    exact PySem.SeqAt.notIn_list_reads r2 r1 sx sd hu ⟨σ, Step.refl _ _ _ _, hs, _, rfl, h⟩
  · rename_i ys e
    cases hb
    obtain ⟨bs, r2⟩ := rb.readsS hs.inv e
    exact PySem.SeqAt.notIn_tuple_reads r2 r1 sx sd hu ⟨σ, Step.refl _ _ _ _, hs, _, rfl, h⟩
  · cases hb
theorem KT.inStr {x y : Str} {Q : Bool → Store → Prop} (h : Q (Txt.contains x y) σ) : KT F m σ .In (.str y) (.str x) Q X := by
  intro va vb s hs ra rb
  obtain ⟨_, rfl⟩ := ra.inv
  obtain ⟨_, rfl⟩ := rb.inv
  exact SB.contains ⟨σ, Step.refl _ _ _ _, hs, _, rfl, h⟩
theorem KT.notInDict {k : Spot} {b : AV} {l : List (Spot × AV)} {Q : Bool → Store → Prop} (hb : dd σ b = some l) (h : Q (!(dget l k).isSome) σ) : KT F m σ .NotIn (sp k) b Q X := by
  intro va vb s hs ra rb
  obtain ⟨t, tx, ty, n, rfl, e, d⟩ := ra.spot
  obtain ⟨ad, es, n', rfl, e', sm, nd, rd⟩ := rb.dct hs.inv hb
  obtain ⟨xs, hx, rfl⟩ := RepD.xs (prog := prog) (w := w) rd
  have q := hx.at_ k
  refine wpAny_notIn_heap (room_in1 F) (isKey e) sm (dictH hx nd e') ⟨σ, Step.toks _ _ _ _ _, hs.tok _, _, rfl, ?_⟩
  have : (atKey xs (key k)).isSome = (dget l k).isSome := by
    revert q
    cases dget l k <;> cases atKey xs (key k) <;> simp
  rw [this]; exact h
end
end Mine
end
section
namespace Mine
open PySem PyProof.Rows PySem.W
variable {prog : Program} {w : World} {S : Sta prog w}
structure Meth (nm : Str) (T id : String) : Prop where
  pa : PlainAttrs T
  slot : Slot T nm id
  ty : typeOf (.builtin id) = pure (.type "method_descriptor")
section
variable {F : Fx S} {m : Vars} {σ : Store} {s : Shared} {X : Value → Shared → Prop} {Q : AV → Store → Prop} {K : Fl → Vars → Store → Prop}
theorem rep_obj {a : AV} {v : Value} {t : Ty} (r : Rep S.cv s.heap (F.D σ) a v) (hs : F.St m σ s) (h : tyA σ a = some t) : s.TypeIs v t.name ∧ ∀ b, v = .ref b → ∃ ob, s.heap.get? b = some ob ∧ ob.dict = none := by
  cases a with
  | none => obtain rfl := Option.some.inj h; rw [show v = .none from r.inv]; exact ⟨rfl, nofun⟩
  | bool b => obtain rfl := Option.some.inj h; rw [show v = .bool b from r.inv]; exact ⟨rfl, nofun⟩
  | int n => obtain rfl := Option.some.inj h; obtain ⟨u, rfl⟩ := r.inv; exact ⟨rfl, nofun⟩
  | str x => obtain rfl := Option.some.inj h; obtain ⟨u, rfl⟩ := r.inv; exact ⟨rfl, nofun⟩
  | tup l => obtain rfl := Option.some.inj h; obtain ⟨a, b, c, rfl, f, _⟩ := r.inv; exact ⟨⟨_, f, rfl⟩, fun zz q => Value.ref.inj q ▸ ⟨_, f, rfl⟩⟩
  | list l => obtain rfl := Option.some.inj h; obtain ⟨a, b, c, rfl, f, _⟩ := r.inv; exact ⟨⟨_, f, rfl⟩, fun zz q => Value.ref.inj q ▸ ⟨_, f, rfl⟩⟩
  | dict l => obtain rfl := Option.some.inj h; obtain ⟨a, b, c, rfl, f, _⟩ := r.inv; exact ⟨⟨_, f, rfl⟩, fun zz q => Value.ref.inj q ▸ ⟨_, f, rfl⟩⟩
  | loc ad =>
    rw [show v = .ref ad from r.inv]
    unfold tyA at h
    dsimp only at h
    cases e : σ ad with
    | none => rw [e] at h; cases h
    | some o =>
      rw [e] at h
      cases o with
      | list l' => obtain rfl := Option.some.inj h; obtain ⟨vs, n, f, q⟩ := (hs.inv.rep ad _ e).inv; exact ⟨⟨_, f, rfl⟩, fun zz q => Value.ref.inj q ▸ ⟨_, f, rfl⟩⟩
      | dict l' => obtain rfl := Option.some.inj h; obtain ⟨vs, n, f, q⟩ := (hs.inv.rep ad _ e).inv; exact ⟨⟨_, f, rfl⟩, fun zz q => Value.ref.inj q ▸ ⟨_, f, rfl⟩⟩
      | _ => exact (no_some rfl h).elim
  | _ => exact (no_some rfl h).elim
theorem base_of {o : PySem.Expr} {nm : Str} {env : Env} {x : Sem Value} (h : notSuper o = true) : attributeBase o nm env x = x := by
  unfold attributeBase
  split
  · simp [notSuper] at h
  · rfl
theorem callForm {pos : Pos} {pes : List PySem.Expr} {es : List E} (hc : CEs F.tb F.sc pes es) (hl : pes.length < 29) : ((backTo pos (starEach pes F.env)).all (fun x => !x.1) && (backToKw pos (keywordEach [] F.env)).all (fun x => x.1.isSome)
      && decide (pes.length + ([] : List Keyword).length + (if ([] : List Keyword).isEmpty then 0 else 1) < 30)) = true := by
  have h1 : (backTo pos (starEach pes F.env)).all (fun x => !x.1) = true := by
    have := noStars (pos := pos) hc
    rw [List.all_eq_true]
    intro x hx
    rw [List.any_eq_false] at this
    have := this x hx
    simpa using this
  have h2 : (backToKw pos (keywordEach [] F.env)).all (fun x => x.1.isSome) = true := rfl
  rw [h1, h2]
  simp
  omega
noncomputable def ArgsT (F : Fx S) (m : Vars) (σ : Store) (es : List E) (P : List AV → Store → Prop) (X : Value → Shared → Prop) : Prop := match es with
  | [] => P [] σ
  | es => EsT F m σ es P X
theorem ET.meth {o : E} {n : Nat} {nm : Str} {args : List E} {t : Ty} {id : String} (hn : ixS AT nm = some n) (hm : Meth nm t.name id)
    (h : ET F m σ o (fun a σ₁ => tyA σ₁ a = some t ∧ ArgsT F m σ₁ args (fun avs σ₂ => CT F m σ₂ (.builtin id) (a :: avs) Q X) X) X) : ET F m σ (.meth o n args) Q X := by
  intro pe hc s hs
  obtain ⟨po, a, ap, pargs, p, rfl, hsup, hline, hlen, ho, hk, ha⟩ := hc.inv
  have : a = nm := ixS_inj hk hn
  subst this
  refine wpAny_Call_method_lateS (base_of hsup) (callForm ha hlen) (by simpa using hline) ((h _ ho s hs).out ?_)
  rintro ov σ₁ s₁ st₁ h₁ ⟨av, ra, hty, hargs⟩
  obtain ⟨hT, hd⟩ := rep_obj ra h₁ hty
  refine ⟨t.name, id, hm.pa, hm.slot, hm.ty, hT, fun b e => hd b e, ?_⟩
  cases ha with
  | nil =>
    refine callWithT0 (Callable.builtin id) h₁ ?_
    exact (hargs [ov] s₁ h₁ (.cons ra .nil)).later st₁
  | cons hn1 he1 hr1 =>
    refine callWithT (.cons hn1 he1 hr1) (Callable.builtin id) hargs h₁ ?_
    intro vals avs σ₂ s₂ st₂ h₂ rl q
    exact (q (ov :: vals) s₂ h₂ (.cons (ra.st st₂ h₂) rl)).later (st₁.trans st₂)
theorem ix_append : ixS AT "append" = some 0 := by decide +kernel
theorem ix_pop : ixS AT "pop" = some 1 := by decide +kernel
theorem ix_join : ixS AT "join" = some 8 := by decide +kernel
theorem meth_append : Meth "append" (Ty.name .list) "list.append" := ⟨PySem.F.plainAttrs_list, PySem.F.slot_list_append, PySem.F.type_list_append⟩
theorem meth_pop : Meth "pop" (Ty.name .list) "list.pop" := ⟨PySem.F.plainAttrs_list, PySem.F.slot_list_pop, PySem.F.type_list_pop⟩
theorem meth_join : Meth "join" (Ty.name .str) "str.join" := ⟨PySem.F.plainAttrs_str, PySem.F.slot_str_join, PySem.F.type_str_join⟩
theorem upd_list {ad : Addr} {l l' : List AV} {h' : Heap} {vs : List Value} {n : Nat} {s' : Shared} (hs : F.St m σ s) (ho : σ ad = some (.list l)) (k : Heap.ExtBut ad s.heap h') (e : h'.get? ad = some (lstObj vs.toArray n)) (r : RepL S.cv s.heap (F.D σ) l' vs) :
    F.St m (σ.set ad (.list l')) { s with heap := h' } ∧ Step F.P F.O σ s (σ.set ad (.list l')) { s with heap := h' } := by
  have da : Dom σ ad := by unfold Dom; rw [ho]; simp
  have e0 : Ext (F.D σ) s.heap h' := Ext.of_but fun b o d e => k b o (fun q => d (.inl (q ▸ da))) e
  obtain ⟨h1, st⟩ := hs.upd (h' := h') da (fun c o ne e => k c o ne e) s.toks (o := .list l') (.list e (r.ext e0 fun b q => .inl (q.imp (fun q => (dom_set q).elim (fun (q : b = ad) => by rw [q]; exact da) id) id)))
  exact ⟨h1, st.any⟩
theorem CT.append {ad : Addr} {l : List AV} {x : AV} (ho : σ ad = some (.list l)) (hz : l.length ≤ big) (h : Q .none (σ.set ad (.list (l ++ [x])))) : CT F m σ (.builtin "list.append") [.loc ad, x] Q X := by
  intro vals s hs r
  obtain ⟨v, u, rfl, ra, rx⟩ := r.two
  obtain ⟨ad', vs, n, rfl, e, rl⟩ := ra.lst hs.inv (dl_loc ho)
  obtain rfl := (Value.ref.inj ra.inv).symm
  refine wpAny_list_append_plain (items := vs.toArray) ⟨n, e⟩ (fun h' pl sb => ?_) (by rw [List.size_toArray, rl.length]; exact big_ok hz)
  obtain ⟨n', e'⟩ := pl
  have ee : vs.toArray.push u = (vs ++ [u]).toArray := by simp
  rw [ee] at e'
  obtain ⟨h1, st⟩ := upd_list (s' := s) hs ho sb.extBut e' (rl.snoc rx)
  exact ⟨_, st, h1, _, .none, h⟩
theorem RepL.dropLast {cv : Nat → Value} {h : Heap} {D : Addr → Prop} {l : List AV} {vs : List Value} (r : RepL cv h D l vs) : RepL cv h D l.dropLast vs.dropLast := by
  rw [List.dropLast_eq_take, List.dropLast_eq_take, r.length]
  exact r.take _
theorem CT.pop {ad : Addr} {l : List AV} {x : AV} (ho : σ ad = some (.list l)) (hx : l.getLast? = some x) (hz : l.length ≤ big) (h : Q x (σ.set ad (.list l.dropLast))) : CT F m σ (.builtin "list.pop") [.loc ad] Q X := by
  intro vals s hs r
  obtain ⟨v, rfl, ra⟩ := r.one
  obtain ⟨ad', vs, n, rfl, e, rl⟩ := ra.lst hs.inv (dl_loc ho)
  obtain rfl := (Value.ref.inj ra.inv).symm
  have hx' : l[l.length - 1]? = some x := by rw [← List.getLast?_eq_getElem?]; exact hx
  obtain ⟨u, hu, ru⟩ := rl.get hx'
  have hy : vs.toArray[vs.toArray.size - 1]? = some u := by rw [List.size_toArray, rl.length]; simpa using hu
  refine call_meets PySem.F.slot_list_pop ⟨_, e, rfl⟩ PySem.F.entry_list_pop (PySem.F.args_list_pop_1 _) (PySem.MeetsSeq.list_pop_last ad vs.toArray n u hy (by rw [List.size_toArray, rl.length]; exact big_ok hz)) ⟨e, ?_⟩
  have hne : vs ≠ [] := by rintro rfl; simp at hy
  have ee : vs.toArray.eraseIdxIfInBounds (vs.toArray.size - 1) = vs.dropLast.toArray := by
    have hlt : vs.length - 1 < vs.length := by have := List.length_pos_iff.mpr hne; omega
    simp only [List.size_toArray, Array.eraseIdxIfInBounds, List.size_toArray, hlt, dif_pos]
    simp [List.eraseIdx_length_sub_one]
  have hk : Heap.ExtBut ad s.heap (s.heap.update ad (Obj.mapSeq fun xs => xs.eraseIdxIfInBounds (vs.toArray.size - 1))) := (Heap.SameBut.update ..).extBut
  have ms : Obj.mapSeq (fun xs => xs.eraseIdxIfInBounds (vs.toArray.size - 1)) (lstObj vs.toArray n) = lstObj vs.dropLast.toArray (if (vs.dropLast.toArray.size == vs.toArray.size) then n else n + 1) := by
    simp only [Obj.mapSeq, ee]
  have e' := Heap.get?_update_self (Obj.mapSeq fun xs => xs.eraseIdxIfInBounds (vs.toArray.size - 1)) e (by rw [ms]; rfl)
  rw [ms] at e'
  obtain ⟨h1, st⟩ := upd_list (s' := s) hs ho hk e' rl.dropLast
  exact ⟨_, st, h1, _, ru.st st h1, h⟩
noncomputable def dset (l : List (Spot × AV)) (k : Spot) (x : AV) : List (Spot × AV) := if (dget l k).isSome then l.map (fun p => if p.1 = k then (k, x) else p) else l ++ [(k, x)]
theorem atKey_dget {cv : Nat → Value} {h : Heap} {D : Addr → Prop} {l : List (Spot × AV)} {xs : List (List Int × Addr × Value)} (r : XsOf cv h D l xs) (k : Spot) : (atKey xs (key k)).isSome = (dget l k).isSome := by
  have q := r.at_ k
  revert q
  cases dget l k <;> cases atKey xs (key k) <;> simp
theorem XsOf.put {cv : Nat → Value} {h : Heap} {D : Addr → Prop} {k : Spot} {x : AV} {v : Value} (rv : Rep cv h D x v) {l : List (Spot × AV)} {xs : List (List Int × Addr × Value)} (r : XsOf cv h D l xs) : XsOf cv h D (l.map (fun p => if p.1 = k then (k, x) else p)) (xs.map (putAt (key k) v)) := by
  induction r with
  | nil => exact .nil
  | @cons k' x' l t _ _ _ v' xs e d r rs ih =>
    rw [List.map_cons, List.map_cons]
    by_cases q : k' = k
    · subst q
      have : putAt (key k') v (key k', t, v') = (key k', t, v) := by simp [putAt]
      rw [this]
      simp only [if_true]
      exact .cons e d rv ih
    · have q' : ¬ key k' = key k := fun z => q (key_inj z)
      have : putAt (key k) v (key k', t, v') = (key k', t, v') := by simp [putAt, q']
      rw [this]
      simp only [if_neg q]
      exact .cons e d r ih
theorem XsOf.snoc {cv : Nat → Value} {h : Heap} {D : Addr → Prop} {k : Spot} {x : AV} {t : Addr} {tx ty : Tok} {n : Nat} {v : Value} (e : h.get? t = some (tupObj #[.int k.1 tx, .int k.2 ty] n)) (d : ¬ D t) (rv : Rep cv h D x v) :
    ∀ {l : List (Spot × AV)} {xs : List (List Int × Addr × Value)}, XsOf cv h D l xs → XsOf cv h D (l ++ [(k, x)]) (xs ++ [(key k, t, v)]) := by
  intro l xs r
  induction r with
  | nil => exact .cons e d rv .nil
  | cons e' d' r' _ ih => exact .cons e' d' r' ih
theorem dget_none {l : List (Spot × AV)} {k : Spot} (h : dget l k = Option.none) : ∀ p ∈ l, p.1 ≠ k := by
  unfold dget at h
  rw [Option.map_eq_none_iff, List.find?_eq_none] at h
  intro p hp e
  exact h p hp (by simp [e])
set_option tactic.hygienic true in
theorem dset_nodup {l : List (Spot × AV)} (k : Spot) (x : AV) (h : (l.map (·.1)).Nodup) : ((dset l k x).map (·.1)).Nodup := by
  unfold dset
  split
  · have : (l.map (fun p => if p.1 = k then (k, x) else p)).map (·.1) = l.map (·.1) := by
      rw [List.map_map]
      apply List.map_congr_left
      intro p _
      simp only [Function.comp_apply]
      split
      · rename_i q; exact q.symm
      · rfl
    rw [this]; exact h
  · rename_i q
    have q' : dget l k = Option.none := by simpa using q
    rw [List.map_append, List.nodup_append]
    refine ⟨h, by simp, ?_⟩
    intro a ha b hb e
    simp at hb
    obtain ⟨p, hp, rfl⟩ := List.mem_map.mp ha
    exact dget_none q' p hp (e.trans hb)
theorem dict_entries {h : Heap} {d : Addr} {xs : List (List Int × Addr × Value)} (hm : h.DictOfH (tupleKind (intKind prog w)) d xs) : ∃ n, h.get? d = some (dctObj (xs.map (entryOfKey (tupleKind (intKind prog w)))).toArray n) := by
  obtain ⟨o, es, ep, ho, ⟨h1, h2, h3⟩, hd, he, _, _⟩ := hm
  refine ⟨ep, ?_⟩
  obtain ⟨c, dx, dt, sl⟩ := o
  simp only at h1 h2 h3 hd
  subst h1 h2 h3 hd
  have : es = (xs.map (entryOfKey (tupleKind (intKind prog w)))).toArray := by rw [← he]
  rw [ho, this]
theorem setItemD {ad : Addr} {l : List (Spot × AV)} {k : Spot} {x : AV} {vk vx : Value} {Q' : Unit → Shared → Prop} (ho : σ ad = some (.dict l)) (hz : l.length ≤ big) (hs : F.St m σ s) (rk : Rep S.cv s.heap (F.D σ) (sp k) vk) (rx : Rep S.cv s.heap (F.D σ) x vx)
    (h : ∀ s', F.St m (σ.set ad (.dict (dset l k x))) s' → Step F.P F.O σ s (σ.set ad (.dict (dset l k x))) s' → Q' () s') : wpAny (model prog w) F.A (setItem (.ref ad) vk vx) Q' X s := by
  obtain ⟨t, tx, ty, n, rfl, e, d⟩ := rk.spot
  obtain ⟨ad', es, n', e1, e', sm, nd, rd⟩ := (Rep.loc (cv := S.cv) (h := s.heap) (D := F.D σ) ad).dct hs.inv (dd_loc ho)
  cases e1
  obtain ⟨xs, hx, rfl⟩ := RepD.xs (prog := prog) (w := w) rd
  have hlen : xs.length = l.length := by have := rd.length; simpa using this
  refine wpAny_setItem_heap (room_in1 F) (isKey e) (dictH hx nd e') (fun h' hm sb => ?_) (by rw [hlen]; exact big_ok hz)
  obtain ⟨n2, e2⟩ := dict_entries hm
  have da : Dom σ ad := by unfold Dom; rw [ho]; simp
  have e0 : Ext (F.D σ) s.heap h' := Ext.of_but fun b o d e => sb.extBut b o (fun q => d (.inl (q ▸ da))) e
  have hD : ∀ b, DN F.N (σ.set ad (.dict (dset l k x))) b → DN F.N σ b ∨ s.heap.get? b = Option.none := fun b q => .inl (q.imp (fun q => (dom_set q).elim (fun (q : b = ad) => by rw [q]; exact da) id) id)
  have xs' : XsOf S.cv s.heap (F.D σ) (dset l k x) (storedH xs (key k) t vx) := by
    unfold dset storedH
    rw [atKey_dget hx k]
    split
    · exact hx.put rx
    · exact hx.snoc e d rx
  obtain ⟨h1, st⟩ := hs.upd (h' := h') da (fun c o ne e => sb.extBut c o ne e) (s.toks + (tupleKind (intKind prog w)).draws (key k)) (o := .dict (dset l k x)) (.dict e2 sm (dset_nodup k x nd) (xs'.repD.ext e0 hD))
  exact h _ h1 st.any
set_option tactic.hygienic true in
theorem ST.setitem {o i e : E} (hn : notComp e = true) (h : ET F m σ e (fun x σ₁ => ET F m σ₁ o (fun a σ₂ => ET F m σ₂ i (fun k σ₃ => ∃ ad l kk, a = .loc ad ∧ k = sp kk ∧ σ₃ ad = some (.dict l) ∧ l.length ≤ big ∧ K .next m (σ₃.set ad (.dict (dset l kk x)))) X) X) X) : ST F m σ (.setitem o i e) K X := by
  intro ps hc s hs
  obtain ⟨_, _, _, _, _, rfl, hns, ho, hi, he⟩ := hc.inv
  refine wpAny_Assign_Subscript ((h _ he s hs).out ?_) (swaps_of he hn)
  rintro vx σ₁ s₁ st₁ h₁ ⟨x, rx, q₁⟩
  refine (q₁ _ ho s₁ h₁).out ?_
  rintro va σ₂ s₂ st₂ h₂ ⟨a, ra, q₂⟩
  refine (q₂ _ hi s₂ h₂).out ?_
  rintro vk σ₃ s₃ st₃ h₃ ⟨k, rk, ad, l, kk, rfl, rfl, hd, hz, hK⟩
  obtain rfl := ra.inv
  refine setItemD hd hz h₃ rk ((rx.st st₂ h₂).st st₃ h₃) fun s' h' st' => ?_
  exact ⟨.next, m, _, ((st₁.trans st₂).trans st₃).trans st', h', trivial, hK⟩
end
end Mine
end
section
namespace Mine
open PySem PyProof.Rows PySem.W
variable {prog : Program} {w : World} {S : Sta prog w}
section
variable {tb : List Nat} {env : Env} {N Np : Addr → Prop} {b : Store × Shared} {m : Vars} {σ : Store} {s : Shared} {D : Addr}
theorem Loc.map {h h' : Heap} {σ' : Store} {g : Heap} {cv : Nat → Value} (l : Loc cv g tb env m N σ h) (own : ∀ a o, Own env a → h.get? a = some o → h'.get? a = some o) (hd : ∀ a, Own env a → ¬ Dom σ' a) (r : ∀ {av v}, Rep cv h (DN N σ) av v → Rep cv h' (DN Np σ') av v) : Loc cv g tb env m Np σ' h' := by
  obtain ⟨mc, cm, n, cc, ow, ap, cl, rr⟩ := l
  refine ⟨mc, cm, ?_, fun z a hz => ?_, fun a q => ⟨hd a q, (ow a q).2⟩, ap, cl, fun z j av hj hm => ?_⟩
  · obtain ⟨o, es, ep, e, d⟩ := n; exact ⟨o, es, ep, own _ _ (.inl rfl) e, d⟩
  · obtain ⟨o, e, d⟩ := cc z a hz; exact ⟨o, own _ _ (.inr ⟨z, hz⟩) e, d⟩
  · exact LocAt.map (rr z j av hj hm) (fun h2 => r h2) (fun zz h1 => h1) (fun zz h1 => h1)
theorem St.apart {h' : Heap} {tk : Nat} (hs : Mine.St S tb env N P b m σ s) (k : ∀ b o, s.heap.get? b = some o → h'.get? b = some o) (hD : s.heap.get? D = Option.none) (hD' : ∃ o, h'.get? D = some o ∧ ∀ vs, o.data ≠ .fields vs) :
    Mine.St S tb env (fun a => N a ∨ a = D) P b m σ { s with heap := h', toks := tk } ∧ Step noO noO σ s σ { s with heap := h', toks := tk } := by
  obtain ⟨h1, st⟩ := hs.grow k tk
  have e0 : Ext (DN N σ) s.heap h' := Ext.of_keeps k
  have hDN : ∀ b, DN (fun a => N a ∨ a = D) σ b → DN N σ b ∨ s.heap.get? b = Option.none := by
    rintro b (q | q | q)
    · exact .inl (.inl q)
    · exact .inl (.inr q)
    · exact .inr (q ▸ hD)
  refine ⟨⟨⟨h1.inv.keep, h1.inv.gens, h1.inv.drawn, h1.inv.os, h1.inv.σg, ?_, ?_, fun a o e => (hs.inv.rep a o e).ext e0 hDN (k a)⟩, ?_, h1.frm, fun a q => .inl (hs.pN a q), hs.new, fun a q => .inl (hs.own a q), hs.gb⟩, st⟩
  · rintro a d (q | q)
    · exact hs.inv.σN a d q
    · exact hs.inv.not_dom (q ▸ hD) d
  · rintro a (q | q)
    · exact h1.inv.Nin a q
    · exact q ▸ hD'
  · have ow := hs.loc
    obtain ⟨_, _, _, _, ow, _⟩ := ow
    exact hs.loc.map (fun a o zz e => k a o e) (fun a q => (ow a q).1) fun r => r.ext e0 hDN
theorem St.open_ (hs : Mine.St S tb env Np P b m σ s) (hN : ∀ a, N a → Np a) (hO : ∀ a, Own env a → N a) (hPN : ∀ a, P a → N a) : Mine.St S tb env N P b m σ s := by
  have hD : ∀ b, DN N σ b → DN Np σ b ∨ s.heap.get? b = Option.none := fun b q => .inl (q.imp id (hN b))
  refine ⟨⟨hs.inv.keep, hs.inv.gens, hs.inv.drawn, hs.inv.os, hs.inv.σg, fun a d q => hs.inv.σN a d (hN a q), fun a q => hs.inv.Nin a (hN a q), fun a o e => (hs.inv.rep a o e).ext (Ext.refl _ _) hD fun zz q => q⟩, ?_, hs.frm, hPN, hs.new, hO, hs.gb⟩
  have ow := hs.loc
  obtain ⟨_, _, _, _, ow, _⟩ := ow
  exact hs.loc.map (fun a o zz e => e) (fun a q => (ow a q).1) fun r => r.ext (Ext.refl _ _) hD
theorem St.take {o : AObj} (hs : Mine.St S tb env (fun a => N a ∨ a = D) P b m σ s) (hO : ∀ a, Own env a → N a) (hPN : ∀ a, P a → N a) (nD : ¬ N D) (bD : b.2.heap.get? D = Option.none) (r : RepO S.cv s.heap (DN (fun a => N a ∨ a = D) σ) o D) : Mine.St S tb env N P b m (σ.set D o) s := by
  have hD : ∀ b, DN N (σ.set D o) b → DN (fun a => N a ∨ a = D) σ b ∨ s.heap.get? b = Option.none := fun b q => .inl (q.elim (fun q => (dom_set q).elim (fun q => .inr (.inr q)) .inl) fun q => .inr (.inl q))
  refine ⟨⟨hs.inv.keep, hs.inv.gens, hs.inv.drawn, hs.inv.os, fun a d => (dom_set d).elim (fun (q : a = D) => by rw [q]; exact hs.gb D bD) (hs.inv.σg a), fun a d q => (dom_set d).elim (fun (z : a = D) => nD (z ▸ q)) fun d => hs.inv.σN a d (.inl q), fun a q => hs.inv.Nin a (.inl q), fun a oa e => ?_⟩, ?_, ?_, hPN, hs.new, hO, hs.gb⟩
  · by_cases z : a = D
    · subst z; rw [Store.set_self] at e; cases e; exact r.ext (Ext.refl _ _) hD fun zz q => q
    · rw [Store.set_ne _ _ z] at e; exact (hs.inv.rep a oa e).ext (Ext.refl _ _) hD fun zz q => q
  · have ow := hs.loc
    obtain ⟨_, _, _, _, ow, _⟩ := ow
    exact hs.loc.map (fun a o zz e => e) (fun a q d => (dom_set d).elim (fun (z : a = D) => nD (z ▸ hO a q)) (ow a q).1) fun r => r.ext (Ext.refl _ _) hD
  · have f := hs.frm
    exact ⟨f.ext, f.frm, fun a d => (dom_set d).elim (fun (z : a = D) => .inr (by rw [z]; exact bD)) (f.dom a), f.there⟩
end
section
variable {F : Fx S} {m : Vars} {σ : Store} {s : Shared} {X : Value → Shared → Prop} {Q : AV → Store → Prop}
noncomputable def Fx.with (F : Fx S) (D : Addr) : Fx S := ⟨F.A, F.tb, F.env, F.b, fun a => F.N a ∨ a = D, F.k, F.room.wide (fun zz q => .inl q), F.fk, F.fg, F.fb, F.fc⟩
noncomputable def Like (F F' : Fx S) : Prop := F'.A = F.A ∧ F'.tb = F.tb ∧ F'.env = F.env ∧ F'.k = F.k
noncomputable def PairsT (F : Fx S) (m : Vars) (X : Value → Shared → Prop) (Q : List (AV × AV) → Store → Prop) : List E → List E → List (AV × AV) → Store → Prop
  | [], [], r, σ => Q r σ
  | k :: ks, v :: vs, r, σ => ET F m σ k (fun a σ₁ => ET F m σ₁ v (fun b σ₂ => PairsT F m X Q ks vs (r ++ [(a, b)]) σ₂) X) X
  | _, _, _, _ => False
class inductive RepP (cv : Nat → Value) (h : Heap) (D : Addr → Prop) : List (AV × AV) → List (Value × Value) → Prop
  | nil : RepP cv h D [] []
  | cons {a b : AV} {u v : Value} {l : List (AV × AV)} {vs : List (Value × Value)} : Rep cv h D a u → Rep cv h D b v → RepP cv h D l vs → RepP cv h D ((a, b) :: l) ((u, v) :: vs)
theorem RepP.step {cv : Nat → Value} {P O N : Addr → Prop} {σ σ' : Store} {s s' : Shared} (x : Step P O σ s σ' s') (hO : ∀ a, O a → N a) (hP : ∀ a, P a → N a) {l : List (AV × AV)} {vs : List (Value × Value)} (r : RepP cv s.heap (DN N σ) l vs) : RepP cv s'.heap (DN N σ') l vs := by
  induction r with
  | nil => exact .nil
  | cons r1 r2 _ ih => exact .cons (r1.step x hO hP) (r2.step x hO hP) ih
theorem RepP.app {cv : Nat → Value} {h : Heap} {D : Addr → Prop} {l l' : List (AV × AV)} {vs vs' : List (Value × Value)} (r : RepP cv h D l vs) (r' : RepP cv h D l' vs') : RepP cv h D (l ++ l') (vs ++ vs') := by
  induction r with
  | nil => exact r'
  | cons r1 r2 _ ih => exact .cons r1 r2 ih
theorem pairsT_run {pos : Pos} {Q : List (AV × AV) → Store → Prop} {ks : List E} : ∀ {vs : List E} {pks : List (Option PySem.Expr)} {pvs : List PySem.Expr} {r : List (AV × AV)} {σ : Store} {s : Shared} {ru : List (Value × Value)} {Q' : List (Value × Value) → Shared → Prop}, CKs F.tb F.sc pks ks → CEs F.tb F.sc pvs vs → PairsT F m X Q ks vs r σ → F.St m σ s → RepP S.cv s.heap (F.D σ) r ru →
    (∀ us r' σ' s', Step F.P F.O σ s σ' s' → F.St m σ' s' → RepP S.cv s'.heap (F.D σ') r' (ru ++ us) → Q r' σ' → Q' us s') → wpAny (model prog w) F.A (evalPairs (pairTrees pks pvs F.env pos)) Q' X s := by
  induction ks with
  | nil =>
    intro vs pks pvs r σ s ru Q' hk hv h hs rr hQ
    cases vs with
    | cons v vs => exact h.elim
    | nil =>
      obtain rfl := hk.inv
      obtain rfl := hv.inv_nil
      exact pairTrees_nil_walk (hQ [] r σ s (Step.refl _ _ _ _) hs (by rw [List.append_nil]; exact rr) h)
  | cons k ks ih =>
    intro vs pks pvs r σ s ru Q' hk hv h hs rr hQ
    cases vs with
    | nil => exact h.elim
    | cons v vs =>
      obtain ⟨pk, pks, rfl, hk, hks⟩ := hk.inv
      obtain ⟨pv, pvs, rfl, hn, hv, hvs⟩ := hv.inv
      refine pairTrees_cons_walk ((h _ hk s hs).out ?_)
      rintro uk σ₁ s₁ st₁ h₁ ⟨a, ra, q₁⟩
      refine (q₁ _ hv s₁ h₁).out ?_
      rintro uv σ₂ s₂ st₂ h₂ ⟨b, rb, q₂⟩
      have rr2 := ((rr.step st₁ h₁.own h₁.pN).step st₂ h₂.own h₂.pN).app (.cons (ra.st st₂ h₂) rb .nil)
      refine ih hks hvs q₂ h₂ rr2 fun us r' σ' s' st' h' rr' q => hQ _ r' σ' s' ((st₁.trans st₂).trans st') h' ?_ q
      rw [List.append_assoc] at rr'; exact rr'
noncomputable def mkD : List (AV × AV) → List (Spot × AV) → Option (List (Spot × AV))
  | [], l => some l
  | (.tup [.int x, .int y], v) :: r, l => mkD r (dset l (x, y) v)
  | _ :: _, _ => Option.none
set_option tactic.hygienic true in
theorem mkD_cons {a b : AV} {r : List (AV × AV)} {l l' : List (Spot × AV)} (h : mkD ((a, b) :: r) l = some l') : ∃ k : Spot, a = sp k ∧ mkD r (dset l k b) = some l' := by
  unfold mkD at h
  split at h
  · rename_i e; cases e
  · rename_i e; cases e; exact ⟨(_, _), rfl, h⟩
  · cases h
theorem storeAllT {F : Fx S} {D : Addr} {Q' : PUnit → Shared → Prop} (hDN : F.N D) (nO : ¬ F.O D) (bD : F.b.2.heap.get? D = Option.none) (sm : (D == sysModules) = false) : ∀ {r : List (AV × AV)} {us : List (Value × Value)} {l l' : List (Spot × AV)} {es : List DictEntry} {n : Nat} {s : Shared}, mkD r l = some l' → l.length + r.length ≤ big → F.St m σ s → RepP S.cv s.heap (F.D σ) r us →
    s.heap.get? D = some (dctObj es.toArray n) → (l.map (·.1)).Nodup → RepD S.cv s.heap (F.D σ) l es →
    (∀ s' es' n', F.St m σ s' → Step F.P (· = D) σ s σ s' → s'.heap.get? D = some (dctObj (List.toArray es') n') → (l'.map (·.1)).Nodup → RepD S.cv s'.heap (F.D σ) l' es' → Q' PUnit.unit s') → wpAny (model prog w) F.A (storeAll D us) Q' X s := by
  intro r
  induction r with
  | nil =>
    intro us l l' es n s hm hz hs rr g nd rd hQ
    cases rr; cases hm
    exact wpAny_pure (hQ s es n hs (Step.refl _ _ _ _) g nd rd)
  | cons p r ih =>
    intro us l l' es n s hm hz hs rr g nd rd hQ
    cases rr with
    | @cons a bb u v _ vs r1 r2 rs =>
      obtain ⟨kk, rfl, hm⟩ := mkD_cons hm
      · obtain ⟨t, tx, ty, n1, rfl, e, d⟩ := Rep.spot (k := kk) r1
        obtain ⟨xs, hx, rfl⟩ := RepD.xs (prog := prog) (w := w) rd
        have hlen : xs.length = l.length := by have := rd.length; simpa using this
        show wpAny _ _ (forIn _ _ _) _ _ _
        rw [List.forIn_cons]
        refine wpAny_bind (wpAny_bind (wpAny_dictSet_heap (room_0 F) (isKey e) (dictH hx nd g) (fun h' hmm sb => ?_) (by rw [hlen]; exact big_ok (by omega))))
        obtain ⟨n2, e2⟩ := dict_entries hmm
        obtain ⟨h2, st2⟩ := (hs.tok (s.toks + (tupleKind (intKind prog w)).draws (key kk))).turnN (h' := h') hDN nO bD sb.extBut ⟨_, e2, fun vs z => by cases z⟩
        have st2' : Step F.P (· = D) σ s σ { s with heap := h', toks := s.toks + (tupleKind (intKind prog w)).draws (key kk) } := ⟨st2.ext, st2.frm, st2.dom, st2.there⟩
        have hO : ∀ a, a = D → F.N a := fun a q => q ▸ hDN
        have xs' : XsOf S.cv s.heap (F.D σ) (dset l kk bb) (storedH xs (key kk) t v) := by
          unfold dset storedH
          rw [atKey_dget hx kk]
          split
          · exact hx.put r2
          · exact hx.snoc e d r2
        have hd : (dset l kk bb).length ≤ l.length + 1 := by unfold dset; split <;> simp
        refine wpAny_pure (ih hm (by have hz' : l.length + (r.length + 1) ≤ big := hz; have hd' : (dset l kk bb).length ≤ l.length + 1 := hd; exact Nat.le_trans (Nat.add_le_add_right hd' _) (by omega)) h2 (rs.step st2' hO hs.pN) e2 (dset_nodup _ _ nd) (xs'.repD.step st2' hO hs.pN) fun s' es' n' h3 st3 g3 nd3 rd3 => ?_)
        exact hQ s' es' n' h3 (st2'.trans st3) g3 nd3 rd3
theorem CKs.len {tb : List Nat} {sc : Nms} {pks : List (Option PySem.Expr)} {ks : List E} (h : CKs tb sc pks ks) : pks.length = ks.length ∧ pks.all (·.isSome) = true := by
  induction ks generalizing pks with
  | nil => obtain rfl := h.inv; exact ⟨rfl, rfl⟩
  | cons k ks ih => obtain ⟨e, r, rfl, _, q⟩ := h.inv; exact ⟨congrArg Nat.succ (ih q).1, (ih q).2⟩
theorem CEs.len {tb : List Nat} {sc : Nms} {pks : List PySem.Expr} {ks : List E} (h : CEs tb sc pks ks) : pks.length = ks.length := by
  induction ks generalizing pks with
  | nil => obtain rfl := h.inv_nil; rfl
  | cons k ks ih => obtain ⟨e, r, rfl, _, _, q⟩ := h.inv; exact congrArg Nat.succ (ih q)
theorem ET.dict0 (h : Fresh σ (.dict []) (.dict []) Q) : ET F m σ (.dict [] []) Q X := by
  intro pe hc s hs
  obtain ⟨_, _, _, rfl, hk, hv⟩ := hc.inv
  cases hk; cases hv
  exact wpAny_Dict_empty (fresh_dict (tk := s.toks) (es := []) (l := []) hs (push_keeps _ _) (get_size _) (Heap.get?_push_size _ rfl) .nil .nil h)
theorem ET.dict {k v : E} {ks vs : List E} (hlen : ks.length = vs.length) (h15 : ks.length < 15) (h : ∀ F' : Fx S, Like F F' → PairsT F' m X (fun r σ' => ∃ l, mkD r [] = some l ∧ r.length ≤ 15 ∧ Fresh σ' (.dict l) (.dict l) Q) (k :: ks) (v :: vs) [] σ) : ET F m σ (.dict (k :: ks) (v :: vs)) Q X := by
  intro pe hc s hs
  obtain ⟨pks, pvs, p, rfl, hk, hv⟩ := hc.inv
  obtain ⟨l1, l2⟩ := hk.len
  have l3 := hv.len
  refine wpAny_Dict_any l2 (by rw [l1, l3]; simp [hlen]) (by intro e; subst e; simp at l1) (by rw [l1]; simp; omega) ?_
  have nD : s.heap.get? s.heap.objs.size = Option.none := get_size _
  obtain ⟨h1, st1⟩ := St.apart (D := s.heap.objs.size) (tk := s.toks) hs (push_keeps _ { cls := .type "dict", data := .dict #[] }) nD ⟨_, Heap.get?_push_size _ rfl, fun vs z => by cases z⟩
  generalize hD : s.heap.objs.size = D at *
  have g1 : (s.heap.push { cls := .type "dict", data := .dict #[] }).get? D = some (dctObj #[] 0) := by rw [← hD]; exact Heap.get?_push_size _ rfl
  have h1' : (F.with D).St m σ { s with heap := s.heap.push { cls := .type "dict", data := .dict #[] } } := h1
  have nFN : ¬ F.N D := fun q => by obtain ⟨o, e, nf⟩ := hs.inv.Nin D q; rw [nD] at e; cases e
  have nO : ¬ F.O D := fun q => nFN (hs.own D q)
  have bD : F.b.2.heap.get? D = Option.none := hs.frm.new nD
  refine pairsT_run (F := F.with D) (ru := []) hk hv (h (F.with D) ⟨rfl, rfl, rfl, rfl⟩) h1' .nil ?_
  rintro us r' σ₂ s₂ st₂ h₂ rr ⟨l, hml, hr15, hfr⟩
  have gD := st₂.ext.obj D _ g1 (fun d => d.elim (fun d => h1'.inv.σN D d (.inr rfl)) fun d => d.elim nO fun d => nFN (hs.pN D d))
  refine storeAllT (F := F.with D) (σ := σ₂) (es := []) (l := []) (.inr rfl) nO bD (hs.inv.not_sm nD) hml (by simp; exact Nat.le_trans hr15 (by decide)) h₂ (by simpa using rr) gD .nil .nil ?_
  intro s' es' n' h3 st3 g3 nd3 rd3
  have stF : Step F.P F.O σ s σ₂ s' := by
    have z := (st1.any (O := F.O)).trans st₂
    have nD' : ∀ {a o}, s.heap.get? a = some o → ¬ a = D := fun e q => by rw [q, nD] at e; cases e
    exact ⟨⟨fun a o e d => st3.ext.obj a o (z.ext.obj a o e d) fun q => q.elim (z.ndom e fun q => d (.inl q)) fun q => q.elim (nD' e) fun q => d (.inr (.inr q))⟩, fun a o e n ho d => by
      obtain ⟨o', e', c', r1, r2⟩ := z.frm a o e n ho d
      obtain ⟨o'', e'', c'', r1', r2'⟩ := st3.frm a o' e' n (nD' e) (z.ndom e d)
      exact ⟨o'', e'', c''.trans c', r1'.trans r1, r2'.trans r2⟩, z.dom, fun a o e => by
      obtain ⟨o', e'⟩ := z.there a o e
      exact st3.there a o' e'⟩
  have nDσ : ¬ Dom σ₂ D := fun d => h3.inv.σN D d (.inr rfl)
  rcases hfr with q | q
  · have h4 : F.St m σ₂ s' := St.open_ (N := F.N) h3 (fun a q => .inl q) hs.own hs.pN
    exact ⟨σ₂, stF, h4, _, .dict g3 (fun d => d.elim nDσ nFN) (hs.inv.not_sm nD) nd3 (rd3.ext (Ext.refl _ _) fun b q => .inl (q.imp id .inl)), q⟩
  · have h4 : F.St m (σ₂.set D (.dict l)) s' := St.take h3 hs.own hs.pN nFN bD (.dict g3 (hs.inv.not_sm nD) nd3 rd3)
    exact ⟨_, ⟨stF.ext, stF.frm, fun a d => (dom_set d).elim (fun (z : a = D) => .inr (by rw [z]; exact nD)) (stF.dom a), stF.there⟩, h4, _, .loc D, q D nDσ⟩
end
end Mine
end
section
namespace Mine
open PySem PyProof.Rows PySem.W
variable {prog : Program} {w : World} {S : Sta prog w}
section
variable {F : Fx S} {m : Vars} {σ : Store} {s : Shared} {X : Value → Shared → Prop} {Q : AV → Store → Prop}
theorem bools_get {h : Heap} {D : Addr → Prop} {cv : Nat → Value} {bs : List Bool} {vs : List Value} {i : Nat} {v : Value} (r : RepL cv h D (bs.map .bool) vs) (e : vs[i]? = some v) : ∃ b, bs[i]? = some b ∧ v = .bool b := by
  induction bs generalizing vs i with
  | nil => rw [show vs = [] from r.inv] at e; exact (no_some List.getElem?_nil e).elim
  | cons b bs ih =>
    obtain ⟨u, us, rfl, a, r⟩ := r.inv
    cases i with
    | zero => exact ⟨b, rfl, (Option.some.inj e).symm.trans a.inv⟩
    | succ i => exact ih (vs := us) (i := i) r e
theorem range_all (bs : List Bool) : (List.range bs.length).all (fun i => bs.getD i true) = bs.all id := by
  have : (List.range bs.length).map (fun i => bs.getD i true) = bs := by
    apply List.ext_getElem?
    intro i
    by_cases h : i < bs.length
    · simp [h]
    · simp [h]
  have h := List.all_map (f := fun i => bs.getD i true) (p := id) (l := List.range bs.length)
  rw [this] at h
  exact h.symm
theorem range_any (bs : List Bool) : (List.range bs.length).any (fun i => bs.getD i true) = bs.any id := by
  have : (List.range bs.length).map (fun i => bs.getD i true) = bs := by
    apply List.ext_getElem?
    intro i
    by_cases h : i < bs.length
    · simp [h]
    · simp [h]
  have h := List.any_map (f := fun i => bs.getD i true) (p := id) (l := List.range bs.length)
  rw [this] at h
  exact h.symm
theorem CT.all (hq : S.hx = Option.none) {a : AV} {bs : List Bool} (ha : dl σ a = some (bs.map .bool)) (h : Q (.bool (bs.all id)) σ) : CT F m σ (.builtin "all") [a] Q X := by
  intro vals s hs r
  obtain ⟨v, rfl, ra⟩ := r.one
  obtain ⟨ad, vs, n, rfl, e, rl⟩ := ra.lst hs.inv ha
  have hL : s.heap.IsList ad vs.toArray := ⟨_, e, rfl, n, rfl⟩
  have hne : ad ≠ s.heap.objs.size := Nat.ne_of_lt (Heap.lt_size e)
  have hlen : vs.toArray.size = bs.length := by have := rl.length; simpa using this
  refine call_all_walk (wpAny_pyIter_list hL ⟨_, _, _, _, _, _, fun i => bs.getD i true, rfl, Walks.list (A := F.A.in1) (F.room.quiet hq) s.heap.objs.size ad hne vs.toArray, ⟨⟨_, Heap.get?_push_size _ rfl, rfl, rfl⟩, ⟨_, Heap.get?_push_of_some _ e, rfl, n, rfl⟩⟩, ?_, fun h' tk k => ?_⟩)
  · intro i v s' Q' E' hP hq
    obtain ⟨b, hb, rfl⟩ := bools_get rl (i := i) (by simpa using hP)
    refine wpAny_truthy_bool ?_
    have : bs.getD i true = b := by simp [List.getD, hb]
    simp only [this] at hq; exact hq
  · obtain ⟨h1, st⟩ := hs.grow (h' := h') (fun b o eb => k b o (by simp; exact Nat.ne_of_lt (Heap.lt_size eb)) (Heap.get?_push_of_some _ eb)) tk
    rw [hlen, range_all]
    exact ⟨σ, st.any, h1, _, .bool _, h⟩
theorem CT.any (hq : S.hx = Option.none) {a : AV} {bs : List Bool} (ha : dl σ a = some (bs.map .bool)) (h : Q (.bool (bs.any id)) σ) : CT F m σ (.builtin "any") [a] Q X := by
  intro vals s hs r
  obtain ⟨v, rfl, ra⟩ := r.one
  obtain ⟨ad, vs, n, rfl, e, rl⟩ := ra.lst hs.inv ha
  have hL : s.heap.IsList ad vs.toArray := ⟨_, e, rfl, n, rfl⟩
  have hne : ad ≠ s.heap.objs.size := Nat.ne_of_lt (Heap.lt_size e)
  have hlen : vs.toArray.size = bs.length := by have := rl.length; simpa using this
  refine call_any_walk (wpAny_pyIter_list hL ⟨_, _, _, _, _, _, fun i => bs.getD i true, rfl, Walks.list (A := F.A.in1) (F.room.quiet hq) s.heap.objs.size ad hne vs.toArray, ⟨⟨_, Heap.get?_push_size _ rfl, rfl, rfl⟩, ⟨_, Heap.get?_push_of_some _ e, rfl, n, rfl⟩⟩, ?_, fun h' tk k => ?_⟩)
  · intro i v s' Q' E' hP hq
    obtain ⟨b, hb, rfl⟩ := bools_get rl (i := i) (by simpa using hP)
    refine wpAny_truthy_bool ?_
    have : bs.getD i true = b := by simp [List.getD, hb]
    simp only [this] at hq; exact hq
  · obtain ⟨h1, st⟩ := hs.grow (h' := h') (fun b o eb => k b o (by simp; exact Nat.ne_of_lt (Heap.lt_size eb)) (Heap.get?_push_of_some _ eb)) tk
    rw [hlen, range_any]
    exact ⟨σ, st.any, h1, _, .bool _, h⟩
theorem strsAre {h : Heap} {D : Addr → Prop} {cv : Nat → Value} {ys : List Str} {vs : List Value} (r : RepL cv h D (ys.map .str) vs) : StrsAre vs ys := by
  induction ys generalizing vs with
  | nil => rw [show vs = [] from r.inv]; exact .nil
  | cons y ys ih =>
    obtain ⟨u, us, rfl, a, rr⟩ := r.inv
    obtain ⟨t, rfl⟩ := a.inv
    exact .cons _ _ (ih rr)
theorem CT.join {x : Str} {a : AV} {ys : List Str} (ha : dl σ a = some (ys.map .str)) (hok : (ys.map (·.length)).sum + ys.length * x.length ≤ 1000000) (h : Q (.str (Txt.join x ys)) σ) : CT F m σ (.builtin "str.join") [.str x, a] Q X := by
  intro vals s hs r
  obtain ⟨v, u, rfl, ra, rb⟩ := r.two
  obtain ⟨_, rfl⟩ := ra.inv
  obtain ⟨ad, vs, n, rfl, e, rl⟩ := rb.lst hs.inv ha
  exact join_list ⟨_, e, rfl, n, rfl⟩ (by simpa using strsAre rl) (Nat.le_trans hok (by decide)) fun t' k => nowT _ hs (.str _ _) h
theorem Walks.heapDict {A : Around} (hh : A.handled = none) (I d : Addr) (hne : d ≠ I) (es : Array DictEntry) (ep : Nat) :
    Walks prog w A I [I, d] [I] es.size (fun i v => ∃ e, es[i]? = some e ∧ v = e.key) (fun i h => h.IsKeyIter I d i es.size ep ∧ DictE h d es ep) where
  sub := fun b hb => by simp at hb; simp [hb]
  frame := fun zz zz zz st hk => ⟨(let ⟨o, ho, r⟩ := st.1; ⟨o, hk I (by simp) o ho, r⟩), hk d (by simp) _ st.2⟩
  item := fun i s Q E hi st hQ => by
    refine dictNext st.1 st.2 (e := es[i]) (by simp [hi]) fun h' hit' hs' => ?_
    exact hQ _ h' s.toks ⟨_, by simp [hi], rfl⟩ ⟨hit', hs'.extBut d _ hne st.2⟩ fun b o hb e => hs'.extBut b o (fun h => hb (by simp [h])) e
  done := fun s Q E st hQ => dictEnd hh st.1 st.2 (Nat.le_refl _) fun h' he' => hQ h' s.toks fun b o hb e => he' b o (fun h => hb (by simp [h])) e
  self := fun zz zz zz zz st hQ => wpAny_pyIter_keyiter st.1 hQ
theorem srcDict {d : Addr} {es : Array DictEntry} {ep : Nat} (lo : (d == sysModules) = false) : KdlSrc prog w "dict" d d es.size (fun i v => ∃ e, es[i]? = some e ∧ v = e.key) (fun h => DictE h d es ep) where
  type := fun zz hm => hm.typeIs
  there := fun zz hm => ⟨Heap.lt_size hm, Heap.lt_size hm⟩
  keep := fun zz zz hm hk => hk d (.inl rfl) _ hm
  notList := by decide
  notTuple := by decide
  hint := fun zz zz zz zz hm hq => kdl_hint_dict hm.typeIs hq
  iter := fun zz zz hh hm => ⟨_, _, (fun zz zz hq => dictIter lo hm hq), Walks.heapDict hh _ d (Nat.ne_of_lt (Heap.lt_size hm)) es ep, ⟨⟨_, Heap.get?_push_size _ rfl, rfl, rfl⟩, Heap.get?_push_of_some _ hm⟩⟩
theorem repKeys {h : Heap} {D : Addr → Prop} {cv : Nat → Value} {l : List (Spot × AV)} {es : List DictEntry} (r : RepD cv h D l es) : RepL cv h D (l.map fun p => sp p.1) (es.map (·.key)) := by
  induction l generalizing es with
  | nil => rw [show es = [] from r.inv]; exact .nil
  | cons p l ih => obtain ⟨t, tx, ty, n, v, us, rfl, e, d, a, b⟩ := r.inv; exact .cons (.tup (vs := [_, _]) e d (.cons (.int _ _) (.cons (.int _ _) .nil))) (ih b)
theorem CT.listDict (hq : S.hx = Option.none) {a : AV} {l : List (Spot × AV)} (ha : dd σ a = some l) (hz : l.length ≤ big) (h : Fresh σ (.list (l.map fun p => sp p.1)) (.list (l.map fun p => sp p.1)) Q) : CT F m σ (.type "list") [a] Q X := by
  intro vals s hs r
  obtain ⟨v, rfl, ra⟩ := r.one
  obtain ⟨ad, es, n, rfl, e, sm, rd⟩ := ra.dctE hs ha
  refine kdl_call (srcDict (ep := n) sm) (F.room.quiet hq) e (by rw [List.size_toArray, rd.length]; exact big_ok hz) fun h' tk acc' c' k e' hi => ?_
  obtain ⟨h1, h2⟩ := hi
  have : acc' = (es.map (·.key)).toArray := by
    apply Array.ext
    · simp [h1]
    · intro i hi1 hi2
      obtain ⟨en, he, hv⟩ := h2 i acc'[i] (by simp [hi1])
      simp only [List.getElem_toArray, List.getElem_map]
      rw [hv]
      have : es[i]? = some en := by simpa using he
      rw [List.getElem?_eq_getElem (by simpa using hi2)] at this
      rw [Option.some.inj this]
  rw [this] at e'
  exact fresh_list (tk := tk) hs k (get_size _) e' (repKeys rd) h
theorem CT.listStr (hq : S.hx = Option.none) {x : Str} (hz : x.length ≤ big) (h : Fresh σ (.list (signs x)) (.list (signs x)) Q) : CT F m σ (.type "list") [.str x] Q X := by
  intro vals s hs r
  obtain ⟨v, rfl, ra⟩ := r.one
  obtain ⟨t, rfl⟩ := ra.inv
  refine call_list_str (F.room.quiet hq) x t (fun h' tk acc' c' k e' hi => ?_) (big_ok hz)
  obtain ⟨h1, h2⟩ := hi
  have rl : RepL S.cv s.heap (F.D σ) (signs x) acc'.toList := by
    have gen : ∀ (cs : List Nat) (vs : List Value), vs.length = cs.length → (∀ (i : Nat) (v : Value), vs[i]? = some v → ∃ c u, cs[i]? = some c ∧ v = Value.str ⟨#[c]⟩ u) → RepL S.cv s.heap (F.D σ) (cs.map fun c => AV.str ⟨#[c]⟩) vs := by
      intro cs
      induction cs with
      | nil => intro vs hl _; rw [List.length_nil] at hl; rw [List.length_eq_zero_iff.mp hl]; exact .nil
      | cons c cs ih =>
        intro vs hl hv
        cases vs with
        | nil => simp at hl
        | cons v vs =>
          obtain ⟨c', u, hc, rfl⟩ := hv 0 v rfl
          simp at hc; subst hc
          exact .cons (.str _ _) (ih vs (by simpa using hl) fun i w hw => by have := hv (i + 1) w (by simpa using hw); simpa using this)
    refine gen x.cps.toList acc'.toList (by simp [h1]) fun i v hv => ?_
    obtain ⟨c, u, hc, rfl⟩ := h2 i v (by simpa using hv)
    exact ⟨c, u, by simpa using hc, rfl⟩
  exact fresh_list (tk := tk) hs k (get_size _) (by simpa using e') rl h
end
end Mine
end
section
namespace Mine
open PySem PyProof.Rows PySem.W
variable {prog : Program} {w : World} {S : Sta prog w}
structure FloorK (S : Sta prog w) (C : Addr) : Prop where
  cv : S.cv floorG = .ref C
  get : plainGet S.K C "texts" = true
  has : hasDictIn S.K C = true
  setattr : findIn S.K (.ref C) "__setattr__" = some (some (.builtin "object.__setattr__"))
  over : plainOver S.K C = true
  make : makesIn S.K C = true
structure Field (S : Sta prog w) (C : Addr) (nm : Str) : Prop where
  find : findIn S.K (.ref C) nm = some Option.none
  take : takerIn S.K C nm = some Option.none
noncomputable def fget (fs : List (Str × AV)) (nm : Str) : Option AV := (fs.find? fun p => p.1 == nm).map (·.2)
noncomputable def fset : List (Str × AV) → Str → AV → List (Str × AV)
  | [], nm, x => [(nm, x)]
  | p :: r, nm, x => if p.1 == nm then (p.1, x) :: r else p :: fset r nm x
noncomputable def attrsOf (σ : Store) : AV → Option (List (Str × AV))
  | .inst fs => some fs
  | .loc a => match σ a with
    | some (.inst dx) => (match σ dx with
      | some (.attrs fs) => some fs
      | _ => Option.none)
    | _ => Option.none
  | _ => Option.none
theorem RepF.get {h : Heap} {D : Addr → Prop} {cv : Nat → Value} {nm : Str} {fs : List (Str × AV)} {es : List DictEntry} (r : RepF cv h D fs es) : (∀ {x}, fget fs nm = some x → ∃ v, getL nm es = some (some v) ∧ Rep cv h D x v) ∧ (fget fs nm = Option.none → getL nm es = some Option.none) := by
  induction fs generalizing es with
  | nil => rw [show es = [] from r.inv]; exact ⟨fun h => (no_some rfl h).elim, fun zz => rfl⟩
  | cons p l ih =>
    obtain ⟨n, x⟩ := p
    obtain ⟨hsh, t, v, es, rfl, r, rs⟩ := r.inv
    have ih := ih rs
    unfold fget getL at ih ⊢
    by_cases q : (n == nm) = true
    · have q' : (Value.str n t).isStr nm = true := q
      simp only [List.find?_cons, q, q', Option.map_some]
      exact ⟨fun h => ⟨v, rfl, Option.some.inj h ▸ r⟩, fun h => (no_some h rfl).elim⟩
    · have q1 : (n == nm) = false := by simpa using q
      have q' : (Value.str n t).isStr nm = false := q1
      have q2 : DictEntry.refKey ⟨hsh, .str n t, v⟩ = false := rfl
      simp only [List.find?_cons, q1, q', List.any_cons, q2, Bool.false_or]
      exact ih
theorem RepF.put {h : Heap} {D : Addr → Prop} {cv : Nat → Value} {nm : Str} {x : AV} {v : Value} {hsh : Int} {t : Tok} (rx : Rep cv h D x v) {fs : List (Str × AV)} {es : List DictEntry} (r : RepF cv h D fs es) : RepF cv h D (fset fs nm x) (putL nm hsh (.str nm t) v es) := by
  induction fs generalizing es with
  | nil => rw [show es = [] from r.inv]; exact .cons rx .nil
  | cons p l ih =>
    obtain ⟨n, y⟩ := p
    obtain ⟨hsh', t', v', es, rfl, r, rs⟩ := r.inv
    unfold fset putL
    by_cases q : (n == nm) = true
    · have q' : (Value.str n t').isStr nm = true := q
      simp only [q, q', if_true]
      exact .cons rx rs
    · have q1 : (n == nm) = false := by simpa using q
      have q' : (Value.str n t').isStr nm = false := q1
      simp only [q1, q', Bool.false_eq_true, if_false]
      exact .cons r (ih rs)
theorem RepF.length {h : Heap} {D : Addr → Prop} {cv : Nat → Value} {fs : List (Str × AV)} {es : List DictEntry} (r : RepF cv h D fs es) : es.length = fs.length := by
  induction fs generalizing es with
  | nil => rw [show es = [] from r.inv]; rfl
  | cons p l ih => obtain ⟨a, b, c, d, rfl, _, r⟩ := r.inv; exact congrArg Nat.succ (ih r)
section
variable {F : Fx S} {m : Vars} {σ : Store} {s : Shared} {X : Value → Shared → Prop} {Q : AV → Store → Prop} {K : Fl → Vars → Store → Prop} {C : Addr}
theorem Rep.instAt {a : AV} {v : Value} {fs : List (Str × AV)} (hC : FloorK S C) (r : Rep S.cv s.heap (F.D σ) a v) (hs : F.St m σ s) (h : attrsOf σ a = some fs) :
    ∃ x dx es n, v = .ref x ∧ InstAt s.heap x (insObj (.ref C) dx) C (some (dictOf es n)) ∧ RepF S.cv s.heap (F.D σ) fs es := by
  cases a with
  | inst fs' =>
    obtain ⟨x, dx, es, n, rfl, e, nf, f, d, d2, r⟩ := r.inv
    rw [hC.cv] at e
    exact ⟨_, _, _, _, rfl, ⟨e, rfl, rfl, f⟩, Option.some.inj h ▸ r⟩
  | loc x =>
    unfold attrsOf at h
    dsimp only at h
    cases e : σ x with
    | none => rw [e] at h; cases h
    | some o =>
      rw [e] at h
      cases o with
      | inst dx =>
        have h : (match σ dx with | some (.attrs fs) => some fs | _ => Option.none) = some fs := h
        cases e' : σ dx with
        | none => rw [e'] at h; cases h
        | some o' =>
          rw [e'] at h
          cases o' with
          | attrs fs' =>
            obtain ⟨g, _⟩ := (hs.inv.rep x _ e).inv
            obtain ⟨es, n, g', q⟩ := (hs.inv.rep dx _ e').inv
            rw [hC.cv] at g
            exact ⟨x, dx, es, n, r.inv, ⟨g, rfl, rfl, g'⟩, Option.some.inj h ▸ q⟩
          | _ => exact (no_some rfl h).elim
      | _ => exact (no_some rfl h).elim
  | _ => exact (no_some rfl h).elim
noncomputable def noCls : AV → Bool
  | .cls _ => false
  | _ => true
theorem Rep.handed {a : AV} {v : Value} {cv : Nat → Value} {h : Heap} {D : Addr → Prop} (r : Rep cv h D a v) (hc : noCls a = true) : handedIn v = true := by
  induction r using Rep.casesOn <;> first | rfl | exact (Bool.false_ne_true hc).elim
theorem ET.attr {i n : Nat} {nm : Str} {a x : AV} {fs : List (Str × AV)} (hC : FloorK S C) (hf : Field S C nm) (hn : ixS AT nm = some n) (hm : m i = some a) (ha : attrsOf σ a = some fs) (hx : fget fs nm = some x) (hc : noCls x = true) (h : Q x σ) : ET F m σ (.attr (.v i) n) Q X := by
  intro pe hcc s hs
  obtain ⟨y, q, at_, p, rfl, hy, hk⟩ := hcc.inv
  have : at_ = nm := ixS_inj hk hn
  subst this
  refine Attribute_name (wpAny_Name (load_v hy hm hs fun v r => ?_) (okName_debug hy.ok))
  obtain ⟨ad, dx, es, n', rfl, I, rf⟩ := r.instAt hC hs ha
  obtain ⟨u, hu, ru⟩ := rf.get.1 hx
  exact get_value (S.X.keeps hs.inv.keep) I (plainGet_of hC.get).1 (findObj_own hC.has hf.find rfl hu) (ru.handed hc) (nowT _ hs ru h)
theorem setAttrT {ad dx : Addr} {nm : Str} {fs : List (Str × AV)} {x : AV} {vx : Value} {Q' : Unit → Shared → Prop} (hC : FloorK S C) (hf : Field S C nm) (ho : σ ad = some (.inst dx)) (hd : σ dx = some (.attrs fs)) (hz : fs.length ≤ 100) (hs : F.St m σ s) (rx : Rep S.cv s.heap (F.D σ) x vx)
    (h : ∀ s', F.St m (σ.set dx (.attrs (fset fs nm x))) s' → Step F.P F.O σ s (σ.set dx (.attrs (fset fs nm x))) s' → Q' () s') : wpAny (model prog w) F.A (setAttr (.ref ad) nm vx) Q' X s := by
  obtain ⟨x', dx', es, n, e1, I, rf⟩ := (Rep.loc (cv := S.cv) (h := s.heap) (D := F.D σ) ad).instAt hC hs (fs := fs) (by simp only [attrsOf, ho, hd])
  obtain rfl := Value.ref.inj e1
  have hdx : dx' = dx := by
    obtain ⟨g, _⟩ := (hs.inv.rep ad _ ho).inv
    rw [hC.cv] at g; have := I.at_; rw [g] at this; cases this; rfl
  subst hdx
  have D : s.heap.get? dx' = some (dictOf es n) := I.dict
  have da : Dom σ dx' := by unfold Dom; rw [hd]; simp
  have KX := S.X.keeps hs.inv.keep
  refine set_plain KX I hC.setattr ?_
  have I1 : InstAt ({ s with toks := s.toks + 1 } : Shared).heap ad (insObj (.ref C) dx') C (some (dictOf es n)) := I
  refine osa_open (s := { s with toks := s.toks + 1 }) (K := S.K) KX I1 hC.over hf.take fun b => ?_
  obtain ⟨cd, hc, hd'⟩ := any_some hC.has
  refine wpAny_bind (wpAny_pure (wpAny_bind (wpAny_bind (wpAny_loadPart I.at_ (wpAny_bind (Looks.here (s := { s with toks := s.toks + 1 }) (looks_clsIn KX hc) ?_))))))
  rw [hd']
  refine wpAny_pure (a := some dx') (wpAny_bind (wpAny_pure (wpAny_bind ?_)))
  unfold nsSet
  refine wpAny_bind (wpAny_bind (wpAny_askSetting (wpAny_pure (wpAny_bind (wpAny_mkText (wpAny_bind (wpAny_loadPart D ?_)))))))
  dsimp only
  have c : (!es.toArray.any (·.key.isStr nm) && es.toArray.any (·.refKey)) = false := by
    have : es.toArray.any (·.refKey) = false := by
      rw [← Array.any_toList]
      have gen : ∀ {fs : List (Str × AV)} {es : List DictEntry}, RepF S.cv s.heap (F.D σ) fs es → es.any (·.refKey) = false := by
        intro fs
        induction fs with
        | nil => intro es r; rw [show es = [] from r.inv]; rfl
        | cons p fs ih => intro es r; obtain ⟨_, _, _, _, rfl, _, rs⟩ := r.inv; rw [List.any_cons, ih rs]; rfl
      simpa using gen rf
    rw [this, Bool.and_false]
  rw [aRefKeyMayBeTheName_at, c]
  refine wpAny_updatePart D ?_
  have e0 : ∀ (hsh : Int) (key : Value), Obj.putName nm hsh key vx (dictOf es n) = dictOf (putL nm hsh key vx es) (putN nm es n) := fun hsh key => putName_dict nm hsh key vx es n
  have D' : ∀ (hsh : Int) (key : Value), (s.heap.update dx' (Obj.putName nm hsh key vx)).get? dx' = some (dictOf (putL nm hsh key vx es) (putN nm es n)) := fun hsh key => by
    have := Heap.get?_update_self (Obj.putName nm hsh key vx) D (by rw [e0]; rfl)
    rw [e0] at this; exact this
  have len : ∀ (hsh : Int) (key : Value) (l : List DictEntry), (putL nm hsh key vx l).length ≤ l.length + 1 := by
    intro hsh key l
    induction l with
    | nil => simp [putL]
    | cons p r ih => unfold putL; split <;> simp <;> omega
  refine wpAny_bind (wpAny_lookBehind (D' _ _) (pastItsLine_dict (by rw [List.size_toArray]; refine Nat.le_succ_of_le (big_ok (Nat.le_trans (len _ _ es) ?_)); rw [rf.length]; exact Nat.le_trans (Nat.succ_le_succ hz) (by decide))) ?_)
  have kp : ∀ (hsh : Int) (key : Value), Heap.ExtBut dx' s.heap (s.heap.update dx' (Obj.putName nm hsh key vx)) := fun hsh key => (Heap.SameBut.update ..).extBut
  have fin : ∀ (hsh : Int) (t : Tok) (tk : Nat), Q' () { s with heap := s.heap.update dx' (Obj.putName nm hsh (.str nm t) vx), toks := tk } := by
    intro hsh t tk
    have e1 : Ext (F.D σ) s.heap (s.heap.update dx' (Obj.putName nm hsh (.str nm t) vx)) := Ext.of_but fun b o d e => kp _ _ b o (fun q => d (.inl (q ▸ da))) e
    obtain ⟨h1, st⟩ := hs.upd (h' := s.heap.update dx' (Obj.putName nm hsh (.str nm t) vx)) da (fun c o ne e => kp _ _ c o ne e) tk (o := .attrs (fset fs nm x))
      (.attrs (D' _ _) ((rf.put rx).ext e1 fun b q => .inl (q.imp (fun q => (dom_set q).elim (fun (q : b = dx') => by rw [q]; exact da) id) id)))
    exact h _ h1 st.any
  exact wpAny_pure (fin _ _ _)
set_option tactic.hygienic true in
theorem ST.setattr {o e : E} {n : Nat} {nm : Str} (hC : FloorK S C) (hf : Field S C nm) (hnn : ixS AT nm = some n) (hn : notComp e = true)
    (h : ET F m σ e (fun x σ₁ => ET F m σ₁ o (fun a σ₂ => ∃ ad dx fs, a = .loc ad ∧ σ₂ ad = some (.inst dx) ∧ σ₂ dx = some (.attrs fs) ∧ fs.length ≤ 100 ∧ K .next m (σ₂.set dx (.attrs (fset fs nm x)))) X) X) : ST F m σ (.setattr o n e) K X := by
  intro ps hc s hs
  obtain ⟨po, a, pe, p, q, rfl, ho, hk, he⟩ := hc.inv
  have : a = nm := ixS_inj hk hnn
  subst this
  refine plainObj_wpAny_Assign_Attribute ((h _ he s hs).out ?_) (swaps_of he hn)
  rintro vx σ₁ s₁ st₁ h₁ ⟨x, rx, q₁⟩
  refine (q₁ _ ho s₁ h₁).out ?_
  rintro va σ₂ s₂ st₂ h₂ ⟨a', ra, ad, dx, fs, rfl, h3, h4, hz, hK⟩
  obtain rfl := ra.inv
  refine setAttrT hC hf h3 h4 hz h₂ (rx.st st₂ h₂) fun s' h' st' => ?_
  exact ⟨.next, m, _, (st₁.trans st₂).trans st', h', trivial, hK⟩
theorem ET.method {o : E} {n : Nat} {nm : Str} {f : Addr} {args : List E} (hC : FloorK S C) (hn : ixS AT nm = some n) (hf : findIn S.K (.ref C) nm = some (some (.ref f))) (ht : isFn S.K (.ref f) = true) (hk : keepIn S.K (.ref f) = true)
    (h : ET F m σ o (fun a σ₁ => (∃ fs, attrsOf σ₁ a = some fs ∧ fget fs nm = Option.none) ∧ ArgsT F m σ₁ args (fun avs σ₂ => CT F m σ₂ (.ref f) (a :: avs) Q X) X) X) : ET F m σ (.meth o n args) Q X := by
  intro pe hc s hs
  obtain ⟨po, a, ap, pargs, p, rfl, hsup, hline, hlen, ho, hk', ha⟩ := hc.inv
  have : a = nm := ixS_inj hk' hn
  subst this
  have hbase := base_of (nm := a) (env := F.env) (x := eval po F.env) hsup
  have hfew := callForm (pos := p) ha hlen
  have hline' : (ap.endLine == p.line) = true := by simpa using hline
  show wpAny _ _ (eval (.Call (.Attribute po a ap) pargs [] p) F.env) _ _ _
  rw [arm_eval_Call, hbase]
  refine wpAny_bind ((h _ ho s hs).out ?_)
  rintro ov σ₁ s₁ st₁ h₁ ⟨av, ra, ⟨fs, hfs, hno⟩, hargs⟩
  refine wpAny_bind (wpAny_standAt ?_)
  have hform : methodCallForm (pargs.length + ([] : List Keyword).length) (backTo p (starEach pargs F.env)) (backToKw p (keywordEach [] F.env)) = true := hfew
  have hpos : methodCallPos true po F.env ap p = pure p := by unfold methodCallPos; simp [hline']
  unfold methodCall
  rw [hform]
  obtain ⟨x, dx, es, n', rfl, I, rf⟩ := ra.instAt hC h₁ hfs
  refine wpAny_bind (wpAny_holding (method_fn (S.X.keeps h₁.inv.keep) I (plainGet_of hC.get).1 (plainGet_of hC.get).2 hf (beq_iff_eq.mp ht) (by show (lookIn a (dictOf es n')).map _ = _; rw [lookIn_dict, rf.get.2 hno]; rfl) ?_))
  refine wpAny_bind (wpAny_of_eq hpos ?_)
  cases ha with
  | nil =>
    refine callWithT0 (Callable.own hk) h₁ ?_
    exact (hargs [.ref x] s₁ h₁ (.cons ra .nil)).later st₁
  | cons hn1 he1 hr1 =>
    refine callWithT (.cons hn1 he1 hr1) (Callable.own hk) hargs h₁ ?_
    intro vals avs σ₂ s₂ st₂ h₂ rl q
    exact (q (.ref x :: vals) s₂ h₂ (.cons (ra.st st₂ h₂) rl)).later (st₁.trans st₂)
end
end Mine
end
section
namespace Mine
open PySem PyProof.Rows PySem.W
variable {prog : Program} {w : World} {S : Sta prog w}
section
variable {N : Addr → Prop} {σ σ' : Store} {v : AV}
theorem View.same : View S N v σ v σ := fun zz zz hi r => ⟨hi, Step.refl _ _ _ _, r⟩
theorem View.drop (h : ∀ a o, σ' a = some o → σ a = some o) : View S N v σ v σ' := fun s u hi r => by
  obtain ⟨i, st⟩ := hi.drop h
  exact ⟨i, st, r.step st (fun zz h => h.elim) (fun zz h => h.elim)⟩
theorem View.trans {v₁ v₂ : AV} {σ₁ σ₂ : Store} (x : View S N v σ v₁ σ₁) (y : View S N v₁ σ₁ v₂ σ₂) : View S N v σ v₂ σ₂ := fun s u hi r => by
  obtain ⟨i, st, r1⟩ := x s u hi r
  obtain ⟨i2, st2, r2⟩ := y s u i r1
  exact ⟨i2, st.trans st2, r2⟩
theorem del_some {a b : Addr} {o : AObj} (h : (σ.del a) b = some o) : b ≠ a ∧ σ b = some o := by
  unfold Store.del at h
  by_cases q : b = a
  · rw [if_pos q] at h; cases h
  · rw [if_neg q] at h; exact ⟨q, h⟩
theorem not_dom_del {a : Addr} : ¬ Dom (σ.del a) a := fun d => d (if_pos rfl)
theorem View.list {a : Addr} {l : List AV} (h : σ a = some (.list l)) : View S N (.loc a) σ (.list l) (σ.del a) := fun s u hi r => by
  obtain ⟨i, st⟩ := hi.drop (σ' := σ.del a) fun b o e => (del_some e).2
  refine ⟨i, st, ?_⟩
  obtain rfl := r.inv
  obtain ⟨vs, n, e, r⟩ := (hi.rep a _ h).inv
  exact .list e (fun d => d.elim not_dom_del (hi.σN a (by unfold Dom; rw [h]; simp))) (r.step st (fun zz h => h.elim) (fun zz h => h.elim))
theorem View.dict {a : Addr} {l : List (Spot × AV)} (h : σ a = some (.dict l)) : View S N (.loc a) σ (.dict l) (σ.del a) := fun s u hi r => by
  obtain ⟨i, st⟩ := hi.drop (σ' := σ.del a) fun b o e => (del_some e).2
  refine ⟨i, st, ?_⟩
  obtain rfl := r.inv
  obtain ⟨vs, n, e, sm, nd, r⟩ := (hi.rep a _ h).inv
  exact .dict e (fun d => d.elim not_dom_del (hi.σN a (by unfold Dom; rw [h]; simp))) sm nd (r.step st (fun zz h => h.elim) (fun zz h => h.elim))
inductive Froze (σ : Store) : List Addr → AV → AV → Prop
  | same (v : AV) : Froze σ [] v v
  | list {a : Addr} {l : List AV} : σ a = some (.list l) → Froze σ [a] (.loc a) (.list l)
  | dict {a : Addr} {l : List (Spot × AV)} : σ a = some (.dict l) → Froze σ [a] (.loc a) (.dict l)
class inductive FrozeF (σ : Store) : List Addr → List (Str × AV) → List (Str × AV) → Prop
  | nil : FrozeF σ [] [] []
  | cons {as bs : List Addr} {n : Str} {v v' : AV} {l l' : List (Str × AV)} : Froze σ as v v' → FrozeF σ bs l l' → FrozeF σ (as ++ bs) ((n, v) :: l) ((n, v') :: l')
noncomputable def Store.dels (σ : Store) (as : List Addr) : Store := fun b => if b ∈ as then Option.none else σ b
theorem dels_some {as : List Addr} {b : Addr} {o : AObj} (h : (σ.dels as) b = some o) : b ∉ as ∧ σ b = some o := by
  unfold Store.dels at h
  by_cases q : b ∈ as
  · rw [if_pos q] at h; cases h
  · rw [if_neg q] at h; exact ⟨q, h⟩
theorem not_dom_dels {as : List Addr} {a : Addr} (h : a ∈ as) : ¬ Dom (σ.dels as) a := fun d => d (if_pos h)
theorem Froze.rep {s : Shared} {as al : List Addr} {v v' : AV} {u : Value} (f : Froze σ as v v') (hi : Inv S N σ s) (hal : ∀ a ∈ as, a ∈ al) (st : Step noO noO σ s (σ.dels al) s) (r : Rep S.cv s.heap (DN N σ) v u) : Rep S.cv s.heap (DN N (σ.dels al)) v' u := by
  induction f with
  | same => exact r.step st (fun zz h => h.elim) (fun zz h => h.elim)
  | @list a l h =>
    obtain rfl := r.inv
    obtain ⟨vs, n, e, r⟩ := (hi.rep a _ h).inv
    exact .list e (fun d => d.elim (not_dom_dels (hal a (.head _))) (hi.σN a (by unfold Dom; rw [h]; simp))) (r.step st (fun zz h => h.elim) (fun zz h => h.elim))
  | @dict a l h =>
    obtain rfl := r.inv
    obtain ⟨vs, n, e, sm, nd, r⟩ := (hi.rep a _ h).inv
    exact .dict e (fun d => d.elim (not_dom_dels (hal a (.head _))) (hi.σN a (by unfold Dom; rw [h]; simp))) sm nd (r.step st (fun zz h => h.elim) (fun zz h => h.elim))
theorem FrozeF.rep {s : Shared} {al : List Addr} (hi : Inv S N σ s) (st : Step noO noO σ s (σ.dels al) s) {as : List Addr} {fs fs' : List (Str × AV)} {es : List DictEntry} (f : FrozeF σ as fs fs') (hal : ∀ a ∈ as, a ∈ al) (r : RepF S.cv s.heap (DN N σ) fs es) : RepF S.cv s.heap (DN N (σ.dels al)) fs' es := by
  induction f generalizing es with
  | nil => rw [show es = [] from r.inv]; exact .nil
  | cons f fr ih =>
    obtain ⟨_, _, _, _, rfl, r, rs⟩ := r.inv
    exact .cons (f.rep hi (fun a h => hal a (List.mem_append.mpr (.inl h))) st r) (ih (fun a h => hal a (List.mem_append.mpr (.inr h))) rs)
theorem View.inst {x dx : Addr} {fs fs' : List (Str × AV)} {as : List Addr} (h : σ x = some (.inst dx)) (h' : σ dx = some (.attrs fs)) (f : FrozeF σ as fs fs') : View S N (.loc x) σ (.inst fs') (σ.dels (x :: dx :: as)) := fun s u hi r => by
  obtain ⟨i, st⟩ := hi.drop (σ' := σ.dels (x :: dx :: as)) fun b o e => (dels_some e).2
  refine ⟨i, st, ?_⟩
  · · obtain rfl := r.inv
      obtain ⟨e, nf⟩ := (hi.rep x _ h).inv
      obtain ⟨es, n, e', r⟩ := (hi.rep dx _ h').inv
      exact .inst e nf e' (fun d => d.elim (not_dom_dels (.head _)) (hi.σN x (by unfold Dom; rw [h]; simp))) (fun d => d.elim (not_dom_dels (.tail _ (.head _))) (hi.σN dx (by unfold Dom; rw [h']; simp)))
        (FrozeF.rep hi st f (fun a q => .tail _ (.tail _ q)) r)
end
section
variable {F : Fx S} {m : Vars} {σ : Store} {X : Value → Shared → Prop} {Q : AV → Store → Prop} {C : Addr}
theorem CT.make {k : Nat} {fI : Addr} {avs : List AV} {Y : KX} (hC : FloorK S C) (hi : findIn S.K (.ref C) "__init__" = some (some (.ref fI))) (hf : isFn S.K (.ref fI) = true) (hk : k + 1 ≤ F.k)
    (h : ∀ x dx, ¬ Dom σ x → ¬ Dom σ dx → x ≠ dx → CallT S k (.ref fI) (.loc x :: avs) ((σ.set dx (.attrs [])).set x (.inst dx)) (fun av σ₂ => av = .none ∧ ∀ N, ∃ v' σ₃, View S N (.loc x) σ₂ v' σ₃ ∧ Q v' σ₃) Y) : CT F m σ (.ref C) avs Q (XF F m Y) := by
  intro vals s hs rl
  refine wpAny_call ?_
  have e1 : s = ⟨s.heap, s.gens, s.drawn, s.toks, s.os⟩ := rfl
  rw [e1]
  refine make_core (makes_of (S.X.keeps hs.inv.keep) hC.make) (looks_findIn (S.X.keeps hs.inv.keep) hi) (fun self => bind_fn (S.X.keeps hs.inv.keep) self (beq_iff_eq.mp hf)) (.inl rfl) ?_
  generalize hA : F.A.under (.builtin "type.__call__" ⟨.ref C :: vals, []⟩) = A'
  have fx : s.heap.get? s.heap.objs.size = Option.none := get_size _
  have fy : s.heap.get? (s.heap.objs.size + 1) = Option.none := by
    cases q : s.heap.get? (s.heap.objs.size + 1) with
    | none => rfl
    | some o => exact absurd (Heap.lt_size q) (Nat.not_lt.mpr (Nat.le_succ _))
  have ne : s.heap.objs.size + 1 ≠ s.heap.objs.size := Nat.succ_ne_self _
  have g1 : (s.heap.push emptyDict).get? s.heap.objs.size = some (dctObj #[] 0) := Heap.get?_push_size _ rfl
  obtain ⟨i1, st1⟩ := hs.inv.new (h' := s.heap.push emptyDict) (push_keeps _ _) s.toks (a := s.heap.objs.size) fx (o := .attrs []) (.attrs (es := []) g1 .nil)
  have fz : (s.heap.push emptyDict).get? (s.heap.objs.size + 1) = Option.none := by
    have := get_size (s.heap.push emptyDict)
    rw [Heap.size_push] at this; exact this
  have g2 : ((s.heap.push emptyDict).push (instObj C s.heap.objs.size)).get? (s.heap.objs.size + 1) = some (insObj (S.cv floorG) s.heap.objs.size) := by
    rw [hC.cv]
    have := Heap.get?_push_size (s.heap.push emptyDict) (o := instObj C s.heap.objs.size) rfl
    rw [Heap.size_push] at this; exact this
  obtain ⟨i2, st2⟩ := i1.new (h' := (s.heap.push emptyDict).push (instObj C s.heap.objs.size)) (push_keeps _ _) s.toks (a := s.heap.objs.size + 1) fz (o := .inst s.heap.objs.size) (.inst g2 ⟨C, hC.cv⟩)
  have st := st1.trans st2
  have eF : A'.frames = F.A.frames := by rw [← hA]; rfl
  have eP : ∀ a, Frm A' a → F.P a := fun a ⟨l, h1, h2⟩ => ⟨l, eF ▸ h1, h2⟩
  have room : Room S F.N k A' := by
    rw [← hA]
    have h1 : (F.A.under (.builtin "type.__call__" ⟨.ref C :: vals, []⟩)).handled = F.A.handled := rfl
    have h2 : (F.A.under (.builtin "type.__call__" ⟨.ref C :: vals, []⟩)).depth = F.A.depth + 1 := rfl
    have h3 : (F.A.under (.builtin "type.__call__" ⟨.ref C :: vals, []⟩)).units = F.A.units + 1 := rfl
    exact ⟨h1.trans F.room.hh, F.room.fr, by rw [h2]; have := F.room.dp; omega, by rw [h3]; have := F.room.un; omega⟩
  have hc := h (s.heap.objs.size + 1) s.heap.objs.size (hs.inv.not_dom fy) (hs.inv.not_dom fx) ne F.N A' (.ref (s.heap.objs.size + 1) :: vals) _ room i2 (.cons (.loc _) (rl.step st (fun zz h => h.elim) (fun zz h => h.elim)))
  refine codeAny_mono hc fun r s' z => ?_
  cases r with
  | error e =>
    obtain ⟨ea, c, σ', s₀, h1, h2, h3, h4, h5⟩ := z
    refine ⟨ea, c, σ', s₀, h1, ⟨?_, h2.up, h2.rest⟩, hs.to ((st.any (P := F.P) (O := noO)).trans (h3.wide eP)) h4 (fun zz h => h), h5⟩
    obtain ⟨base, l, q1, q2, q3⟩ := h2.fly
    exact ⟨base, l, eF ▸ q1, q2, q3⟩
  | ok fl =>
    cases fl with
    | ret v =>
      obtain ⟨av, σ₂, st3, i3, r3, rfl, hq⟩ := z
      obtain rfl := r3.inv
      obtain ⟨v', σ₃, hv, hQ⟩ := hq F.N
      obtain ⟨i4, st4, r4⟩ := hv s' (.ref (s.heap.objs.size + 1)) i3 (.loc _)
      have stt : Step F.P noO σ s σ₃ s' := ((st.any (P := F.P) (O := noO)).trans (st3.wide eP)).trans st4.any
      refine ⟨rfl, σ₃, stt.mono (fun zz h => h.elim), hs.to stt i4 (fun zz h => h), v', r4, hQ⟩
    | _ => exact z.elim
end
end Mine
end
section
namespace Mine
open PySem PyProof.Rows PySem.W PySem.Calls PySem.Spec
variable {prog : Program} {w : World} {S : Sta prog w}
structure ExcK (K : Frag) (C : Addr) : Prop where
  get : findIn K (.ref C) "__getattribute__" = some (some (.builtin "BaseException.__getattribute__"))
  hook : findIn K (.ref C) "__getattr__" = some Option.none
  dct : (clsIn K C).isSome = true
  fnd : findIn K (.ref C) "__class__" = some (some (.builtin "object.__class__"))
  spc : specialIn K (.builtin "object.__class__") "__get__" = some (some (.builtin "getset_descriptor.__get__"))
  tak : takesIn K (.builtin "object.__class__") = some true
  mro : mroIn K C (.type "object") = some true
  sub : subIn K (.ref C) (.type "BaseException") = some true
theorem findObj_none {K : Frag} {C : Addr} {name : Str} {a g : Value} (hc : (clsIn K C).isSome = true) (ha : findIn K (.ref C) name = some (some a)) (hg : specialIn K a "__get__" = some (some g)) (ht : takesIn K a = some true) : findObj K C Option.none name = some (.bind g a) := by
  obtain ⟨cd, hc⟩ := Option.isSome_iff_exists.mp hc
  unfold findObj
  rw [hc, Option.bind_some, ha, Option.bind_some]
  simp [hg, ht]
theorem exc_class {K : Frag} {e D : Addr} {ox : Obj} {A : Around} {E : Value → Shared → Prop} {Q : Option Value → Shared → Prop} {s : Shared} (x : ExcK K D) (X : K.In s.heap) (I : InstAt s.heap e ox D Option.none) (h : Q (some (.ref D)) { s with toks := s.toks + 1 }) :
    wpAny (model prog w) A (getAttr? (.ref e) "__class__") Q E s := by
  have hf : findObj K D Option.none "__class__" = some (.bind (.builtin "getset_descriptor.__get__") (.builtin "object.__class__")) := findObj_none x.dct x.fnd x.spc x.tak
  obtain ⟨hh, g, d, t, os⟩ := s
  have L0 := I.type (M := model prog w)
  have L1 := looks_findIn (M := model prog w) X x.get
  have L2 := looks_findIn (M := model prog w) X x.hook
  have L3 := looks_find (M := model prog w) X I hf
  have L4 : Looks (model prog w) hh (isInstance (.ref e) (.type "BaseException")) true := L0.andThen (looks_subIn X x.sub)
  unfold getAttr? getAttrBy? getAttrBy
  refine wpAny_bind (wpAny_mkText (wpAny_bind (wpAny_attempt (wpAny_holding (wpAny_bind (L0.at (wpAny_bind (L1.at ?_))))))))
  show wpAny _ _ (if (onTheHeap (Value.ref D) && Value.builtin "BaseException.__getattribute__" == Value.builtin "object.__getattribute__") = true then _ else getAttrByItsOwn _ _ _ _ _ _) _ _ _
  have hx2 : (Value.builtin "BaseException.__getattribute__" == Value.builtin "object.__getattribute__") = false := by decide +kernel
  rw [if_neg (by rw [hx2, Bool.and_false]; simp)]
  unfold getAttrByItsOwn hookBefore
  rw [if_pos (show onTheHeap (Value.ref D) = true from rfl)]
  refine wpAny_bind (L2.at ?_)
  unfold callGetattribute
  refine wpAny_bind (wpAny_attempt (wpAny_holding ?_))
  rw [if_neg (show ¬ (false && onTheHeap (Value.builtin "BaseException.__getattribute__")) = true by simp)]
  unfold boundAndCalled
  rw [PySem.F.excAttr_ValueError.ga.bind (.ref e)]
  refine wpAny_bind (wpAny_pure (wpAny_call (codeAny_call_builtin PySem.F.excAttr_ValueError.ga.plain PySem.F.entry_bexc_ga ?_)))
  have hk : builtinKind "BaseException.__getattribute__" = some .slot := by decide +kernel
  have hsplit : splitId "BaseException.__getattribute__" = some ("BaseException", "__getattribute__") := by decide +kernel
  have ha := PySem.F.args_bexc_ga (.ref e) (.str "__class__" t)
  show wpAny _ _ (checkBuiltinCall "BaseException.__getattribute__" ⟨[.ref e, .str "__class__" t], []⟩) (fun zz s₁ => wpAny _ _ (Builtin.«object.__getattribute__» ⟨[.ref e, .str "__class__" t], []⟩) _ _ s₁) _ _
  simp only [checkBuiltinCall, hk, hsplit]
  refine wpAny_bind (L4.at ?_)
  repeat (first | assumption | wp_step)
  refine wpAny_loadPart_at I.at_ ?_
  rw [I.cls]
  refine wpAny_pure (wpAny_bind (L3.at ?_))
  show wpAny _ _ (holding [Value.builtin "object.__class__"] (call (.builtin "getset_descriptor.__get__") [.builtin "object.__class__", .ref e, .ref D]) >>= ret) _ _ _
  refine wpAny_bind (wpAny_holding (wpAny_call (class_get (s := ⟨hh, g, d, t + 1, os⟩) (ox := ox) (od := Option.none) X I x.mro ?_)))
  refine wpAny_pure ?_
  exact handed_on (show handedIn (Value.ref D) = true from rfl) (wpAny_pure h)
set_option tactic.hygienic true in
theorem kitx_exc {K : Frag} {e D : Addr} (x : ExcK K D) : KitX K (.ref e) (.ref D) (fun h => ∃ ox, InstAt h e ox D Option.none) where
  ty := fun _ _ _ ⟨_, I⟩ => I.type
  it := fun zz zz X zz => by
    obtain ⟨cdD, hcD⟩ := Option.isSome_iff_exists.mp x.dct
    unfold clsIn at hcD
    split at hcD
    · rename_i c' d' cd' sl' ho
      intro A' Q' E' s' k q
      unfold isType loadHead
      exact wpAny_bind (wpAny_loadPart (k _ _ (X _ _ ho)) (wpAny_pure q))
    · cases hcD
  ne := fun h tp dd its n sl X htp => by
    obtain ⟨cdD, hcD⟩ := Option.isSome_iff_exists.mp x.dct
    refine Bool.eq_false_iff.mpr fun q => ?_
    have e : D = tp := Value.ref.inj (beq_iff_eq.mp q)
    subst e
    unfold clsIn at hcD
    split at hcD
    · rename_i c' d' cd' sl' ho
      have z := (X _ _ ho).symm.trans htp
      cases z
    · cases hcD
  ca := fun X ⟨_, I⟩ k => exc_class x X I k
section
variable {F : Fx S} {m : Vars} {σ : Store} {X : Value → Shared → Prop} {Q : AV → Store → Prop}
theorem CT.isx {c j : Nat} {C : Addr} {b : Bool} (hC : S.cv c = .ref C) (x : ExcK S.K C) (hs : kitOne S.K (S.cv c) (S.cv j) = some b) (h : Q (.bool b) σ) : CT F m σ (.builtin "isinstance") [.exc c, .cls j] Q X := by
  intro vals s hst r
  obtain ⟨v, u, rfl, ra, rc⟩ := r.two
  · obtain rfl := rc.inv
    obtain ⟨a, o, rfl, e, hc, hf, d, n⟩ := ra.inv
    have I : InstAt s.heap a o C Option.none := ⟨e, hc.trans hC, by obtain ⟨⟨vs, q⟩, _⟩ := hf; unfold notCls; rw [q], by rw [hf.2]; trivial⟩
    rw [hC] at hs
    exact kia_one (kitx_exc x) (S.X.keeps hst.inv.keep) ⟨o, I⟩ hs (by intro q; cases q) fun tk => nowT tk hst (.bool b) h
end
end Mine
end
section
namespace Mine
open PySem PyProof.Rows PySem.W
variable {prog : Program} {w : World} {S : Sta prog w}
noncomputable abbrev KV := AV → Store → Prop
noncomputable abbrev KB := Bool → Store → Prop
noncomputable abbrev KS := Fl → Vars → Store → Prop
noncomputable def frs (mu : Bool) (σ : Store) (o : AObj) (fz : AV) (Q : KV) : Prop := match mu with
  | true => ∀ a, ¬ Dom σ a → Q (.loc a) (σ.set a o)
  | false => Q fz σ
theorem frs.fresh {mu : Bool} {σ : Store} {o : AObj} {fz : AV} {Q : KV} (h : frs mu σ o fz Q) : Fresh σ o fz Q := by
  cases mu
  · exact .inl h
  · exact .inr h
noncomputable def OwnT (S : Sta prog w) (k i : Nat) (avs : List AV) (σ : Store) (Q : KV) (X : KX) : Prop := ∀ F : Fx S, k ≤ F.k → ∀ m, CT F m σ (S.cv i) avs Q (XF F m X)
noncomputable def MethT (S : Sta prog w) (k : Nat) (f : Addr) (avs : List AV) (σ : Store) (Q : KV) (X : KX) : Prop := ∀ F : Fx S, k ≤ F.k → ∀ m, CT F m σ (.ref f) avs Q (XF F m X)
theorem OwnT.fn {k i : Nat} {avs : List AV} {σ : Store} {Q : KV} {X : KX} (h : CallT S k (S.cv i) avs σ Q X) : OwnT S k i avs σ Q X := fun zz hk zz => CT.own h hk
theorem MethT.fn {k : Nat} {f : Addr} {avs : List AV} {σ : Store} {Q : KV} {X : KX} (h : CallT S k (.ref f) avs σ Q X) : MethT S k f avs σ Q X := fun zz hk zz => CT.own h hk
set_option genInjectivity false in
structure Wd where
  k : Nat
  U : Nat → Bool
  C : Addr
  M : Nat → Option Addr
noncomputable def bvL : List Value := [.builtin "len", .builtin "isinstance", .type "int", .type "bool", .type "tuple", .type "list", .type "str", .type "dict", .type "range", .type "enumerate", .builtin "sorted", .builtin "sum", .builtin "abs", .builtin "min", .builtin "max", .builtin "all", .builtin "any"]
noncomputable def bv (i : Nat) : Value := (bvL[i]?).getD (.builtin "any")
noncomputable def isBT : Value → Bool
  | .builtin _ => true
  | .type _ => true
  | _ => false
noncomputable def xsub (c j : Nat) : Bool := j == 17 || j == 18 || j == c
structure Good (S : Sta prog w) (W : Wd) : Prop where
  glob : ∀ i, W.U i = true → Glob S i (S.cv i)
  bu : ∀ i, i < 17 → W.U i = true
  own : ∀ i, W.U i = true → 17 ≤ i → i ≠ 28 → Callable S (S.cv i)
  base : ∀ i, i < 17 → S.cv i = bv i
  six : ∃ t, S.cv 28 = .int 6 t
  floor : FloorK S W.C
  texts : Field S W.C "texts"
  cells : Field S W.C "own"
  exc : ∀ i, 18 ≤ i → i ≤ 27 → W.U i = true → ∃ x C bm nid ini, ixS GT x = some i ∧ S.cv i = .ref C ∧ OwnCls x C bm nid S.mg S.g ∧ ExcBaseFacts "ValueError" nid ini bm
  exk : ∀ c C, 18 ≤ c → c ≤ 27 → W.U c = true → S.cv c = .ref C → ExcK S.K C
  sub : ∀ c j, 18 ≤ c → c ≤ 27 → W.U c = true → 17 ≤ j → j ≤ 27 → W.U j = true → exmOne S.K (S.cv c) (S.cv j) = some (xsub c j) ∧ kitOne S.K (S.cv c) (S.cv j) = some (xsub c j)
  meth : ∀ n f, W.M n = some f → ∃ nm, ixS AT nm = some n ∧ nm ≠ "texts" ∧ nm ≠ "own" ∧ findIn S.K (.ref W.C) nm = some (some (.ref f)) ∧ isFn S.K (.ref f) = true ∧ keepIn S.K (.ref f) = true
inductive binV (mu : Bool) : Operator → AV → AV → Store → KV → Prop
  | add {x y : Int} {σ : Store} {Q : KV} (h : Q (.int (x + y)) σ) : binV mu .Add (.int x) (.int y) σ Q
  | sub {x y : Int} {σ : Store} {Q : KV} (h : Q (.int (x - y)) σ) : binV mu .Sub (.int x) (.int y) σ Q
  | mul {x y : Int} {σ : Store} {Q : KV} (ho : IntMulOk x y) (h : Q (.int (x * y)) σ) : binV mu .Mult (.int x) (.int y) σ Q
  | mod {x y : Int} {σ : Store} {Q : KV} (hy : y ≠ 0) (h : Q (.int (x.fmod y)) σ) : binV mu .Mod (.int x) (.int y) σ Q
  | div {x y : Int} {σ : Store} {Q : KV} (hy : y ≠ 0) (hy' : y.natAbs < 1073741824) (h : Q (.int (x.fdiv y)) σ) : binV mu .FloorDiv (.int x) (.int y) σ Q
  | adds {x y : Str} {σ : Store} {Q : KV} (ho : x.length + y.length ≤ big) (h : Q (.str (x ++ y)) σ) : binV mu .Add (.str x) (.str y) σ Q
  | muls {x : Str} {n : Int} {σ : Store} {Q : KV} (ho : MulOk x n) (h : Q (.str (Txt.mul x n)) σ) : binV mu .Mult (.str x) (.int n) σ Q
  | addl {a b : AV} {l k : List AV} {σ : Store} {Q : KV} (ha : dl σ a = some l) (hb : dl σ b = some k) (hz : l.length + k.length ≤ big) (h : frs mu σ (.list (l ++ k)) (.list (l ++ k)) Q) : binV mu .Add a b σ Q
  | mull {a : AV} {l : List AV} {x : Int} {σ : Store} {Q : KV} (hl : dl σ a = some l) (h0 : 0 ≤ x) (h1 : l.length * x.toNat ≤ 1000000) (h2 : x < 1000000) (h : frs mu σ (.list (List.replicate x.toNat l).flatten) (.list (List.replicate x.toNat l).flatten) Q) : binV mu .Mult a (.int x) σ Q
inductive cmpV : CmpOp → AV → AV → Store → KB → Prop
  | eqI {x y : Int} {σ : Store} {B : KB} (h : B (x == y) σ) : cmpV .Eq (.int x) (.int y) σ B
  | neI {x y : Int} {σ : Store} {B : KB} (h : B (!(x == y)) σ) : cmpV .NotEq (.int x) (.int y) σ B
  | eq {a b : AV} {da db : PyData} {σ : Store} {B : KB} (h1 : toPyS σ a = some da) (h2 : toPyS σ b = some db) (h3 : SeqAt.shaped da = true) (h4 : SeqAt.shaped db = true) (h : B (PyData.eqv da db) σ) : cmpV .Eq a b σ B
  | ne {a b : AV} {da db : PyData} {σ : Store} {B : KB} (h1 : toPyS σ a = some da) (h2 : toPyS σ b = some db) (h3 : SeqAt.shaped da = true) (h4 : SeqAt.shaped db = true) (h : B (!PyData.eqv da db) σ) : cmpV .NotEq a b σ B
  | lt {x y : Int} {σ : Store} {B : KB} (h : B (decide (x < y)) σ) : cmpV .Lt (.int x) (.int y) σ B
  | le {x y : Int} {σ : Store} {B : KB} (h : B (decide (x ≤ y)) σ) : cmpV .LtE (.int x) (.int y) σ B
  | gt {x y : Int} {σ : Store} {B : KB} (h : B (decide (y < x)) σ) : cmpV .Gt (.int x) (.int y) σ B
  | inS {x y : Str} {σ : Store} {B : KB} (h : B (Txt.contains x y) σ) : cmpV .In (.str y) (.str x) σ B
  | inD {k : Spot} {a : AV} {l : List (Spot × AV)} {σ : Store} {B : KB} (e : dd σ a = some l) (h : B (dget l k).isSome σ) : cmpV .In (.tup [.int k.1, .int k.2]) a σ B
  | ninD {k : Spot} {a : AV} {l : List (Spot × AV)} {σ : Store} {B : KB} (e : dd σ a = some l) (h : B (!(dget l k).isSome) σ) : cmpV .NotIn (.tup [.int k.1, .int k.2]) a σ B
  | inL {a b : AV} {d : PyData} {xs : List PyData} {σ : Store} {B : KB} (h1 : toPyS σ a = some d) (h2 : seqPy σ b = some xs) (h3 : PyData.canLayAll0 xs = true) (h4 : d.canLay0 = true) (h5 : d.depth ≤ 100) (h : B (xs.any fun y => PyData.eqv y d) σ) : cmpV .In a b σ B
  | ninL {a b : AV} {d : PyData} {xs : List PyData} {σ : Store} {B : KB} (h1 : toPyS σ a = some d) (h2 : seqPy σ b = some xs) (h3 : PyData.canLayAll0 xs = true) (h4 : d.canLay0 = true) (h5 : d.depth ≤ 100) (h : B (!xs.any fun y => PyData.eqv y d) σ) : cmpV .NotIn a b σ B
inductive subV : AV → AV → Store → KV → Prop
  | tup {l : List AV} {i : Int} {x : AV} {σ : Store} {Q : KV} (h0 : 0 ≤ i) (h1 : i < 1000000) (h2 : l[i.toNat]? = some x) (h : Q x σ) : subV (.tup l) (.int i) σ Q
  | str {x : Str} {i : Int} {c : Nat} {σ : Store} {Q : KV} (h0 : 0 ≤ i) (h1 : i < 1000000) (h2 : x.cps[i.toNat]? = some c) (h : Q (.str ⟨#[c]⟩) σ) : subV (.str x) (.int i) σ Q
  | nums {l : List Int} {i x : Int} {σ : Store} {Q : KV} (h0 : 0 ≤ i) (h1 : i < 1000000) (h2 : l[i.toNat]? = some x) (h : Q (.int x) σ) : subV (.nums l) (.int i) σ Q
  | list {a x : AV} {l : List AV} {i : Int} {σ : Store} {Q : KV} (h0 : 0 ≤ i) (h1 : i < 1000000) (hl : dl σ a = some l) (h2 : l[i.toNat]? = some x) (h : Q x σ) : subV a (.int i) σ Q
  | dict {a x : AV} {l : List (Spot × AV)} {k : Spot} {σ : Store} {Q : KV} (hl : dd σ a = some l) (h2 : dget l k = some x) (h : Q x σ) : subV a (sp k) σ Q
noncomputable def sliceV (mu : Bool) (a x y : AV) (σ : Store) (Q : KV) : Prop := match a with
  | .str t => ∃ t', t.length ≤ big ∧ cutS t x y = some t' ∧ Q (.str t') σ
  | a => ∃ l l', dl σ a = some l ∧ l.length ≤ big ∧ cut l x y = some l' ∧ frs mu σ (.list l') (.list l') Q
noncomputable def tyCls : Nat → Option Ty
  | 2 => some .int
  | 3 => some .bool
  | 4 => some .tup
  | 5 => some .list
  | 6 => some .str
  | 7 => some .dict
  | _ => Option.none
inductive callV (S : Sta prog w) (W : Wd) (X : KX) (mu : Bool) : Nat → List AV → Store → KV → Prop
  | lenS {x : Str} {σ : Store} {Q : KV} (hz : x.length ≤ big) (h : Q (.int x.length) σ) : callV S W X mu 0 [.str x] σ Q
  | lenT {l : List AV} {σ : Store} {Q : KV} (hz : l.length ≤ big) (h : Q (.int l.length) σ) : callV S W X mu 0 [.tup l] σ Q
  | lenN {l : List Int} {σ : Store} {Q : KV} (hz : l.length ≤ big) (h : Q (.int l.length) σ) : callV S W X mu 0 [.nums l] σ Q
  | lenL {a : AV} {l : List AV} {σ : Store} {Q : KV} (hl : dl σ a = some l) (hz : l.length ≤ big) (h : Q (.int l.length) σ) : callV S W X mu 0 [a] σ Q
  | lenD {a : AV} {l : List (Spot × AV)} {σ : Store} {Q : KV} (hl : dd σ a = some l) (hz : l.length ≤ big) (h : Q (.int l.length) σ) : callV S W X mu 0 [a] σ Q
  | isx {c j : Nat} {σ : Store} {Q : KV} (h1 : 18 ≤ c ∧ c ≤ 27) (h2 : W.U c = true) (h3 : 17 ≤ j ∧ j ≤ 27) (h4 : W.U j = true) (h : Q (.bool (xsub c j)) σ) : callV S W X mu 1 [.exc c, .cls j] σ Q
  | isi {a : AV} {j : Nat} {t u : Ty} {σ : Store} {Q : KV} (h1 : tyA σ a = some t) (h2 : tyCls j = some u) (h : Q (.bool (isT t u)) σ) : callV S W X mu 1 [a, .cls j] σ Q
  | tupL {a : AV} {l : List AV} {σ : Store} {Q : KV} (hl : dl σ a = some l) (hz : l.length ≤ big) (h : Q (.tup l) σ) : callV S W X mu 4 [a] σ Q
  | listS {x : Str} {σ : Store} {Q : KV} (hq : S.hx = Option.none) (hz : x.length ≤ big) (h : frs mu σ (.list (signs x)) (.list (signs x)) Q) : callV S W X mu 5 [.str x] σ Q
  | listT {l : List AV} {σ : Store} {Q : KV} (hz : l.length ≤ big) (h : frs mu σ (.list l) (.list l) Q) : callV S W X mu 5 [.tup l] σ Q
  | listL {a : AV} {l : List AV} {σ : Store} {Q : KV} (hl : dl σ a = some l) (hz : l.length ≤ big) (h : frs mu σ (.list l) (.list l) Q) : callV S W X mu 5 [a] σ Q
  | listD {a : AV} {l : List (Spot × AV)} {σ : Store} {Q : KV} (hl : dd σ a = some l) (hq : S.hx = Option.none) (hz : l.length ≤ big) (h : frs mu σ (.list (l.map fun p => sp p.1)) (.list (l.map fun p => sp p.1)) Q) : callV S W X mu 5 [a] σ Q
  | range1 {n : Int} {σ : Store} {Q : KV} (h : Q (.range 0 n 1) σ) : callV S W X mu 8 [.int n] σ Q
  | range2 {a b : Int} {σ : Store} {Q : KV} (h : Q (.range a b 1) σ) : callV S W X mu 8 [.int a, .int b] σ Q
  | range3 {a b c : Int} {σ : Store} {Q : KV} (h0 : c ≠ 0) (h1 : c.natAbs < 1073741824) (h : Q (.range a b c) σ) : callV S W X mu 8 [.int a, .int b, .int c] σ Q
  | min {a b : Int} {σ : Store} {Q : KV} (hq : S.hx = Option.none) (h : Q (.int (if b < a then b else a)) σ) : callV S W X mu 13 [.int a, .int b] σ Q
  | max {a b : Int} {σ : Store} {Q : KV} (hq : S.hx = Option.none) (h : Q (.int (if b > a then b else a)) σ) : callV S W X mu 14 [.int a, .int b] σ Q
  | all {a : AV} {bs : List Bool} {σ : Store} {Q : KV} (hq : S.hx = Option.none) (hl : dl σ a = some (bs.map .bool)) (h : Q (.bool (bs.all id)) σ) : callV S W X mu 15 [a] σ Q
  | any {a : AV} {bs : List Bool} {σ : Store} {Q : KV} (hq : S.hx = Option.none) (hl : dl σ a = some (bs.map .bool)) (h : Q (.bool (bs.any id)) σ) : callV S W X mu 16 [a] σ Q
  | own {i : Nat} {avs : List AV} {σ : Store} {Q : KV} (h17 : 17 ≤ i) (h28 : i ≠ 28) (h : OwnT S W.k i avs σ Q X) : callV S W X mu i avs σ Q
noncomputable def meth0 (a : AV) (avs : List AV) (σ : Store) (Q : KV) : Prop := match avs with
  | [x] => ∃ ad l, a = .loc ad ∧ σ ad = some (.list l) ∧ l.length ≤ big ∧ Q .none (σ.set ad (.list (l ++ [x])))
  | _ => False
noncomputable def meth1 (a : AV) (avs : List AV) (σ : Store) (Q : KV) : Prop := match avs with
  | [] => ∃ ad l x, a = .loc ad ∧ σ ad = some (.list l) ∧ l.getLast? = some x ∧ l.length ≤ big ∧ Q x (σ.set ad (.list l.dropLast))
  | _ => False
noncomputable def meth8 (a : AV) (avs : List AV) (σ : Store) (Q : KV) : Prop := match avs with
  | [b] => ∃ (x : Str) (ys : List Str), a = .str x ∧ dl σ b = some (ys.map .str) ∧ (ys.map (·.length)).sum + ys.length * x.length ≤ 1000000 ∧ Q (.str (Txt.join x ys)) σ
  | _ => False
noncomputable def methV (S : Sta prog w) (W : Wd) (X : KX) (n : Nat) (a : AV) (avs : List AV) (σ : Store) (Q : KV) : Prop :=
  if n = 0 then meth0 a avs σ Q else if n = 1 then meth1 a avs σ Q else if n = 8 then meth8 a avs σ Q else ∃ f, W.M n = some f ∧ MethT S W.k f (a :: avs) σ Q X
noncomputable def objV (W : Wd) (n : Nat) (a : AV) (σ : Store) : Prop :=
  if n = 0 then tyA σ a = some .list else if n = 1 then tyA σ a = some .list else if n = 8 then tyA σ a = some .str else (W.M n).isSome = true ∧ ∃ fs, attrsOf σ a = some fs ∧ fs.all (fun p => p.1 == "texts" || p.1 == "own") = true
noncomputable def fld : Nat → Str
  | 11 => "texts"
  | _ => "own"
noncomputable def iterV (S : Sta prog w) (a : AV) (σ : Store) (G : List AV → (Store → Store → Prop) → Prop) : Prop := match a with
  | .tup l => S.hx = Option.none ∧ G l (fun zz zz => True)
  | .list l => S.hx = Option.none ∧ G l (fun zz zz => True)
  | .str x => S.hx = Option.none ∧ x.cps.all (· < 128) = true ∧ G (signs x) (fun zz zz => True)
  | .dict l => S.hx = Option.none ∧ G (l.map fun p => sp p.1) (fun zz zz => True)
  | .range a b c => Builtin.Range.small a b c = true ∧ G (rangeAV a c (rangeN a b c)) (fun zz zz => True)
  | .loc ad => S.hx = Option.none ∧ ∃ l, σ ad = some (.list l) ∧ G l (okL (.loc ad))
  | _ => False
noncomputable def enumV (S : Sta prog w) (a : AV) (σ : Store) (G : List AV → (Store → Store → Prop) → Prop) : Prop := match a with
  | .str x => S.hx = Option.none ∧ x.cps.all (· < 128) = true ∧ G (enumd (signs x)) (fun zz zz => True)
  | a => S.hx = Option.none ∧ ∃ l, dl σ a = some l ∧ G (enumd l) (okL a)
noncomputable def compV (i : Nat) (elt : Vars → Store → KV → Prop) (tst : Vars → Store → KB → Prop) (ok : Store → Store → Prop) (m : Vars) (K : List AV → Store → Prop) : List AV → List AV → Store → Prop
  | [], ys, σ => K ys σ
  | x :: r, ys, σ => tst (m.set i x) σ (fun b σ₁ => if b = true then elt (m.set i x) σ₁ (fun y σ₂ => ok σ σ₂ ∧ compV i elt tst ok m K r (ys ++ [y]) σ₂) else ok σ σ₁ ∧ compV i elt tst ok m K r ys σ₁)
noncomputable def isEnum : E → Bool
  | .call (.g 9) _ => true
  | _ => false
end Mine
end
section
namespace Mine
open PySem PyProof.Rows PySem.W
variable {prog : Program} {w : World} {S : Sta prog w}
section
variable {F : Fx S} {m : Vars} {σ : Store} {X : Value → Shared → Prop} {Q : KV} {W : Wd}
theorem binV_sound {mu : Bool} {op : Operator} {a b : AV} (h : binV mu op a b σ Q) : BT F m σ op a b Q X := by
  induction h with
  | add h => exact BT.add h
  | sub h => exact BT.sub h
  | mul ho h => exact BT.mul ho h
  | mod hy h => exact BT.mod hy h
  | div hy hy' h => exact BT.div hy hy' h
  | adds ho h => exact BT.addStr ho h
  | muls ho h => exact BT.mulStr ho h
  | addl ha hb hz h => exact BT.addList ha hb hz h.fresh
  | mull hl h0 h1 h2 h => exact BT.mulList hl h0 h1 h2 h.fresh
theorem cmpV_sound {op : CmpOp} {a b : AV} {Q : KB} (h : cmpV op a b σ Q) : KT F m σ op a b Q X := by
  induction h with
  | eqI h => exact KT.intEq h
  | neI h => exact KT.intNe h
  | eq h1 h2 h3 h4 h => exact KT.eq h1 h2 h3 h4 h
  | ne h1 h2 h3 h4 h => exact KT.ne h1 h2 h3 h4 h
  | lt h => exact KT.intLt h
  | le h => exact KT.intLe h
  | gt h => exact KT.intGt h
  | inS h => exact KT.inStr h
  | inD e h => exact KT.inDict e h
  | ninD e h => exact KT.notInDict e h
  | inL h1 h2 h3 h4 h5 h => exact KT.inSeq h1 h2 h3 h4 h5 h
  | ninL h1 h2 h3 h4 h5 h => exact KT.notInSeq h1 h2 h3 h4 h5 h
theorem subV_sound {a k : AV} (h : subV a k σ Q) : IT F m σ a k Q X := by
  induction h with
  | tup h0 h1 h2 h => exact IT.tup h0 h1 h2 h
  | str h0 h1 h2 h => exact IT.str h0 h1 h2 h
  | nums h0 h1 h2 h => exact IT.nums h0 h1 h2 h
  | list h0 h1 hl h2 h => exact IT.list hl h0 h1 h2 h
  | dict hl h2 h => exact IT.dict hl h2 h
theorem tyCls_is {j : Nat} {u : Ty} (G : Good S W) (h2 : tyCls j = some u) : S.cv j = .type u.name ∧ u ≠ .none := by
  have hj : j < 17 := by
    unfold tyCls at h2
    split at h2 <;> first | decide | cases h2
  rw [G.base j hj]
  clear hj
  unfold tyCls at h2
  split at h2 <;> first | (cases h2; exact ⟨rfl, by decide⟩) | cases h2
theorem callV_sound {Y : KX} {mu : Bool} {i : Nat} {avs : List AV} (G : Good S W) (hk : W.k ≤ F.k) (h : callV S W Y mu i avs σ Q) : CT F m σ (S.cv i) avs Q (XF F m Y) := by
  induction h with
  | lenS hz h => rw [G.base 0 (by decide)]; exact CT.lenStr hz h
  | lenT hz h => rw [G.base 0 (by decide)]; exact CT.lenTup hz h
  | lenN hz h => rw [G.base 0 (by decide)]; exact CT.lenInts hz h
  | lenL hl hz h => rw [G.base 0 (by decide)]; exact CT.lenList hl hz h
  | lenD hl hz h => rw [G.base 0 (by decide)]; exact CT.lenDict hl hz h
  | isx h1 h2 h3 h4 h =>
    rw [G.base 1 (by decide)]
    obtain ⟨x, C, bm, nid, ini, hix, hcv, O, FB⟩ := G.exc _ h1.1 h1.2 h2
    exact CT.isx hcv (G.exk _ C h1.1 h1.2 h2 hcv) (G.sub _ _ h1.1 h1.2 h2 h3.1 h3.2 h4).2 h
  | isi h1 h2 h => rw [G.base 1 (by decide)]; exact CT.isinst h1 (tyCls_is G h2).1 (tyCls_is G h2).2 h
  | tupL hl hz h => rw [G.base 4 (by decide)]; exact CT.tupList hl hz h
  | listS hq hz h => rw [G.base 5 (by decide)]; exact CT.listStr hq hz h.fresh
  | listT hz h => rw [G.base 5 (by decide)]; exact CT.listTup hz h.fresh
  | listL hl hz h => rw [G.base 5 (by decide)]; exact CT.listList hl hz h.fresh
  | listD hl hq hz h => rw [G.base 5 (by decide)]; exact CT.listDict hq hl hz h.fresh
  | range1 h => rw [G.base 8 (by decide)]; exact CT.range1 h
  | range2 h => rw [G.base 8 (by decide)]; exact CT.range2 h
  | range3 h0 h1 h => rw [G.base 8 (by decide)]; exact CT.range3 h0 h1 h
  | min hq h => rw [G.base 13 (by decide)]; exact CT.min2 hq h
  | max hq h => rw [G.base 14 (by decide)]; exact CT.max2 hq h
  | all hq hl h => rw [G.base 15 (by decide)]; exact CT.all hq hl h
  | any hq hl h => rw [G.base 16 (by decide)]; exact CT.any hq hl h
  | own _ _ h => exact h F hk m
theorem bv_able {i : Nat} (h : i < 17) : Callable S (bv i) := by
  have : ∀ i, i < 17 → isBT (bv i) = true := by decide
  have := this i h
  revert this
  cases bv i <;> first | (intro _; exact Callable.builtin _) | (intro _; exact Callable.type _) | (intro h; cases h)
theorem call_able (G : Good S W) {i : Nat} (hu : W.U i = true) (h28 : i ≠ 28) : Callable S (S.cv i) := by
  by_cases h : i < 17
  · rw [G.base i h]
    exact bv_able h
  · exact G.own i hu (Nat.not_lt.mp h) h28
set_option tactic.hygienic true in
theorem iterV_sound {a : AV} {G : List AV → (Store → Store → Prop) → Prop} (h : iterV S a σ G) : ∃ items ok, IterT F σ a items ok ∧ G items ok := by
  unfold iterV at h
  split at h
  · exact ⟨_, _, IterT.tup h.1, h.2⟩
  · rename_i l; exact ⟨l, okL (.list l), IterT.list h.1 (dl_list _ _), h.2⟩
  · exact ⟨_, _, IterT.str h.1 h.2.1, h.2.2⟩
  · exact ⟨_, _, IterT.dict h.1, h.2⟩
  · exact ⟨_, _, IterT.range h.1, h.2⟩
  · obtain ⟨hq, l, e, h⟩ := h; exact ⟨_, _, IterT.list hq (dl_loc e), h⟩
  · exact h.elim
end
end Mine
end
section
namespace Mine
open PySem PyProof.Rows PySem.W
variable {prog : Program} {w : World} {S : Sta prog w} {W : Wd}
theorem EsT.mono {F : Fx S} {m : Vars} {σ : Store} {X : Value → Shared → Prop} {es : List E} {Q Q' : List AV → Store → Prop} (h : EsT F m σ es Q X) (k : ∀ a σ, Q a σ → Q' a σ) : EsT F m σ es Q' X :=
  fun pes pos hc s hs => (h pes pos hc s hs).mono fun _ _ _ _ _ ⟨av, r, q⟩ => ⟨av, r, k _ _ q⟩
theorem SrcT.mono {F : Fx S} {m : Vars} {σ : Store} {X : Value → Shared → Prop} {p : Pat} {e : E} {G G' : List AV → (Store → Store → Prop) → Store → Prop} (h : SrcT F m σ p e G X) (k : ∀ a b σ, G a b σ → G' a b σ) : SrcT F m σ p e G' X :=
  fun pe t hc hp s hs => wpAny_mono (h pe t hc hp s hs) (fun zz zz h₁ => wpAny_mono h₁ (fun zz zz z => by obtain ⟨I, items, W, J, ok, σ₂, sm, a1, a2, a3, a4, a5, a6, a7, a8, a9⟩ := z; exact ⟨I, items, W, J, ok, σ₂, sm, a1, a2, a3, a4, a5, a6, a7, a8, k _ _ _ a9⟩) fun zz zz e => e) fun zz zz e => e
theorem fld_ix {n : Nat} (h : n = 11 ∨ n = 12) : ixS AT (fld n) = some n := by
  rcases h with rfl | rfl <;> decide +kernel
theorem Good.field {S : Sta prog w} (G : Good S W) {n : Nat} (h : n = 11 ∨ n = 12) : Field S W.C (fld n) := by
  rcases h with rfl | rfl
  · exact G.texts
  · exact G.cells
theorem fget_none {fs : List (Str × AV)} {nm : Str} (h : fs.all (fun p => p.1 == "texts" || p.1 == "own") = true) (h1 : nm ≠ "texts") (h2 : nm ≠ "own") : fget fs nm = Option.none := by
  unfold fget
  rw [Option.map_eq_none_iff, List.find?_eq_none]
  intro p hp e
  have := List.all_eq_true.mp h p hp
  simp only [Bool.or_eq_true, beq_iff_eq] at this e
  rcases this with q | q
  · exact h1 (by rw [← e, q])
  · exact h2 (by rw [← e, q])
theorem compV_sound {F : Fx S} {i : Nat} {elt : E} {cs : List E} {ok : Store → Store → Prop} {m : Vars} {K : List AV → Store → Prop} {ev : Vars → Store → KV → Prop} {tv : Vars → Store → KB → Prop}
    (he : ∀ m σ Q, ev m σ Q → ET F m σ elt Q NoX) (ht : ∀ m σ Q, tv m σ Q → TestT F m σ cs Q) (tm : ∀ {m σ} {Q Q' : KB}, (∀ b σ, Q b σ → Q' b σ) → TestT F m σ cs Q → TestT F m σ cs Q') : ∀ {items ys : List AV} {σ : Store}, compV i ev tv ok m K items ys σ → CompT F i elt cs ok m K items ys σ := by
  intro items
  induction items with
  | nil => intro ys σ h; exact h
  | cons x r ih =>
    intro ys σ h
    unfold compV at h
    unfold CompT
    refine tm (fun b σ₁ q => ?_) (ht _ _ _ h)
    cases b with
    | true =>
      simp only [if_true] at q ⊢
      exact (he _ _ _ q).mono fun a σ₂ q => ⟨q.1, ih q.2⟩
    | false =>
      simp only [Bool.false_eq_true, if_false] at q ⊢
      exact ⟨q.1, ih q.2⟩
theorem TestT.mono {F : Fx S} {m : Vars} {σ : Store} {cs : List E} {Q Q' : KB} (k : ∀ b σ, Q b σ → Q' b σ) (h : TestT F m σ cs Q) : TestT F m σ cs Q' := by
  match cs, h with
  | [], h => exact k _ _ h
  | [c], h => exact TT.mono h k
theorem meth0_sound {F : Fx S} {m : Vars} {σ : Store} {X : Value → Shared → Prop} {Q : KV} {a : AV} {avs : List AV} (h : meth0 a avs σ Q) : CT F m σ (.builtin "list.append") (a :: avs) Q X := by
  match avs, h with
  | [x], ⟨ad, l, e, h1, h2, h3⟩ => subst e; exact CT.append h1 h2 h3
theorem meth1_sound {F : Fx S} {m : Vars} {σ : Store} {X : Value → Shared → Prop} {Q : KV} {a : AV} {avs : List AV} (h : meth1 a avs σ Q) : CT F m σ (.builtin "list.pop") (a :: avs) Q X := by
  match avs, h with
  | [], ⟨ad, l, x, e, h1, h2, h3, h4⟩ => subst e; exact CT.pop h1 h2 h3 h4
theorem meth8_sound {F : Fx S} {m : Vars} {σ : Store} {X : Value → Shared → Prop} {Q : KV} {a : AV} {avs : List AV} (h : meth8 a avs σ Q) : CT F m σ (.builtin "str.join") (a :: avs) Q X := by
  match avs, h with
  | [b], ⟨x, ys, e, h1, h2, h3⟩ => subst e; exact CT.join h1 h2 h3
theorem methV_sound {F : Fx S} {m : Vars} {σ : Store} {Y : KX} {Q : KV} {o : E} {n : Nat} {args : List E} (G : Good S W) (hk : W.k ≤ F.k)
    (h : ET F m σ o (fun a σ₁ => objV W n a σ₁ ∧ ArgsT F m σ₁ args (fun avs σ₂ => methV S W Y n a avs σ₂ Q) (XF F m Y)) (XF F m Y))
    (am : ∀ {σ} {P P' : List AV → Store → Prop}, (∀ a σ, P a σ → P' a σ) → ArgsT F m σ args P (XF F m Y) → ArgsT F m σ args P' (XF F m Y)) : ET F m σ (.meth o n args) Q (XF F m Y) := by
  by_cases h0 : n = 0
  · subst h0
    exact ET.meth ix_append meth_append (h.mono fun a σ₁ q => ⟨q.1, am (fun avs σ₂ q => meth0_sound q) q.2⟩)
  by_cases h1 : n = 1
  · subst h1
    exact ET.meth ix_pop meth_pop (h.mono fun a σ₁ q => ⟨q.1, am (fun avs σ₂ q => meth1_sound q) q.2⟩)
  by_cases h8 : n = 8
  · subst h8
    exact ET.meth ix_join meth_join (h.mono fun a σ₁ q => ⟨q.1, am (fun avs σ₂ q => meth8_sound q) q.2⟩)
  have h' : ET F m σ o (fun a σ₁ => ((W.M n).isSome = true ∧ ∃ fs, attrsOf σ₁ a = some fs ∧ fs.all (fun p => p.1 == "texts" || p.1 == "own") = true) ∧ ArgsT F m σ₁ args (fun avs σ₂ => ∃ f, W.M n = some f ∧ MethT S W.k f (a :: avs) σ₂ Q Y) (XF F m Y)) (XF F m Y) :=
    h.mono fun a σ₁ q => by
      simp only [objV, methV, if_neg h0, if_neg h1, if_neg h8] at q
      exact q
  clear h
  cases hM : W.M n with
  | none =>
    intro pe hc s hs
    obtain ⟨po, a, ap, pargs, p, rfl, hsup, hline, hlen, ho, hk', ha⟩ := hc.inv
    have hbase := base_of (nm := a) (env := F.env) (x := eval po F.env) hsup
    show wpAny _ _ (eval (.Call (.Attribute po a ap) pargs [] p) F.env) _ _ _
    rw [arm_eval_Call, hbase]
    refine wpAny_bind ((h' _ ho s hs).out ?_)
    rintro ov σ₁ s₁ st₁ h₁ ⟨av, ra, q1, _⟩
    rw [hM] at q1; exact absurd q1.1 (by simp)
  | some f =>
    obtain ⟨nm, hn, n1, n2, hf, ht, hkp⟩ := G.meth n f hM
    refine ET.method G.floor hn hf ht hkp (h'.mono fun a σ₁ q => ⟨?_, am (fun avs σ₂ q => ?_) q.2⟩)
    · obtain ⟨⟨_, fs, h3, h4⟩, _⟩ := q
      exact ⟨fs, h3, fget_none h4 n1 n2⟩
    · obtain ⟨f', h3, h4⟩ := q
      rw [hM] at h3; cases h3
      exact h4 F hk m
theorem CO.stp {tb : List Nat} {sc : Nms} {pst : Option PySem.Expr} (h : CO tb sc pst .none) : pst = Option.none ∨ ∃ k p, pst = some (.Constant .none k p) := by
  rcases h.inv with ⟨e, _⟩ | ⟨x, e, hc⟩
  · exact .inl e
  · obtain ⟨k, p, rfl⟩ := hc.inv; exact .inr ⟨k, p, e⟩
theorem stp_ev {pst : Option PySem.Expr} {env : Env} (h : pst = Option.none ∨ ∃ k p, pst = some (.Constant .none k p)) : valueOrNone (evalOpt pst env) = pure .none := by
  rcases h with e | ⟨k, p, e⟩ <;> rw [e] <;> rfl
theorem tail_slice {A : Around} {X : Value → Shared → Prop} {Q' : Value → Shared → Prop} {s : Shared} {po : PySem.Expr} {plo phi pst : Option PySem.Expr} {q : Pos} {o i : Value} (h : pst = Option.none ∨ ∃ k p, pst = some (.Constant .none k p)) (t : ItemOn (model prog w) A X o i Q' s) :
    wpAny (model prog w) A (subscriptTail po (.Slice plo phi pst q) o i) Q' X s := by
  obtain ⟨T, id, hl, hT, hg⟩ := t
  refine tail_any (ops := if pst = Option.none then [i, o] else [o, i]) hT hl hg ?_
  rcases h with e | ⟨k, p, e⟩
  · subst e; rw [if_pos rfl]; rfl
  · subst e; rw [if_neg nofun]; rfl
theorem str_item {cv : Nat → Value} {h : Heap} {D : Addr → Prop} {A : Around} {X Q' : Value → Shared → Prop} {s : Shared} {x y : AV} {vx vy : Value} {t t' : Str} {tk : Tok} (rx : Rep cv h D x vx) (ry : Rep cv h D y vy) (hz : t.length ≤ big) (hcut : cutS t x y = some t')
    (fin : ∀ h' t'' k, (∀ b o, s.heap.get? b = some o → h'.get? b = some o) → Q' (.str t' t'') { s with heap := h', toks := k }) :
    ItemOn (model prog w) A X (.str t tk) (.ref s.heap.objs.size) Q' { s with heap := s.heap.push { cls := .type "slice", data := .fields #[vx, vy, .none] } } := by
  have kept : KeptH (fun h' => ∀ b o, s.heap.get? b = some o → h'.get? b = some o) := fun h' ob kp b o e => Heap.get?_push_of_some _ (kp b o e)
  cases x with
  | none =>
    rw [show vx = .none from rx.inv]
    cases y with
    | none => rw [show vy = .none from ry.inv]; obtain rfl := Option.some.inj hcut; exact SBH.sliceItem_nn kept (fun zz zz e => e) fin (big_ok hz)
    | int b => obtain ⟨_, rfl⟩ := ry.inv; obtain rfl := Option.some.inj hcut; exact SBH.sliceItem_ns kept (fun zz zz e => e) fin (big_ok hz)
    | _ => exact (no_some rfl hcut).elim
  | int a =>
    obtain ⟨_, rfl⟩ := rx.inv
    cases y with
    | none => rw [show vy = .none from ry.inv]; obtain rfl := Option.some.inj hcut; exact SBH.sliceItem_sn kept (fun zz zz e => e) fin (big_ok hz)
    | int b => obtain ⟨_, rfl⟩ := ry.inv; obtain rfl := Option.some.inj hcut; exact SBH.sliceItem_ss kept (fun zz zz e => e) fin (big_ok hz)
    | _ => exact (no_some rfl hcut).elim
  | _ => exact (no_some rfl hcut).elim
theorem part_nat {b : Int} {n : Nat} {t : Tok} (h : (n : Int) = b) : IsPart (.int b t) (some (n : Int)) := h ▸ .int _ _
theorem part_neg {b : Int} {n : Nat} {t : Tok} (h : -(n : Int) = b) : IsPart (.int b t) (some (-(n : Int))) := h ▸ .int _ _
theorem list_part {cv : Nat → Value} {h : Heap} {D : Addr → Prop} {x y : AV} {vx vy : Value} {l l' : List AV} {vs : List Value} (rx : Rep cv h D x vx) (ry : Rep cv h D y vy) (hcut : cut l x y = some l') (rl : RepL cv h D l vs) :
    ∃ lo hi vs', IsPart vx lo ∧ IsPart vy hi ∧ slicePick vs.toArray lo hi Option.none = List.toArray vs' ∧ RepL cv h D l' vs' := by
  cases x with
  | none =>
    rw [show vx = .none from rx.inv]
    cases y with
    | none => rw [show vy = .none from ry.inv]; exact ⟨_, _, _, .none, .none, slicePick_all _, Option.some.inj hcut ▸ rl⟩
    | int b =>
      obtain ⟨_, rfl⟩ := ry.inv
      have hcut : (if 0 ≤ b then some (l.take b.toNat) else some (l.take (l.length - (-b).toNat))) = some l' := hcut
      by_cases hb : 0 ≤ b
      · rw [if_pos hb] at hcut
        exact ⟨_, _, _, .none, part_nat (Int.toNat_of_nonneg hb), slicePick_upto' _ b.toNat, Option.some.inj hcut ▸ rl.take _⟩
      · rw [if_neg hb] at hcut
        refine ⟨_, _, _, .none, part_neg (n := (-b).toNat) (by clear rl hcut; omega), slicePick_butLast _ (-b).toNat (by clear rl hcut; omega), Option.some.inj hcut ▸ ?_⟩
        rw [List.size_toArray, rl.length]; exact rl.take _
    | _ => exact (no_some rfl hcut).elim
  | int a =>
    obtain ⟨_, rfl⟩ := rx.inv
    cases y with
    | none =>
      rw [show vy = .none from ry.inv]
      obtain ⟨ha, hcut⟩ := ite_some (show (if 0 ≤ a then some (l.drop a.toNat) else Option.none) = some l' from hcut)
      exact ⟨_, _, _, part_nat (Int.toNat_of_nonneg ha), .none, slicePick_from' _ a.toNat, Option.some.inj hcut ▸ rl.drop _⟩
    | _ => exact (no_some rfl hcut).elim
  | _ => exact (no_some rfl hcut).elim
theorem two_new (h : Heap) (o : Obj) : h.get? (h.push o).objs.size = Option.none := by
  rw [Heap.size_push]
  cases q : h.get? (h.objs.size + 1) with
  | none => rfl
  | some o => exact absurd (Heap.lt_size q) (Nat.not_lt.mpr (Nat.le_succ _))
theorem slice_list {F : Fx S} {m : Vars} {σ : Store} {s : Shared} {X : Value → Shared → Prop} {Q : KV} {ad : Addr} {vs vs' : List Value} {n : Nat} {l l' : List AV} {lo hi : Option Int} {vx vy : Value} (hs : F.St m σ s) (e : s.heap.get? ad = some (lstObj vs.toArray n)) (rl : RepL S.cv s.heap (F.D σ) l vs) (hz : l.length ≤ big)
    (p1 : IsPart vx lo) (p2 : IsPart vy hi) (hp : slicePick vs.toArray lo hi Option.none = vs'.toArray) (r' : RepL S.cv s.heap (F.D σ) l' vs') (q : Fresh σ (.list l') (.list l') Q) :
    ItemOn (model prog w) F.A X (.ref ad) (.ref s.heap.objs.size) (PW F m σ s (PV F Q)) { s with heap := s.heap.push { cls := .type "slice", data := .fields #[vx, vy, .none] } } := by
  have hL : s.heap.IsList ad vs.toArray := ⟨_, e, rfl, n, rfl⟩
  refine ⟨_, _, list_getitem_lookup, Heap.IsList.typeIs (s := { s with heap := s.heap.push { cls := .type "slice", data := .fields #[vx, vy, .none] } }) (hL.push _),
    wpAny_getItem_list_slice (hL.push _) (Heap.IsSliceOf.new ..) p1 p2 .none (by simp) ?_ (by rw [List.size_toArray, rl.length]; exact big_ok hz)⟩
  rw [hp]
  exact fresh_list (tk := s.toks) (a := (s.heap.push { cls := .type "slice", data := .fields #[vx, vy, .none] }).objs.size) hs (fun b o e => Heap.get?_push_of_some _ (Heap.get?_push_of_some _ e)) (two_new _ _) (Heap.get?_push_size _ rfl) r' q
theorem slice_item {F : Fx S} {m : Vars} {σ : Store} {s : Shared} {X : Value → Shared → Prop} {Q : KV} {mu : Bool} {a x y : AV} {va vx vy : Value} (hs : F.St m σ s) (ra : Rep S.cv s.heap (F.D σ) a va) (rx : Rep S.cv s.heap (F.D σ) x vx) (ry : Rep S.cv s.heap (F.D σ) y vy) (h : sliceV mu a x y σ Q) :
    ItemOn (model prog w) F.A X va (.ref s.heap.objs.size) (PW F m σ s (PV F Q)) { s with heap := s.heap.push { cls := .type "slice", data := .fields #[vx, vy, .none] } } := by
  unfold sliceV at h
  split at h
  · obtain ⟨t', hz, hcut, q⟩ := h
    obtain ⟨tk, rfl⟩ := ra.inv
    exact str_item rx ry hz hcut fun h' t'' k kp => by
      obtain ⟨h4, st4⟩ := hs.grow kp k
      exact ⟨σ, st4.any, h4, _, .str _ _, q⟩
  · obtain ⟨l, l', hl, hz, hcut, q⟩ := h
    obtain ⟨ad, vs, n, rfl, e, rl⟩ := ra.lst hs.inv hl
    obtain ⟨lo, hi, vs', p1, p2, hp, r'⟩ := list_part rx ry hcut rl
    exact slice_list hs e rl hz p1 p2 hp r' q.fresh
theorem ET.sliceAny {F : Fx S} {m : Vars} {σ : Store} {X : Value → Shared → Prop} {Q : KV} {mu : Bool} {o lo hi : E} (h : ET F m σ o (fun a σ₁ => ET F m σ₁ lo (fun x σ₂ => ET F m σ₂ hi (fun y σ₃ => sliceV mu a x y σ₃ Q) X) X) X) :
    ET F m σ (.slice o lo hi .none) Q X := by
  intro pe hc s hs
  obtain ⟨po, plo, phi, pst, p, q, rfl, ho, hlo, hhi, hst⟩ := hc.inv
  refine Subscript_ ((h _ ho s hs).out ?_)
  rintro va σ₁ s₁ st₁ h₁ ⟨a, ra, q₁⟩
  show wpAny _ _ (do
    let l ← valueOrNone (evalOpt plo F.env)
    let u ← holding [l] (valueOrNone (evalOpt phi F.env))
    let s ← holding [l, u] (valueOrNone (evalOpt pst F.env))
    newFields "slice" [l, u, s]) _ _ _
  refine wpAny_bind ((optE q₁ hlo h₁).out ?_)
  rintro vx σ₂ s₂ st₂ h₂ ⟨x, rx, q₂⟩
  refine wpAny_bind (wpAny_holding ((optE q₂ hhi h₂).out ?_))
  rintro vy σ₃ s₃ st₃ h₃ ⟨y, ry, hsl⟩
  refine wpAny_bind (wpAny_holding (wpAny_of_eq (stp_ev hst.stp) ?_))
  refine wpAny_newObj_type (tail_slice hst.stp ?_) (by size_fits)
  obtain ⟨T, id, hl, hT, hg⟩ := slice_item h₃ ((ra.st st₂ h₂).st st₃ h₃) (rx.st st₃ h₃) ry hsl
  exact ⟨T, id, hl, hT, wpAny_mono hg (fun _ _ ⟨σ', st', h1, q⟩ => ⟨σ', ((st₁.trans st₂).trans st₃).trans st', h1, q⟩) fun zz zz e => e⟩
theorem args_mono {F : Fx S} {m : Vars} {X : Value → Shared → Prop} {es : List E} {σ : Store} {P P' : List AV → Store → Prop} (k : ∀ a σ, P a σ → P' a σ) (h : ArgsT F m σ es P X) : ArgsT F m σ es P' X := by
  cases es with
  | nil => exact k _ _ h
  | cons e r => exact EsT.mono h k
theorem KT.mono {F : Fx S} {m : Vars} {σ : Store} {X : Value → Shared → Prop} {op : CmpOp} {a b : AV} {Q Q' : KB} (h : KT F m σ op a b Q X) (k : ∀ b σ, Q b σ → Q' b σ) : KT F m σ op a b Q' X :=
  fun va vb s hs ra rb => (h va vb s hs ra rb).mono fun _ _ _ _ _ ⟨c, e, q⟩ => ⟨c, e, k _ _ q⟩
theorem callg_sound {F : Fx S} {m : Vars} {σ : Store} {Y : KX} {Q : KV} {mu : Bool} {i : Nat} {args : List E} (G : Good S W) (hk : W.k ≤ F.k) (hu : W.U i = true) (hne : args ≠ [] ∧ i ≠ 28) (h : EsT F m σ args (fun avs σ₁ => callV S W Y mu i avs σ₁ Q) (XF F m Y)) : ET F m σ (.call (.g i) args) Q (XF F m Y) := by
  cases args with
  | nil => exact absurd rfl hne.1
  | cons e es =>
    exact ET.callg (G.glob i hu) (call_able G hu hne.2) (EsT.mono h fun avs σ₁ q => callV_sound G hk q)
theorem compT_fresh {F : Fx S} {i : Nat} {elt : E} {cs : List E} {ok : Store → Store → Prop} {m : Vars} {Q : KV} {mu : Bool} : ∀ {items ys : List AV} {σ : Store}, CompT F i elt cs ok m (fun ys σ₂ => frs mu σ₂ (.list ys) (.list ys) Q) items ys σ → CompT F i elt cs ok m (fun ys σ₂ => Fresh σ₂ (.list ys) (.list ys) Q) items ys σ := by
  intro items
  induction items with
  | nil => intro ys σ h; exact h.fresh
  | cons x r ih =>
    intro ys σ h
    unfold CompT at h ⊢
    refine TestT.mono (fun b σ₁ q => ?_) h
    cases b with
    | true => simp only [if_true] at q ⊢; exact q.mono fun a σ₂ q => ⟨q.1, ih q.2⟩
    | false => simp only [Bool.false_eq_true, if_false] at q ⊢; exact ⟨q.1, ih q.2⟩
theorem ET.monoX {F : Fx S} {m : Vars} {σ : Store} {X X' : Value → Shared → Prop} {e : E} {Q : KV} (h : ET F m σ e Q X) (k : ∀ e s, X e s → X' e s) : ET F m σ e Q X' := fun pe hc s hs => wpAny_mono (h pe hc s hs) (fun zz zz q => q) k
theorem TT.monoX {F : Fx S} {m : Vars} {σ : Store} {X X' : Value → Shared → Prop} {e : E} {Q : KB} (h : TT F m σ e Q X) (k : ∀ e s, X e s → X' e s) : TT F m σ e Q X' := fun pe hc s hs => wpAny_mono (h pe hc s hs) (fun zz zz q => q) k
theorem SrcT.monoX {F : Fx S} {m : Vars} {σ : Store} {X X' : Value → Shared → Prop} {p : Pat} {e : E} {G : List AV → (Store → Store → Prop) → Store → Prop} (h : SrcT F m σ p e G X) (k : ∀ e s, X e s → X' e s) : SrcT F m σ p e G X' :=
  fun pe t hc hp s hs => wpAny_mono (h pe t hc hp s hs) (fun zz zz h₁ => wpAny_mono h₁ (fun zz zz q => q) k) k
theorem ET.no {F : Fx S} {m : Vars} {σ : Store} {e : E} {Q : KV} (h : ET F m σ e Q (XF F m noX)) : ET F m σ e Q NoX := h.monoX fun zz zz x => x.no
theorem TT.no {F : Fx S} {m : Vars} {σ : Store} {e : E} {Q : KB} (h : TT F m σ e Q (XF F m noX)) : TT F m σ e Q NoX := h.monoX fun zz zz x => x.no
theorem SrcT.no {F : Fx S} {m : Vars} {σ : Store} {p : Pat} {e : E} {G : List AV → (Store → Store → Prop) → Store → Prop} (h : SrcT F m σ p e G (XF F m noX)) : SrcT F m σ p e G NoX := h.monoX fun zz zz x => x.no
theorem ET.any {F : Fx S} {m : Vars} {σ : Store} {X : Value → Shared → Prop} {e : E} {Q : KV} (h : ET F m σ e Q NoX) : ET F m σ e Q X := h.monoX fun zz zz x => x.elim
noncomputable def vcE (S : Sta prog w) (W : Wd) (X : KX) (_mu : Bool) (e : E) (m : Vars) (σ : Store) (Q : KV) : Prop := Good S W → ∀ F : Fx S, W.k ≤ F.k → ET F m σ e Q (XF F m X)
noncomputable def vcT (S : Sta prog w) (W : Wd) (X : KX) (e : E) (m : Vars) (σ : Store) (B : KB) : Prop := Good S W → ∀ F : Fx S, W.k ≤ F.k → TT F m σ e B (XF F m X)
noncomputable def vcEs (S : Sta prog w) (W : Wd) (X : KX) (es : List E) (m : Vars) (σ : Store) (P : List AV → Store → Prop) : Prop := Good S W → ∀ F : Fx S, W.k ≤ F.k → ArgsT F m σ es P (XF F m X)
noncomputable def vcOrV (S : Sta prog w) (W : Wd) (X : KX) (es : List E) (m : Vars) (σ : Store) (Q : KV) : Prop := Good S W → ∀ F : Fx S, W.k ≤ F.k → OrV F m (XF F m X) Q es σ
noncomputable def vcAnd (S : Sta prog w) (W : Wd) (X : KX) (es : List E) (m : Vars) (σ : Store) (B : KB) : Prop := Good S W → ∀ F : Fx S, W.k ≤ F.k → AndT F m (XF F m X) B es σ
noncomputable def vcOr (S : Sta prog w) (W : Wd) (X : KX) (es : List E) (m : Vars) (σ : Store) (B : KB) : Prop := Good S W → ∀ F : Fx S, W.k ≤ F.k → OrT F m (XF F m X) B es σ
noncomputable def vcTs (S : Sta prog w) (W : Wd) (_X : KX) (es : List E) (m : Vars) (σ : Store) (B : KB) : Prop := Good S W → ∀ F : Fx S, W.k ≤ F.k → TestT F m σ es B
noncomputable abbrev KG := List AV → (Store → Store → Prop) → Store → Prop
noncomputable def vcSrc (S : Sta prog w) (W : Wd) (X : KX) (e : E) (m : Vars) (σ : Store) (G : KG) : Prop := Good S W → ∀ F : Fx S, W.k ≤ F.k → ∀ p : Pat, (isEnum e = true → ∃ ps, p = .tup ps) → SrcT F m σ p e G (XF F m X)
theorem ArgsT.es {F : Fx S} {m : Vars} {σ : Store} {X : Value → Shared → Prop} {es : List E} {P : List AV → Store → Prop} (h : ArgsT F m σ es P X) : EsT F m σ es P X := by
  cases es with
  | nil => exact EsT.nil h
  | cons e r => exact h
end Mine
end
section
namespace Mine
open PySem PyProof.Rows PySem.W
variable {prog : Program} {w : World} {S : Sta prog w} {W : Wd}
mutual
noncomputable def patV (S : Sta prog w) : Pat → AV → Vars → (Vars → Prop) → Prop
  | .v i, a, m, K => K (m.set i a)
  | .tup ps, a, m, K => S.hx = Option.none ∧ ∃ l, a = .tup l ∧ ps.length = l.length ∧ patVs S ps l m K
noncomputable def patVs (S : Sta prog w) : List Pat → List AV → Vars → (Vars → Prop) → Prop
  | [], [], m, K => K m
  | p :: ps, a :: as, m, K => patV S p a m (fun m₁ => patVs S ps as m₁ K)
  | _, _, _, _ => False
end
mutual
theorem patV_sound {F : Fx S} {σ : Store} {X : Value → Shared → Prop} : ∀ (p : Pat) {a : AV} {m : Vars} {K : Vars → Prop}, patV S p a m K → PT F m σ p a (fun m₁ σ₁ => σ₁ = σ ∧ K m₁) X
  | .v i, _, _, _, h => by simp only [patV] at h; exact PT.v ⟨rfl, h⟩
  | .tup ps, _, _, _, h => by
    simp only [patV] at h
    obtain ⟨hq, l, rfl, h1, h2⟩ := h
    exact PT.tup hq h1 (patVs_sound ps h2)
theorem patVs_sound {F : Fx S} {σ : Store} {X : Value → Shared → Prop} : ∀ (ps : List Pat) {as : List AV} {m : Vars} {K : Vars → Prop}, patVs S ps as m K → PTs F X (fun m₁ σ₁ => σ₁ = σ ∧ K m₁) ps as m σ
  | [], [], _, _, h => by simp only [patVs] at h; exact ⟨rfl, h⟩
  | p :: ps, a :: as, _, _, h => by
    simp only [patVs] at h
    show PT _ _ _ _ _ _ _
    intro pe hc v s hs r
    refine wpAny_mono (patV_sound (F := F) (σ := σ) (X := X) p h pe hc v s hs r) ?_ fun zz zz e => e
    rintro _ s' ⟨m', σ', st, h', rfl, q⟩
    exact ⟨m', _, st, h', patVs_sound ps q⟩
  | [], _ :: _, _, _, h => by simp only [patVs] at h
  | _ :: _, [], _, _, h => by simp only [patVs] at h
end
noncomputable abbrev kLoop (ok : Store → Store → Prop) (σ : Store) (C : Vars → Store → Prop) (K : KS) : KS := fun fl m₂ σ₂ => match fl with
  | .next => ok σ σ₂ ∧ C m₂ σ₂
  | .ret v => K (.ret v) m₂ σ₂
set_option tactic.hygienic true in
noncomputable def forV (S : Sta prog w) (p : Pat) (body : Vars → Store → KS → Prop) (ok : Store → Store → Prop) (K : KS) : List AV → Vars → Store → Prop
  | [], m, σ => K .next m σ
  | x :: r, m, σ => patV S p x m (fun m₁ => body m₁ σ (kLoop ok σ (forV S p body ok K r) K))
noncomputable def vcS (S : Sta prog w) (W : Wd) (X : KX) (_mus : List Nat) (st : Mine.S) (m : Vars) (σ : Store) (K : KS) : Prop := Good S W → ∀ F : Fx S, W.k ≤ F.k → ST F m σ st K (XR F X)
noncomputable def vcSs (S : Sta prog w) (W : Wd) (X : KX) (_mus : List Nat) (ss : List Mine.S) (m : Vars) (σ : Store) (K : KS) : Prop := Good S W → ∀ F : Fx S, W.k ≤ F.k → SsT F m σ ss K (XR F X)
theorem ST.monoX {F : Fx S} {m : Vars} {σ : Store} {X X' : Value → Shared → Prop} {st : Mine.S} {K : KS} (h : ST F m σ st K X) (k : ∀ e s, X e s → X' e s) : ST F m σ st K X' := fun ps hc s hs => wpAny_mono (h ps hc s hs) (fun zz zz q => q) k
theorem SsT.monoX {F : Fx S} {m : Vars} {σ : Store} {X X' : Value → Shared → Prop} {st : List Mine.S} {K : KS} (h : SsT F m σ st K X) (k : ∀ e s, X e s → X' e s) : SsT F m σ st K X' := fun ps hc s hs => wpAny_mono (h ps hc s hs) (fun zz zz q => q) k
theorem ET.up {F : Fx S} {m : Vars} {σ : Store} {e : E} {Q : KV} {X : KX} (h : ET F m σ e Q (XF F m X)) : ET F m σ e Q (XR F X) := h.monoX fun zz zz x => x.up
theorem TT.up {F : Fx S} {m : Vars} {σ : Store} {e : E} {Q : KB} {X : KX} (h : TT F m σ e Q (XF F m X)) : TT F m σ e Q (XR F X) := h.monoX fun zz zz x => x.up
theorem forV_sound {F : Fx S} {p : Pat} {body : List Mine.S} {bv : Vars → Store → KS → Prop} {ok : Store → Store → Prop} {K : KS} (hb : ∀ m σ K, bv m σ K → SsT F m σ body K NoX) : ∀ {items : List AV} {m : Vars} {σ : Store}, forV S p bv ok K items m σ → LoopT F p body ok K NoX items m σ := by
  intro items
  induction items with
  | nil => intro m σ h; exact h
  | cons x r ih =>
    intro m σ h
    unfold forV at h
    unfold LoopT
    intro pe hc v s hs rx
    refine wpAny_mono (patV_sound (F := F) (σ := σ) (X := NoX) p h pe hc v s hs rx) ?_ fun zz zz e => e
    rintro _ s' ⟨m', σ', st, h', rfl, q⟩
    refine ⟨m', _, st, h', SsT.mono (hb _ _ _ q) fun fl m₂ σ₂ q => ?_⟩
    cases fl with
    | next => exact ⟨q.1, ih q.2⟩
    | ret v => exact q
theorem PT.to {F : Fx S} {m : Vars} {σ : Store} {X : Value → Shared → Prop} {p : Pat} {a : AV} {K : Vars → Store → Prop} (h : PT F m σ p a (fun m₁ σ₁ => σ₁ = σ ∧ K m₁ σ) X) : PT F m σ p a K X := fun pe hc v s hs r =>
  wpAny_mono (h pe hc v s hs r) (fun _ _ ⟨m', σ', st, h', e, q⟩ => by subst e; exact ⟨m', _, st, h', q⟩) fun zz zz e => e
end Mine
end
section
namespace Mine
open PySem PyProof.Rows PySem.W
variable {prog : Program} {w : World} {S : Sta prog w} {W : Wd}
theorem ST.raise {F : Fx S} {m : Vars} {σ : Store} {K : KS} {X : KX} {i : Nat} {t : Str} (G : Good S W) (hu : W.U i = true) (h1 : 18 ≤ i) (h2 : i ≤ 27) (hq : S.hx = Option.none) (hX : X i σ) : ST F m σ (.raise (.call (.g i) [.str t])) K (XR F X) := by
  intro st hc s hs
  obtain ⟨x, C, bm, nid, ini, hix, hcv, O, FB⟩ := G.exc i h1 h2 hu
  obtain ⟨_, _, rfl, he⟩ := hc.inv
  obtain ⟨x', q, pargs, p', rfl, _, hx, ha⟩ := he.inv
  obtain ⟨tl, N, nm, qn, bs, hdct, sn, sub, ab, col, dd, k0, k1, k2, k3, k5, mN, hC, hN, hni, T⟩ := O.obj
  refine wpAny_Raise_call_subT (C := C) (nm := nm) (q := qn) (N := N) (bs := bs) (bm := tl) (hdct := hdct) (sn := sn) (sub := sub) (ab := ab) (col := col) (dd := dd) (k0 := k0) (k1 := k1) (k2 := k2) (k3 := k3) (k5 := k5)
    FB (mN := mN) (T.hasType FB.hasBase) (F.room.quiet hq) (noStars ha) hni (load_g hx (G.glob i hu) hs ⟨hcv, ?_⟩)
  have h' : EsT F m σ [.str t] (fun l σ' => l.length = 1 ∧ σ' = σ) (XR F X) := EsT.cons (ET.str (EsT.nil ⟨rfl, rfl⟩))
  have h'' := h' _ p' ha s hs
  cases ha with
  | cons hn hee hr =>
    rw [starEach_cons hn] at h'' ⊢
    refine Calls.evalArgs_plain (Mine.W.out h'' ?_)
    rintro vals σ' s' st' hs' ⟨avs, r, hl, rfl⟩
    refine ⟨rfl, by have := r.length; show vals.length ≤ _; rw [this, hl]; decide, hs'.inv.keep _ _ hC, hN.keeps hs'.inv.keep, T.keeps hs'.inv.keep, fun hh e hm => ?_⟩
    exact ⟨e, i, _, s', m, rfl, hs', hX, .inr ⟨_, by rw [hcv]; exact hm, rfl, rfl, rfl⟩⟩
noncomputable def Vars.del (m : Vars) (i : Nat) : Vars := fun j => if j = i then Option.none else m j
theorem name_goes {F : Fx S} {m : Vars} {σ : Store} {i : Nat} {x : Str} {pos : Pos} {s : Shared} {X : Value → Shared → Prop} {Q' : Unit → Shared → Prop} (hf : F.sc.lookup x ≠ some .free) (hx : IsV F.tb F.sc x i) (hs : F.St m σ s)
    (hQ : ∀ s', Step F.P F.O σ s σ s' → F.St (Vars.del m i) σ s' → Q' () s') : wpAny (model prog w) F.A (do bindName F.env x .none; unbindBehindTheSuite F.env x pos) Q' X s := by
  refine wpAny_bind (wpAny_bindName (store_v (av := .none) hf hx hs .none fun s₁ st₁ h₁ => ?_))
  unfold unbindBehindTheSuite
  refine wpAny_onRaise ?_
  unfold unbindName
  refine wpAny_bind (wpAny_point (wpAny_bind ?_))
  obtain ⟨mc, cm, n, c, o, ap, cl, rr⟩ := h₁.loc
  have kd : ∀ y, F.env.kindOf y = F.sc.lookup y := fun zz => rfl
  have ne : ∀ {y : Str} {j : Nat} {bv : AV}, ixS F.tb y = some j → Vars.del m i j = some bv → y ≠ x ∧ Vars.set m i .none j = some bv := by
    intro y j bv hj hm
    unfold Vars.del at hm
    by_cases q : j = i
    · rw [if_pos q] at hm; cases hm
    · rw [if_neg q] at hm
      exact ⟨fun e => by subst e; rw [hx.ix] at hj; exact q (Option.some.inj hj).symm, by unfold Vars.set; rw [if_neg q]; exact hm⟩
  have hxm : Vars.set m i .none i = some .none := if_pos rfl
  rcases hx.kind with q | q | q
  · have hp : (F.env.scope.kind == .class || (F.env.scope.kind == .module && F.env.locals != F.env.globals)) = false := by rw [F.fk]; rfl
    have hv := rr x i .none hx.ix hxm
    rw [kd, q] at hv
    obtain ⟨v, hv, _⟩ := hv
    unfold deleteName
    simp only [(kd x).trans q, hp]
    rw [if_neg (by decide)]
    refine wpAny_bind (wpAny_nsDel_keeps n fun h' v' hn hsb => ?_)
    rw [hv]
    simp only [Option.isSome_some, Bool.not_true, Bool.false_eq_true, if_false]
    have hk : ∀ cc oc, cc ≠ F.env.locals → s₁.heap.get? cc = some oc → h'.get? cc = some oc := fun cc oc ne e => hsb.extBut cc oc ne e
    have hL : ∃ oo, h'.get? F.env.locals = some oo := by obtain ⟨oo, _, _, e, _⟩ := hn; exact ⟨oo, e⟩
    have e0 : Ext (F.D σ) s₁.heap h' := Ext.of_but fun cc oc d e => hk cc oc (fun q => d (.inr (q ▸ h₁.own _ (.inl rfl)))) e
    have loc' : Loc S.cv S.g F.tb F.env (Vars.del m i) F.N σ h' := by
      refine ⟨_, cm, hn, fun y cc hy => ?_, o, ap, cl, fun y j bv hj hm => ?_⟩
      · obtain ⟨ob, e, hd⟩ := c y cc hy
        exact ⟨ob, hk cc ob (cl y cc hy) e, hd⟩
      · obtain ⟨ny, hm'⟩ := ne hj hm
        exact LocAt.map (rr y j bv hj hm') (fun h2 => h2.ext e0 fun zz h => .inl h) (fun zz h1 => (if_neg ny).trans h1) (fun zz h1 => h1)
    obtain ⟨st2, h2⟩ := St.own_turn (tk := s₁.toks) h₁ (.inl rfl) hk hL loc'
    exact wpAny_pure (wpAny_point (hQ _ (st₁.trans st2) h2))
  · obtain ⟨cc, hcc⟩ := F.fc x ((kd x).trans q)
    have hv := rr x i .none hx.ix hxm
    rw [kd, q] at hv
    obtain ⟨v, _, _, hv, _⟩ := hv
    unfold deleteName
    simp only [(kd x).trans q]
    refine wpAny_bind (wpAny_cellOf hcc ?_)
    refine wpAny_bind (wpAny_cellGet (c x cc hcc) ?_)
    rw [hv]
    simp only [Option.isSome_some, if_true]
    refine wpAny_cellSet (c x cc hcc) fun h' hv' hsb => ?_
    have hk : ∀ d od, d ≠ cc → s₁.heap.get? d = some od → h'.get? d = some od := fun d od ne e => hsb.extBut d od ne e
    have hL : ∃ oo, h'.get? cc = some oo := by obtain ⟨oo, e, _⟩ := hv'; exact ⟨oo, e⟩
    have e0 : Ext (F.D σ) s₁.heap h' := Ext.of_but fun d od dd e => hk d od (fun q => dd (.inr (q ▸ h₁.own _ (.inr ⟨x, hcc⟩)))) e
    have loc' : Loc S.cv S.g F.tb F.env (Vars.del m i) F.N σ h' := by
      refine ⟨mc, fun y => if y = x then Option.none else cm y, n.sameBut hsb (Ne.symm (cl x cc hcc)), fun y d hy => ?_, o, ap, cl, fun y j bv hj hm => ?_⟩
      · by_cases e : y = x
        · subst e; rw [hcc] at hy; cases hy; simp only [if_true]; exact hv'
        · simp only [if_neg e]
          obtain ⟨ob, eo, hd⟩ := c y d hy
          exact ⟨ob, hk d ob (fun z => e (ap y x d hy (z ▸ hcc))) eo, hd⟩
      · obtain ⟨ny, hm'⟩ := ne hj hm
        exact LocAt.map (rr y j bv hj hm') (fun h2 => h2.ext e0 fun zz h => .inl h) (fun zz h1 => h1) (fun zz h1 => (if_neg ny).trans h1)
    obtain ⟨st2, h2⟩ := St.own_turn (tk := s₁.toks) h₁ (.inr ⟨x, hcc⟩) hk hL loc'
    exact wpAny_point (hQ _ (st₁.trans st2) h2)
  · exact absurd q hf
end Mine
end
section
namespace Mine
open PySem PyProof.Rows PySem.W
variable {prog : Program} {w : World} {S : Sta prog w} {W : Wd}
open Classical in
noncomputable def only (h : Heap) (P : Addr → Prop) : Heap := hideAll h ((List.range h.objs.size).filter fun a => decide (¬ P a))
theorem only_get {h : Heap} {P : Addr → Prop} {a : Addr} {o : Obj} (e : h.get? a = some o) (p : P a) : (only h P).get? a = some o :=
  hideAll_get _ e fun q => by
    have := (List.mem_filter.mp q).2
    simp [p] at this
theorem of_only {h : Heap} {P : Addr → Prop} {a : Addr} {o : Obj} (e : (only h P).get? a = some o) : h.get? a = some o ∧ P a := by
  have e' := of_hideAll _ e
  refine ⟨e', Classical.byContradiction fun n => ?_⟩
  have : (only h P).get? a = Option.none := hideAll_none _ (List.mem_filter.mpr ⟨List.mem_range.mpr (Heap.lt_size e'), by simp [n]⟩)
  rw [this] at e; cases e
theorem St.land {F : Fx S} {m : Vars} {σ : Store} {s₀ s' : Shared} {base : Heap} {l : List Env} (hs : F.St m σ s₀) (hA : F.A.frames = some l) (hbase : ∀ b o, s₀.heap.get? b = some o → ¬ Frames l b → base.get? b = some o)
    (stays : base.StaysIn s'.heap) (up : s₀.heap.UpToSlots s'.heap) (hr : s'.gens = s₀.gens ∧ s'.drawn = s₀.drawn ∧ s'.os = s₀.os) : F.St m σ s' := by
  have keep : ∀ b o, s₀.heap.get? b = some o → ¬ F.P b → s'.heap.get? b = some o := fun b o e n => stays b o (hbase b o e fun q => n ⟨l, hA, q⟩)
  have frm : ∀ b o, s₀.heap.get? b = some o → F.P b → (∀ vs, o.data ≠ .fields vs) ∧ ∃ sl, s'.heap.get? b = some { o with slots := sl } := fun b o e p => by
    obtain ⟨o', e', nf⟩ := hs.inv.Nin b (hs.pN b p)
    rw [e] at e'; cases e'
    exact ⟨nf, up b o e nf⟩
  have st : Step F.P noO σ s₀ σ s' := by
    refine ⟨⟨fun b o e d => keep b o e fun q => d (.inr (.inr q))⟩, fun b o e p zz zz => ?_, fun zz h => .inl h, fun b o e => ?_⟩
    · obtain ⟨_, sl, e'⟩ := frm b o e p; exact ⟨_, e', rfl, rfl, rfl⟩
    · by_cases p : F.P b
      · obtain ⟨_, sl, e'⟩ := frm b o e p; exact ⟨_, e'⟩
      · exact ⟨o, keep b o e p⟩
  have gP : ∀ {b o}, S.g.get? b = some o → ¬ F.P b := fun {b o} e p => by
    obtain ⟨l', el, h⟩ := F.room.fr
    obtain ⟨l2, el2, ev, hev, hf⟩ := p
    rw [el] at el2; cases el2
    obtain ⟨_, L, h2, _, h4⟩ := h ev hev
    rw [hf] at h2; cases h2; rw [h4] at e; cases e
  refine hs.to st ⟨fun b o e => keep b o (hs.inv.keep b o e) (gP e), hr.1.trans hs.inv.gens, hr.2.1.trans hs.inv.drawn, hr.2.2.trans hs.inv.os, hs.inv.σg, hs.inv.σN, fun a q => ?_, fun a o e => ?_⟩ fun zz h => h
  · obtain ⟨o, e, nf⟩ := hs.inv.Nin a q
    by_cases p : F.P a
    · obtain ⟨_, sl, e'⟩ := frm a o e p; exact ⟨_, e', nf⟩
    · exact ⟨o, keep a o e p, nf⟩
  · exact (hs.inv.rep a o e).ext (⟨fun b ob eb d => keep b ob eb fun p => d (.inr (hs.pN b p))⟩ : Ext (DN F.N σ) s₀.heap s'.heap) (fun zz h => .inl h)
      fun ob eo => keep a ob eo fun p => hs.inv.σN a (by unfold Dom; rw [e]; simp) (hs.pN a p)
theorem Loc.atG {cv : Nat → Value} {g g' h : Heap} {tb : List Nat} {env : Env} {m : Nat → Option AV} {N : Addr → Prop} {σ : Store} (l : Loc cv g tb env m N σ h) (k : ∀ a, Own env a → g'.get? a = Option.none) : Loc cv g' tb env m N σ h := by
  obtain ⟨mc, cm, n, c, o, ap, cl, r⟩ := l
  exact ⟨mc, cm, n, c, fun a ha => ⟨(o a ha).1, k a ha⟩, ap, cl, r⟩
noncomputable def Fx.hand (F : Fx S) {g' : Heap} {k : ∀ b o, S.g.get? b = some o → g'.get? b = some o} {ea : Addr} {hx : ∃ o vs, g'.get? ea = some o ∧ o.data = .fields vs ∧ vs[2]? = some Value.none} (b' : Store × Shared) (room : Room (S.grow g' k ea hx) F.N F.k (F.A.mark (some (.ref ea)))) : Fx (S.grow g' k ea hx) :=
  ⟨F.A.mark (some (.ref ea)), F.tb, F.env, b', F.N, F.k, room, F.fk, F.fg, F.fb, F.fc⟩
inductive Grown (F : Fx S) (m : Vars) (σ : Store) (s : Shared) (ea : Addr) : Prop
  | mk (g' : Heap) (k : ∀ b o, S.g.get? b = some o → g'.get? b = some o) (hx : ∃ o vs, g'.get? ea = some o ∧ o.data = .fields vs ∧ vs[2]? = some Value.none) (b' : Store × Shared) (room : Room (S.grow g' k ea hx) F.N F.k (F.A.mark (some (.ref ea)))) (st : (F.hand b' room).St m σ s)
      (back : ∀ m₂ σ₂ s₂, (F.hand b' room).St m₂ σ₂ s₂ → F.St m₂ σ₂ s₂) : Grown F m σ s ea
theorem St.grown {F : Fx S} {m : Vars} {σ : Store} {s : Shared} {ea : Addr} {oe : Obj} {vs : Array Value} (hs : F.St m σ s) (he : s.heap.get? ea = some oe) (hd : oe.data = .fields vs) (h2 : vs[2]? = some Value.none)
    (nD : ¬ Dom σ ea) (nN : ¬ F.N ea) (nb : F.b.2.heap.get? ea = Option.none) :
    Grown F m σ s ea := by
  have k : ∀ b o, S.g.get? b = some o → (only s.heap (fun a => S.g.get? a ≠ Option.none ∨ a = ea)).get? b = some o := fun b o e => only_get (hs.inv.keep b o e) (.inl (by rw [e]; simp))
  have hx : ∃ o vs, (only s.heap (fun a => S.g.get? a ≠ Option.none ∨ a = ea)).get? ea = some o ∧ o.data = .fields vs ∧ vs[2]? = some Value.none := ⟨oe, vs, only_get he (.inr rfl), hd, h2⟩
  have gnone : ∀ {a}, S.g.get? a = Option.none → a ≠ ea → (only s.heap (fun a => S.g.get? a ≠ Option.none ∨ a = ea)).get? a = Option.none := fun {a} h n => by
    cases q : (only s.heap (fun a => S.g.get? a ≠ Option.none ∨ a = ea)).get? a with
    | none => rfl
    | some o => exact ((of_only q).2.elim (fun z => z h) n).elim
  have bnone : ∀ {a}, F.b.2.heap.get? a = Option.none → a ≠ ea → (only s.heap (fun a => F.b.2.heap.get? a ≠ Option.none ∨ a = ea)).get? a = Option.none := fun {a} h n => by
    cases q : (only s.heap (fun a => F.b.2.heap.get? a ≠ Option.none ∨ a = ea)).get? a with
    | none => rfl
    | some o => exact ((of_only q).2.elim (fun z => z h) n).elim
  have room : Room (S.grow _ k ea hx) F.N F.k (F.A.mark (some (.ref ea))) := by
    refine ⟨rfl, ?_, F.room.dp, F.room.un⟩
    obtain ⟨l, el, h⟩ := F.room.fr
    refine ⟨l, el, fun ev hev => ?_⟩
    obtain ⟨h1, L, h2, h3, h4⟩ := h ev hev
    exact ⟨h1, L, h2, h3, gnone h4 fun z => nN (z ▸ h3)⟩
  obtain ⟨mc, cm, ns, cc, ow, ap, cl, rr⟩ := hs.loc
  refine ⟨_, k, hx, (F.b.1, { F.b.2 with heap := only s.heap (fun a => F.b.2.heap.get? a ≠ Option.none ∨ a = ea) }), room, ?_, ?_⟩
  · refine ⟨⟨fun b o e => (of_only e).1, hs.inv.gens, hs.inv.drawn, hs.inv.os, fun a d => gnone (hs.inv.σg a d) fun z => nD (z ▸ d), hs.inv.σN, hs.inv.Nin, hs.inv.rep⟩, ?_, ?_, hs.pN, ?_, hs.own, ?_⟩
    · exact hs.loc.atG fun a ha => gnone (ow a ha).2 fun z => nN (z ▸ hs.own a ha)
    · exact Step.of_keeps (fun b o e => (of_only e).1) fun a d => (hs.frm.dom a d).imp id fun q => bnone q fun z => nD (z ▸ d)
    · exact fun a ha => bnone (hs.new a ha) fun z => nN (z ▸ hs.own a ha)
    · intro a e
      cases q : (only s.heap (fun a => S.g.get? a ≠ Option.none ∨ a = ea)).get? a with
      | none => exact q
      | some o =>
        exfalso
        obtain ⟨q1, q2⟩ := of_only q
        have : (only s.heap (fun a => F.b.2.heap.get? a ≠ Option.none ∨ a = ea)).get? a = some o := only_get q1 (q2.imp (fun z y => z (hs.gb a y)) id)
        have e' : (only s.heap (fun a => F.b.2.heap.get? a ≠ Option.none ∨ a = ea)).get? a = Option.none := e
        rw [this] at e'; cases e'
  · intro m₂ σ₂ s₂ h
    refine ⟨⟨fun b o e => h.inv.keep b o (k b o e), h.inv.gens, h.inv.drawn, h.inv.os, fun a d => ?_, h.inv.σN, h.inv.Nin, h.inv.rep⟩, ?_, ?_, hs.pN, hs.new, hs.own, hs.gb⟩
    · cases q : S.g.get? a with
      | none => rfl
      | some o => have e1 := h.inv.σg a d; have e2 := k a o q; exact absurd (e2.symm.trans e1) (by simp)
    · exact h.loc.atG fun a ha => (ow a ha).2
    · have st1 : Step F.P noO F.b.1 F.b.2 F.b.1 { F.b.2 with heap := only s.heap (fun a => F.b.2.heap.get? a ≠ Option.none ∨ a = ea) } := by
        refine ⟨⟨fun b o e d => only_get (hs.frm.ext.obj b o e d) (.inl (by rw [e]; simp))⟩, fun b o e p ho d => ?_, fun zz h => .inl h, fun b o e => ?_⟩
        · obtain ⟨o', e', r⟩ := hs.frm.frm b o e p ho d; exact ⟨o', only_get e' (.inl (by rw [e]; simp)), r⟩
        · obtain ⟨o', e'⟩ := hs.frm.there b o e; exact ⟨o', only_get e' (.inl (by rw [e]; simp))⟩
      exact st1.trans h.frm
theorem CSs.one {tb : List Nat} {sc : Nms} {ps : List Stmt} {st : Mine.S} (h : CSs tb sc ps [st]) : ∃ p, ps = [p] ∧ CS tb sc p st := by
  cases h with | cons h1 h2 => cases h2; exact ⟨_, rfl, h1⟩
inductive Fell (F : Fx S) (m : Vars) (X : KX) (g : Nat) (lt : List Env) (e : Value) (s₁ : Shared) : Prop
  | mk (ea : Addr) (c : Nat) (σ' : Store) (s₀ : Shared) (base : Heap) (C : Addr) (he : e = .ref ea) (fly : FlyY base (F.env :: lt) ea (S.cv c) .none s₁.heap) (hbase : ∀ b o, s₀.heap.get? b = some o → ¬ Frames (F.env :: lt) b → base.get? b = some o) (up : s₀.heap.UpToSlots s₁.heap)
      (rest : s₁.gens = s₀.gens ∧ s₁.drawn = s₀.drawn ∧ s₁.os = s₀.os) (st : F.St m σ' s₀) (x : X c σ') (sub : exmOne S.K (S.cv c) (S.cv g) = some true) (cls : S.cv c = .ref C) : Fell F m X g lt e s₁
theorem XF.fell {F : Fx S} {m : Vars} {X : KX} {g : Nat} {lt : List Env} {e : Value} {s₁ : Shared} (z : XF F m X e s₁) (elt : F.A.frames = some (F.env :: lt)) (hsub : ∀ c σ', X c σ' → exmOne S.K (S.cv c) (S.cv g) = some true ∧ ∃ C, S.cv c = .ref C) : Fell F m X g lt e s₁ := by
  obtain ⟨ea, c, σ', s₀, he, o, st₀, hX⟩ := z
  obtain ⟨base, l, el, fly, hbase⟩ := o.fly
  obtain rfl : l = F.env :: lt := Option.some.inj (el.symm.trans elt)
  obtain ⟨C, hC⟩ := (hsub c σ' hX).2
  exact ⟨ea, c, σ', s₀, base, C, he, fly, hbase, o.up, o.rest, st₀, hX, (hsub c σ' hX).1, hC⟩
theorem FlyY.looks {base : Heap} {l : List Env} {ea : Addr} {cls fl : Value} {h : Heap} (x : FlyY base l ea cls fl h) : Looks (model prog w) h (typeOf (.ref ea)) cls := by
  obtain ⟨oe, vs, T, oT, ts, hoe, hcls, hdt, hv2, hv1, _⟩ := x.tr
  rw [← hcls]; exact (Looks.ld hoe).andThen .now
inductive Caught (F : Fx S) (m : Vars) (σ : Store) (s : Shared) (ea : Addr) (c : Nat) : Prop
  | mk (g : Grown F m σ s ea) (rx : Rep S.cv s.heap (DN F.N σ) (.exc c) (.ref ea)) : Caught F m σ s ea c
theorem caught {F : Fx S} {m : Vars} {σ : Store} {s₀ s : Shared} {base : Heap} {lt : List Env} {ea C : Addr} {c : Nat} {fl : Value} (elt : F.A.frames = some (F.env :: lt)) (st₀ : F.St m σ s₀) (L : F.St m σ s) (fly : FlyY base (F.env :: lt) ea (S.cv c) fl s.heap) (hbase : ∀ b o, s₀.heap.get? b = some o → ¬ Frames (F.env :: lt) b → base.get? b = some o)
    (up : s₀.heap.UpToSlots s.heap) (hC : S.cv c = .ref C) : Caught F m σ s ea c := by
  obtain ⟨oe, vs, T, oT, ts, hoe, hcls, hdt, ⟨hv2, hdc⟩, _⟩ := fly.tr
  have old : ∀ {b o}, s₀.heap.get? b = some o → b ≠ ea := fun {b o} e0 z => by
    by_cases p : Frames (F.env :: lt) b
    · obtain ⟨o', e', nf⟩ := st₀.inv.Nin b (st₀.pN b ⟨_, elt, p⟩)
      obtain ⟨sl, e4⟩ := up b o' e' nf
      rw [z, hoe] at e4
      have := Option.some.inj e4
      exact nf vs (by rw [this] at hdt; exact hdt)
    · have := hbase b o e0 p
      rw [z, fly.new] at this; cases this
  have nD : ¬ Dom σ ea := fun d => by obtain ⟨o, e0⟩ := st₀.inv.dom_there d; exact old e0 rfl
  have nN : ¬ F.N ea := fun d => by obtain ⟨o, e0, _⟩ := st₀.inv.Nin ea d; exact old e0 rfl
  have nbb : F.b.2.heap.get? ea = Option.none := by
    cases z : F.b.2.heap.get? ea with
    | none => rfl
    | some o => obtain ⟨o', e0⟩ := st₀.frm.there _ _ z; exact (old e0 rfl).elim
  exact ⟨St.grown L hoe hdt hv2 nD nN nbb, .exc hoe hcls ⟨⟨_, hdt⟩, hdc⟩ (fun d => d.elim nD nN) ⟨C, hC⟩⟩
theorem CallT.try_ {k : Nat} {f : Addr} {c : FnCore} {avs : List AV} {σ : Store} {Q : AV → Store → Prop} {X : KX} {e : E} {i g : Nat} {h0 : Mine.S} {hr : List Mine.S} (hf : IsFn S f c) (hn : avs.length = c.n) (hb : c.body = [.try_ [.ret e] (.g g) (some i) (h0 :: hr)])
    (hg : Glob S g (S.cv g)) (hsub : ∀ c σ', X c σ' → exmOne S.K (S.cv c) (S.cv g) = some true ∧ ∃ C, S.cv c = .ref C)
    (he : ∀ F : Fx S, F.k = k → ET F (argsM avs) σ e (fun a σ₁ => RetK S Q (.ret a) (argsM avs) σ₁) (XF F (argsM avs) X))
    (hh : ∀ c σ', X c σ' → ∀ g' kk x hx, ∀ F' : Fx (S.grow g' kk x hx), F'.k = k → SsT F' (Vars.set (argsM avs) i (.exc c)) σ' (h0 :: hr) (fun fl m₂ σ₂ => RetK S Q fl m₂ σ₂) NoX) : CallT S (k + 1) (.ref f) avs σ Q noX := by
  refine CallT.body0 hf hn fun F hk ht ps hc s hs => ?_
  rw [hb] at hc
  obtain ⟨p, ep, hc1⟩ := hc.one
  clear hc
  subst ep
  obtain ⟨_, _, _, _, _, _, rfl, hcb, hct, hfree, hv, hch⟩ := hc1.inv
  obtain ⟨_, _, rfl, hgx⟩ := hct.inv
  obtain ⟨_, _, rfl, hc0, hcr⟩ := hch.inv
  obtain ⟨lt, elt⟩ := ht.top
  have hbd : SsT F (argsM avs) σ [.ret e] (fun fl m' σ' => ∃ a, fl = .ret a ∧ RetK S Q fl m' σ') (XF F (argsM avs) X) := SsT.cons (ST.ret ((he F hk).mono fun a σ₁ q => ⟨a, rfl, q⟩))
  refine wpAny_execs_cons (wpAny_Try_except ?_)
  refine wpAny_mono (hbd _ hcb s hs) ?_ ?_
  · rintro fl s₁ ⟨fl', m', σ', _, h', hfr, a, rfl, hret⟩
    cases fl with
    | ret v => exact ⟨.ret a, m', σ', h', hfr, hret⟩
    | _ => exact hfr.elim
  intro ev s₁ x
  obtain ⟨ea, c, σ', s₀, base, C, hea, fly, hbase, up, rest, st₀, hX, hsub, hC⟩ := x.fell elt hsub
  subst hea
  refine note_next elt ht.frame fly fun h₂ fly₂ up₂ => ?_
  refine flightY fly₂ fun h₃ fly₃ up₃ => ?_
  have L3 : F.St (argsM avs) σ' { s₁ with heap := h₃ } := St.land st₀ elt hbase fly₃.stays ((up.trans up₂).trans up₃) rest
  refine wpAny_handleBy_cons (codeAny_handlers_test ?_) (by intro q; cases q)
  refine load_g hgx hg L3 ?_
  refine (exm_one (S.X.keeps L3.inv.keep) fly₃.looks hsub).here ?_
  show codeAny _ _ _ _ _
  refine codeAny_handlers_suite_as (flightY fly₃ fun h₄ fly₄ up₄ => ?_)
  obtain ⟨⟨g', kk, hx, b', room, stF, back⟩, rx⟩ := caught (s := { s₁ with heap := h₄ }) elt st₀ (St.land st₀ elt hbase fly₄.stays (((up.trans up₂).trans up₃).trans up₄) rest) fly₄ hbase (((up.trans up₂).trans up₃).trans up₄) hC
  refine store_v (F := F.hand b' room) hfree hv stF rx fun s₅ zz h₅ => ?_
  refine wpAny_mono (hh c σ' hX g' kk ea hx (F.hand b' room) hk _ (.cons hc0 hcr) s₅ h₅) ?_ fun zz zz x => x.elim
  rintro fl s₆ ⟨fl', m₂, σ₂, _, h₆, hfr, hret⟩
  refine name_goes (F := F) hfree hv (back _ _ _ h₆) fun s₇ st₇ h₇ => ?_
  cases fl' with
  | next =>
    cases fl with
    | next => exact wpAny_execs_nil ⟨.next, _, σ₂, h₇, trivial, hret⟩
    | _ => exact hfr.elim
  | ret v =>
    cases fl with
    | ret u => exact ⟨.ret v, _, σ₂, h₇, Rep.st (F := F) hfr st₇ h₇, hret⟩
    | _ => exact hfr.elim
end Mine
end
section
namespace Mine
open PySem PyProof.Rows PySem.W
variable {prog : Program} {w : World} {S : Sta prog w} {W : Wd}
theorem CallT.vc {k : Nat} {f : Addr} {c : FnCore} {avs : List AV} {σ : Store} {Q : KV} {X : KX} {mus : List Nat} (G : Good S W) (hf : IsFn S f c) (hn : avs.length = c.n) (hk : W.k ≤ k) (h : vcSs S W X mus c.body (argsM avs) σ (RetK S Q)) : CallT S (k + 1) (.ref f) avs σ Q X :=
  CallT.body hf hn fun F hF zz => h G F (by rw [hF]; exact hk)
end Mine
end
section
namespace Mine
noncomputable abbrev Sp := Int × Int
noncomputable def nearL (k : Sp) : List Sp := [(k.1, k.2 - 1), (k.1 - 1, k.2), (k.1 + 1, k.2), (k.1, k.2 + 1)]
noncomputable def nearR (k : Sp) : List Sp := [(k.1 + 1, k.2), (k.1 - 1, k.2), (k.1, k.2 + 1), (k.1, k.2 - 1)]
theorem nearR_mem {k c : Sp} : c ∈ nearR k ↔ c ∈ nearL k := by
  simp only [nearR, nearL, List.mem_cons, List.not_mem_nil, or_false]
  constructor <;> rintro (h | h | h | h) <;> simp [h]
inductive Reach (P : List Sp) (a : Sp) : Sp → Prop
  | refl : Reach P a a
  | step {b c : Sp} : Reach P a b → c ∈ nearL b → c ∈ P → Reach P a c
noncomputable def Comp (P : List Sp) (a : Sp) (fs : List Sp) : Prop := fs.Nodup ∧ ∀ k, k ∈ fs ↔ Reach P a k
theorem sub_length : ∀ {l k : List Sp}, l.Nodup → (∀ x ∈ l, x ∈ k) → l.length ≤ k.length
  | [], _, _, _ => Nat.zero_le _
  | x :: l, k, nd, h => by
    rw [List.nodup_cons] at nd
    have hx : x ∈ k := h x (.head _)
    have ih := sub_length (k := k.erase x) nd.2 fun y hy => (List.mem_erase_of_ne (fun (e : y = x) => nd.1 (by rw [← e]; exact hy))).mpr (h y (.tail _ hy))
    rw [List.length_erase_of_mem hx] at ih
    have : 0 < k.length := List.length_pos_of_mem hx
    simp only [List.length_cons]; omega
theorem same_length {l k : List Sp} (hl : l.Nodup) (hk : k.Nodup) (h : ∀ x, x ∈ l ↔ x ∈ k) : l.length = k.length :=
  Nat.le_antisymm (sub_length hl fun x hx => (h x).mp hx) (sub_length hk fun x hx => (h x).mpr hx)
theorem Comp.length {P : List Sp} {a : Sp} {fs gs : List Sp} (h : Comp P a fs) (g : Comp P a gs) : fs.length = gs.length := same_length h.1 g.1 fun x => (h.2 x).trans (g.2 x).symm
theorem Reach.mem {P : List Sp} {a k : Sp} (h : Reach P a k) : k = a ∨ k ∈ P := by
  cases h with
  | refl => exact .inl rfl
  | step _ _ h => exact .inr h
structure Dfs (P : List Sp) (a : Sp) (fs ws : List Sp) : Prop where
  nd : fs.Nodup
  ha : a ∈ fs
  rc : ∀ k ∈ fs, Reach P a k
  wf : ∀ k ∈ ws, k ∈ fs
  cl : ∀ k ∈ fs, k ∉ ws → ∀ c ∈ nearL k, c ∈ P → c ∈ fs
structure DfsAt (P : List Sp) (a : Sp) (fs ws : List Sp) (e : Sp) (r : List Sp) : Prop where
  nd : fs.Nodup
  ha : a ∈ fs
  rc : ∀ k ∈ fs, Reach P a k
  wf : ∀ k ∈ ws, k ∈ fs
  he : e ∈ fs
  hr : ∀ c ∈ r, c ∈ nearL e
  cl : ∀ k ∈ fs, k ∉ ws → ∀ c ∈ nearL k, c ∈ P → c ∈ fs ∨ (k = e ∧ c ∈ r)
noncomputable def dfsM (P fs ws : List Sp) : Nat := 2 * (P.length + 1 - fs.length) + ws.length
theorem Dfs.start (P : List Sp) (a : Sp) : Dfs P a [a] [a] :=
  ⟨by simp, by simp, fun k h => by simp at h; subst h; exact .refl, fun k h => h, fun k h n => absurd h n⟩
theorem Dfs.pop {P : List Sp} {a e : Sp} {fs ws : List Sp} (h : Dfs P a fs (ws ++ [e])) : DfsAt P a fs ws e (nearL e) :=
  ⟨h.nd, h.ha, h.rc, fun k hk => h.wf k (by simp [hk]), h.wf e (by simp), fun zz h => h, fun k hk hn c hc hp => by
    by_cases q : k = e
    · subst q; exact .inr ⟨rfl, hc⟩
    · exact .inl (h.cl k hk (by simp [hn, q]) c hc hp)⟩
theorem DfsAt.done {P : List Sp} {a e : Sp} {fs ws : List Sp} (h : DfsAt P a fs ws e []) : Dfs P a fs ws :=
  ⟨h.nd, h.ha, h.rc, h.wf, fun k hk hn c hc hp => (h.cl k hk hn c hc hp).elim id fun q => absurd q.2 (by simp)⟩
theorem DfsAt.skip {P : List Sp} {a e c : Sp} {fs ws r : List Sp} (h : DfsAt P a fs ws e (c :: r)) (hc : ¬ (c ∈ P ∧ c ∉ fs)) : DfsAt P a fs ws e r :=
  ⟨h.nd, h.ha, h.rc, h.wf, h.he, fun d hd => h.hr d (.tail _ hd), fun k hk hn d hd hp => by
    rcases h.cl k hk hn d hd hp with q | ⟨q, q'⟩
    · exact .inl q
    · rcases List.mem_cons.mp q' with rfl | q'
      · exact .inl (Classical.byContradiction fun z => hc ⟨hp, z⟩)
      · exact .inr ⟨q, q'⟩⟩
theorem DfsAt.push {P : List Sp} {a e c : Sp} {fs ws r : List Sp} (h : DfsAt P a fs ws e (c :: r)) (hc : c ∈ P) (hn : c ∉ fs) : DfsAt P a (fs ++ [c]) (ws ++ [c]) e r := by
  refine ⟨?_, by simp [h.ha], fun k hk => ?_, fun k hk => ?_, by simp [h.he], fun d hd => h.hr d (.tail _ hd), fun k hk hw d hd hp => ?_⟩
  · rw [List.nodup_append]
    exact ⟨h.nd, by simp, fun x hx y hy => by simp at hy; subst hy; exact fun z => hn (z ▸ hx)⟩
  · rcases List.mem_append.mp hk with q | q
    · exact h.rc k q
    · simp at q; subst q; exact .step (h.rc e h.he) (h.hr k (.head _)) hc
  · rcases List.mem_append.mp hk with q | q
    · exact List.mem_append.mpr (.inl (h.wf k q))
    · exact List.mem_append.mpr (.inr q)
  · rcases List.mem_append.mp hk with q | q
    · rcases h.cl k q (fun z => hw (List.mem_append.mpr (.inl z))) d hd hp with z | ⟨z, z'⟩
      · exact .inl (List.mem_append.mpr (.inl z))
      · rcases List.mem_cons.mp z' with rfl | z'
        · exact .inl (by simp)
        · exact .inr ⟨z, z'⟩
    · exact absurd (List.mem_append.mpr (.inr q)) hw
theorem size_ok {P : List Sp} {a : Sp} {fs : List Sp} (nd : fs.Nodup) (rc : ∀ k ∈ fs, Reach P a k) : fs.length ≤ P.length + 1 :=
  sub_length (k := a :: P) nd fun k hk => by rcases (rc k hk).mem with q | q <;> simp [q]
theorem dfsM_push {P : List Sp} {a e c : Sp} {fs ws r : List Sp} (h : DfsAt P a fs ws e (c :: r)) (hc : c ∈ P) (hn : c ∉ fs) : dfsM P (fs ++ [c]) (ws ++ [c]) ≤ dfsM P fs ws := by
  have := size_ok (h.push hc hn).nd (h.push hc hn).rc
  unfold dfsM
  simp only [List.length_append, List.length_cons, List.length_nil] at this ⊢
  omega
theorem Dfs.end_ {P : List Sp} {a : Sp} {fs : List Sp} (h : Dfs P a fs []) : Comp P a fs :=
  ⟨h.nd, fun k => ⟨h.rc k, fun r => by
    induction r with
    | refl => exact h.ha
    | step _ hn hp ih => exact h.cl _ ih (by simp) _ hn hp⟩⟩
structure Bfs (P : List Sp) (a : Sp) (fs : List Sp) (t : Nat) : Prop where
  nd : fs.Nodup
  ha : a ∈ fs
  rc : ∀ k ∈ fs, Reach P a k
  tl : t ≤ fs.length
  cl : ∀ j, j < t → ∀ k, fs[j]? = some k → ∀ c ∈ nearL k, c ∈ P → c ∈ fs
structure BfsAt (P : List Sp) (a : Sp) (fs : List Sp) (t : Nat) (e : Sp) (r : List Sp) : Prop where
  nd : fs.Nodup
  ha : a ∈ fs
  rc : ∀ k ∈ fs, Reach P a k
  te : fs[t]? = some e
  hr : ∀ c ∈ r, c ∈ nearL e
  cl : ∀ j, j < t → ∀ k, fs[j]? = some k → ∀ c ∈ nearL k, c ∈ P → c ∈ fs
  ce : ∀ c ∈ nearL e, c ∈ P → c ∈ fs ∨ c ∈ r
theorem Bfs.start (P : List Sp) (a : Sp) : Bfs P a [a] 0 :=
  ⟨by simp, by simp, fun k h => by simp at h; subst h; exact .refl, Nat.zero_le _, fun j h => absurd h (Nat.not_lt_zero _)⟩
theorem Bfs.here {P : List Sp} {a e : Sp} {fs : List Sp} {t : Nat} (h : Bfs P a fs t) (he : fs[t]? = some e) : BfsAt P a fs t e (nearR e) :=
  ⟨h.nd, h.ha, h.rc, he, fun c hc => nearR_mem.mp hc, h.cl, fun c hc zz => .inr (nearR_mem.mpr hc)⟩
theorem BfsAt.done {P : List Sp} {a e : Sp} {fs : List Sp} {t : Nat} (h : BfsAt P a fs t e []) : Bfs P a fs (t + 1) :=
  ⟨h.nd, h.ha, h.rc, (List.getElem?_eq_some_iff.mp h.te).1, fun j hj k hk c hc hp => by
    by_cases q : j = t
    · subst q; rw [h.te] at hk; cases hk; exact (h.ce c hc hp).elim id fun z => absurd z (by simp)
    · exact h.cl j (by omega) k hk c hc hp⟩
theorem BfsAt.skip {P : List Sp} {a e c : Sp} {fs r : List Sp} {t : Nat} (h : BfsAt P a fs t e (c :: r)) (hc : ¬ (c ∈ P ∧ c ∉ fs)) : BfsAt P a fs t e r :=
  ⟨h.nd, h.ha, h.rc, h.te, fun d hd => h.hr d (.tail _ hd), h.cl, fun d hd hp => by
    rcases h.ce d hd hp with q | q
    · exact .inl q
    · rcases List.mem_cons.mp q with rfl | q
      · exact .inl (Classical.byContradiction fun z => hc ⟨hp, z⟩)
      · exact .inr q⟩
theorem BfsAt.push {P : List Sp} {a e c : Sp} {fs r : List Sp} {t : Nat} (h : BfsAt P a fs t e (c :: r)) (hc : c ∈ P) (hn : c ∉ fs) : BfsAt P a (fs ++ [c]) t e r := by
  have lt := (List.getElem?_eq_some_iff.mp h.te).1
  refine ⟨?_, by simp [h.ha], fun k hk => ?_, by rw [List.getElem?_append_left lt]; exact h.te, fun d hd => h.hr d (.tail _ hd), fun j hj k hk d hd hp => ?_, fun d hd hp => ?_⟩
  · rw [List.nodup_append]
    exact ⟨h.nd, by simp, fun x hx y hy => by simp at hy; subst hy; exact fun z => hn (z ▸ hx)⟩
  · rcases List.mem_append.mp hk with q | q
    · exact h.rc k q
    · simp at q; subst q; exact .step (h.rc e (List.mem_of_getElem? h.te)) (h.hr k (.head _)) hc
  · rw [List.getElem?_append_left (by omega)] at hk
    exact List.mem_append.mpr (.inl (h.cl j hj k hk d hd hp))
  · rcases h.ce d hd hp with q | q
    · exact .inl (List.mem_append.mpr (.inl q))
    · rcases List.mem_cons.mp q with rfl | q
      · exact .inl (by simp)
      · exact .inr q
theorem Bfs.end_ {P : List Sp} {a : Sp} {fs : List Sp} {t : Nat} (h : Bfs P a fs t) (ht : ¬ t < fs.length) : Comp P a fs :=
  ⟨h.nd, fun k => ⟨h.rc k, fun r => by
    induction r with
    | refl => exact h.ha
    | step _ hn hp ih =>
      obtain ⟨j, hj, e⟩ := List.mem_iff_getElem.mp ih
      exact h.cl j (by omega) _ (by rw [List.getElem?_eq_getElem hj, e]) _ hn hp⟩⟩
end Mine
end
section
namespace Mine
open PySem PyProof.Rows PySem.W
variable {prog : Program} {w : World} {S : Sta prog w} {W : Wd}
section
variable (S : Sta prog w) (W : Wd) (X : KX)
noncomputable abbrev kLen (f : List AV → AV) (Q : KV) : List AV → Store → Prop := fun l σ' => l.length ≤ big ∧ Q (f l) σ'
noncomputable abbrev kFrs (mu : Bool) (Q : KV) : List AV → Store → Prop := fun l σ' => l.length ≤ big ∧ frs mu σ' (.list l) (.list l) Q
noncomputable abbrev kBin2 (mu : Bool) (op : Operator) (a : AV) (Q : KV) : KV := fun b σ₂ => binV mu op a b σ₂ Q
noncomputable abbrev kBin (mu : Bool) (op : Operator) (r : E) (m : Vars) (Q : KV) : KV := fun a σ₁ => vcE S W X false r m σ₁ (kBin2 mu op a Q)
noncomputable abbrev kNeg (Q : KV) : KV := fun a σ₁ => ∃ i, a = .int i ∧ Q (.int (-i)) σ₁
noncomputable abbrev kTb (Q : KV) : KB := fun c σ₃ => Q (.bool c) σ₃
noncomputable abbrev kCmp2 (op : CmpOp) (a : AV) (B : KB) : KV := fun b σ₂ => cmpV op a b σ₂ B
noncomputable abbrev kCmp (op : CmpOp) (r : E) (m : Vars) (B : KB) : KV := fun a σ₁ => vcE S W X false r m σ₁ (kCmp2 op a B)
noncomputable abbrev kSub2 (a : AV) (Q : KV) : KV := fun k σ₂ => subV a k σ₂ Q
noncomputable abbrev kSub (i : E) (m : Vars) (Q : KV) : KV := fun a σ₁ => vcE S W X false i m σ₁ (kSub2 a Q)
noncomputable abbrev kSl3 (mu : Bool) (a x : AV) (Q : KV) : KV := fun y σ₃ => sliceV mu a x y σ₃ Q
noncomputable abbrev kSl2 (mu : Bool) (hi : E) (m : Vars) (a : AV) (Q : KV) : KV := fun x σ₂ => vcE S W X false hi m σ₂ (kSl3 mu a x Q)
noncomputable abbrev kSl (mu : Bool) (lo hi : E) (m : Vars) (Q : KV) : KV := fun a σ₁ => vcE S W X false lo m σ₁ (kSl2 S W X mu hi m a Q)
noncomputable abbrev kCall (mu : Bool) (i : Nat) (Q : KV) : List AV → Store → Prop := fun avs σ₁ => callV S W X mu i avs σ₁ Q
noncomputable abbrev kOwn (i : Nat) (Q : KV) : List AV → Store → Prop := fun avs σ₁ => OwnT S W.k i avs σ₁ Q X
noncomputable abbrev kB (B : KB) : KV := fun a σ₂ => ∃ b, a = .bool b ∧ B b σ₂
noncomputable abbrev kIt (G : KG) : KV := fun a σ₂ => iterV S a σ₂ (fun items ok => G items ok σ₂)
noncomputable abbrev kMeth2 (n : Nat) (a : AV) (Q : KV) : List AV → Store → Prop := fun avs σ₂ => methV S W X n a avs σ₂ Q
noncomputable abbrev kMeth (n : Nat) (args : List E) (m : Vars) (Q : KV) : KV := fun a σ₁ => objV W n a σ₁ ∧ vcEs S W X args m σ₁ (kMeth2 S W X n a Q)
noncomputable abbrev kCons (P : List AV → Store → Prop) (a : AV) : List AV → Store → Prop := fun l σ₂ => P (a :: l) σ₂
noncomputable abbrev kEs (r : List E) (m : Vars) (P : List AV → Store → Prop) : KV := fun a σ₁ => vcEs S W X r m σ₁ (kCons P a)
noncomputable abbrev kRet (K : KS) (m : Vars) : KV := fun a σ₁ => K (.ret a) m σ₁
set_option tactic.hygienic true in
noncomputable abbrev kNext (K : KS) (m : Vars) : KV := fun zz σ₁ => K .next m σ₁
noncomputable abbrev kAss (K : KS) (m : Vars) (i : Nat) : KV := fun a σ₁ => K .next (m.set i a) σ₁
noncomputable abbrev kTwo2 (K : KS) (m : Vars) (i j : Nat) (x : AV) : KV := fun y σ₂ => K .next ((m.set i x).set j y) σ₂
noncomputable abbrev kTwo (e2 : E) (K : KS) (m : Vars) (i j : Nat) : KV := fun x σ₁ => vcE S W X false e2 m σ₁ (kTwo2 K m i j x)
set_option tactic.hygienic true in
noncomputable abbrev kP0 (K : KS) (σ : Store) : Vars → Prop := fun m₁ => K .next m₁ σ
noncomputable abbrev kUnp (ps : List Pat) (K : KS) (m : Vars) : KV := fun a σ₁ => patV S (.tup ps) a m (kP0 K σ₁)
noncomputable abbrev kPat (ps : List Pat) (as : List AV) (P : Vars → Prop) : Vars → Prop := fun m₁ => patVs S ps as m₁ P
noncomputable abbrev kSeq (mus : List Nat) (r : List Mine.S) (K : KS) : KS := fun fl m₁ σ₁ => match fl with
  | .next => vcSs S W X mus r m₁ σ₁ K
  | .ret v => K (.ret v) m₁ σ₁
noncomputable def kIf (mus : List Nat) (a b : List Mine.S) (m : Vars) (K : KS) : KB := fun t σ₁ => if t then vcSs S W X mus a m σ₁ K else vcSs S W X mus b m σ₁ K
noncomputable abbrev kWh (n : Nat) (I : Nat → Vars → Store → Prop) (K : KS) : KS := fun fl m₂ σ₂ => match fl with
  | .next => ∃ n', n' < n ∧ I n' m₂ σ₂
  | .ret v => K (.ret v) m₂ σ₂
noncomputable abbrev kIt3 (mu : Bool) (i : Nat) (elt : E) (cs : List E) (m : Vars) (Q : KV) : KG := fun items ok σ₁ => items.length ≤ big ∧ compV i (vcE S W noX false elt) (vcTs S W noX cs) ok m (fun ys σ₂ => frs mu σ₂ (.list ys) (.list ys) Q) items [] σ₁
noncomputable abbrev kFor (mus : List Nat) (p : Pat) (body : List Mine.S) (m : Vars) (K : KS) : KG := fun items ok σ₁ => forV S p (vcSs S W noX mus body) ok K items m σ₁
noncomputable abbrev kEn (G : KG) : KV := fun a σ₁ => enumV S a σ₁ (fun items ok => G items ok σ₁)
end
section
variable {mu : Bool} {m : Vars} {σ : Store} {Q : KV} {B : KB} {K : KS} {mus : List Nat} {X : KX}
theorem e_none (h : Q .none σ) : vcE S W X mu .none m σ Q := fun zz zz zz => ET.none h
theorem e_bool {b : Bool} (h : Q (.bool b) σ) : vcE S W X mu (.bool b) m σ Q := fun zz zz zz => ET.bool h
theorem e_int {i : Int} (h : Q (.int i) σ) : vcE S W X mu (.int i) m σ Q := fun zz zz zz => ET.int h
theorem e_str {s : Str} (h : Q (.str s) σ) : vcE S W X mu (.str s) m σ Q := fun zz zz zz => ET.str h
theorem e_v {i : Nat} {a : AV} (hm : m i = some a) (h : Q a σ) : vcE S W X mu (.v i) m σ Q := fun zz zz zz => ET.v hm h
theorem e_six (hu : W.U 28 = true) (h : Q (.int 6) σ) : vcE S W X mu (.g 28) m σ Q := fun G zz zz => by
  obtain ⟨t, e⟩ := G.six
  exact ET.g_int (t := t) (by have := G.glob 28 hu; rw [e] at this; exact this) h
theorem e_cls {i : Nat} (hu : W.U i = true) (_h28 : i ≠ 28) (h : Q (.cls i) σ) : vcE S W X mu (.g i) m σ Q := fun G zz zz => ET.cls (G.glob i hu) h
theorem e_tup {es : List E} (h : vcEs S W X es m σ (kLen .tup Q)) : vcE S W X mu (.tup es) m σ Q := fun G F hk => ET.tup (h G F hk).es
theorem e_list {es : List E} (h : vcEs S W X es m σ (kFrs mu Q)) : vcE S W X mu (.list es) m σ Q := fun G F hk => ET.list ((h G F hk).es.mono fun zz zz q => ⟨q.1, q.2.fresh⟩)
theorem e_dict0 (h : frs mu σ (.dict []) (.dict []) Q) : vcE S W X mu (.dict [] []) m σ Q := fun zz zz zz => ET.dict0 h.fresh
theorem e_dict1 {k v : E} (h : vcE S W noX false k m σ (fun a σ₁ => vcE S W noX false v m σ₁ (fun b σ₂ => ∃ l, mkD [(a, b)] [] = some l ∧ [(a, b)].length ≤ 15 ∧ frs mu σ₂ (.dict l) (.dict l) Q))) : vcE S W X mu (.dict [k] [v]) m σ Q :=
  fun G F hk => (ET.dict (X := NoX) (ks := []) (vs := []) rfl (by decide) fun F' hl => (h G F' (by rw [hl.2.2.2]; exact hk)).no.mono fun zz zz q => (q G F' (by rw [hl.2.2.2]; exact hk)).no.mono fun _ _ ⟨l, h1, h2, h3⟩ => ⟨l, h1, h2, h3.fresh⟩).any
theorem d_one {x y : Int} {b : AV} (h : frs mu σ (.dict [((x, y), b)]) (.dict [((x, y), b)]) Q) : ∃ l, mkD [(.tup [.int x, .int y], b)] [] = some l ∧ [((.tup [.int x, .int y] : AV), b)].length ≤ 15 ∧ frs mu σ (.dict l) (.dict l) Q := ⟨_, rfl, Nat.le_of_ble_eq_true rfl, h⟩
theorem e_or {es : List E} (h : vcOrV S W X es m σ Q) : vcE S W X mu (.or es) m σ Q := fun G F hk => ET.or (h G F hk)
theorem ov_one {e : E} (h : vcE S W X false e m σ Q) : vcOrV S W X [e] m σ Q := fun G F hk => h G F hk
theorem ov_cons {e e2 : E} {r : List E} (h : vcE S W X false e m σ (fun a σ₁ => ∃ b, a = .bool b ∧ if b then Q (.bool true) σ₁ else vcOrV S W X (e2 :: r) m σ₁ Q)) : vcOrV S W X (e :: e2 :: r) m σ Q := fun G F hk => (h G F hk).mono fun a σ₁ ⟨b, h1, h2⟩ => ⟨b, h1, by cases b; exact h2 G F hk; exact h2⟩
theorem e_attr {i n : Nat} {a x : AV} {fs : List (Str × AV)} (hn : n = 11 ∨ n = 12) (hm : m i = some a) (ha : attrsOf σ a = some fs) (hx : fget fs (fld n) = some x) (hc : noCls x = true) (h : Q x σ) : vcE S W X mu (.attr (.v i) n) m σ Q := fun G zz zz => ET.attr G.floor (G.field hn) (fld_ix hn) hm ha hx hc h
theorem comp_of {F : Fx S} {elt : E} {cs : List E} {i : Nat} {ok : Store → Store → Prop} {items ys : List AV} (G : Good S W) (hk : W.k ≤ F.k) (h : compV i (vcE S W noX false elt) (vcTs S W noX cs) ok m (fun ys σ₂ => frs mu σ₂ (.list ys) (.list ys) Q) items ys σ) : CompT F i elt cs ok m (fun ys σ₂ => Fresh σ₂ (.list ys) (.list ys) Q) items ys σ :=
  compT_fresh (compV_sound (fun zz zz zz q => (q G F hk).no) (fun zz zz zz q => q G F hk) (fun k q => TestT.mono k q) h)
theorem e_comp {elt src : E} {i : Nat} {cs : List E} (he : isEnum src = false) (h : vcSrc S W noX src m σ (kIt3 S W mu i elt cs m Q)) : vcE S W X mu (.comp elt i src cs) m σ Q :=
  fun G F hk => (ET.comp (SrcT.mono (h G F hk _ fun e => by rw [he] at e; cases e).no fun zz zz zz q => ⟨q.1, fun F' zz h2 => comp_of G (by rw [h2]; exact hk) q.2⟩)).any
theorem t_v {i : Nat} {b : Bool} (hm : m i = some (.bool b)) (h : B b σ) : vcT S W X (.v i) m σ B := fun zz zz zz => TT.val rfl (ET.v hm ⟨b, rfl, h⟩)
theorem t_not {x : E} (h : vcT S W X x m σ (fun b σ₁ => B (!b) σ₁)) : vcT S W X (.not x) m σ B := fun G F hk => TT.not (h G F hk)
theorem t_and {es : List E} (h : vcAnd S W X es m σ B) : vcT S W X (.and es) m σ B := fun G F hk => TT.and (h G F hk)
theorem t_or {es : List E} (h : vcOr S W X es m σ B) : vcT S W X (.or es) m σ B := fun G F hk => TT.or (h G F hk)
theorem t_cmp {op : CmpOp} {l r : E} (h : vcE S W X false l m σ (kCmp S W X op r m B)) : vcT S W X (.cmp op l r) m σ B := fun G F hk => TT.cmp ((h G F hk).mono fun zz zz q => (q G F hk).mono fun zz zz q => cmpV_sound q)
theorem t_cmp2 {o1 o2 : CmpOp} {a b c : E} (h : vcE S W X false a m σ (fun x σ₁ => vcE S W X false b m σ₁ (fun y σ₂ => cmpV o1 x y σ₂ (fun t σ₃ => if t then vcE S W X false c m σ₃ (kCmp2 o2 y B) else B false σ₃)))) : vcT S W X (.cmp2 o1 o2 a b c) m σ B :=
  fun G F hk => TT.cmp2 ((h G F hk).mono fun x σ₁ q => (q G F hk).mono fun y σ₂ q => (cmpV_sound q).mono fun t σ₃ q => by
    cases t
    · exact q
    · exact ET.mono (q G F hk) fun zz zz q => cmpV_sound q)
theorem call_e {F : Fx S} {i : Nat} {args : List E} {mu : Bool} (G : Good S W) (hk : W.k ≤ F.k) (hu : W.U i = true) (ha : args ≠ [] ∧ i ≠ 28) (h : vcEs S W X args m σ (kCall S W X mu i Q)) : ET F m σ (.call (.g i) args) Q (XF F m X) := callg_sound G hk hu ha (h G F hk).es
theorem meth_e {F : Fx S} {o : E} {n : Nat} {args : List E} (G : Good S W) (hk : W.k ≤ F.k) (h : vcE S W X false o m σ (kMeth S W X n args m Q)) : ET F m σ (.meth o n args) Q (XF F m X) := methV_sound G hk ((h G F hk).mono fun zz zz q => ⟨q.1, q.2 G F hk⟩) args_mono
theorem t_call {i : Nat} {args : List E} (hu : W.U i = true) (ha : args ≠ [] ∧ i ≠ 28) (h : vcEs S W X args m σ (kCall S W X false i (kB B))) : vcT S W X (.call (.g i) args) m σ B := fun G zz hk => TT.val rfl (call_e G hk hu ha h)
theorem ta_nil (h : B true σ) : vcAnd S W X [] m σ B := fun zz zz zz => h
theorem ta_cons {e : E} {r : List E} (h : vcT S W X e m σ (fun b σ₁ => if b then vcAnd S W X r m σ₁ B else B false σ₁)) : vcAnd S W X (e :: r) m σ B := fun G F hk => (h G F hk).mono fun b zz q => by cases b; exact q; exact q G F hk
theorem to_nil (h : B false σ) : vcOr S W X [] m σ B := fun zz zz zz => h
theorem to_cons {e : E} {r : List E} (h : vcT S W X e m σ (fun b σ₁ => if b then B true σ₁ else vcOr S W X r m σ₁ B)) : vcOr S W X (e :: r) m σ B := fun G F hk => (h G F hk).mono fun b zz q => by cases b; exact q G F hk; exact q
theorem ts_nil (h : B true σ) : vcTs S W X [] m σ B := fun zz zz zz => h
theorem ts_one {e : E} (h : vcT S W noX e m σ B) : vcTs S W X [e] m σ B := fun G F hk => (h G F hk).no
theorem r_val {e : E} {G : KG} (h : vcE S W X false e m σ (kIt S G)) : vcSrc S W X e m σ G := fun Gd F hk zz zz => SrcT.val ((h Gd F hk).mono fun zz zz q => iterV_sound q)
theorem r_v {i : Nat} {a : AV} {G : KG} (hm : m i = some a) (h : kIt S G a σ) : vcSrc S W X (.v i) m σ G := r_val (e_v hm h)
theorem r_list {es : List E} {G : KG} (h : vcEs S W X es m σ (fun l σ₁ => S.hx = Option.none ∧ l.length ≤ big ∧ G l (fun zz zz => True) σ₁)) : vcSrc S W X (.list es) m σ G := fun Gd F hk zz zz => SrcT.val (ET.list ((h Gd F hk).es.mono fun l zz q => ⟨q.2.1, .inl ⟨l, okL (.list l), IterT.list q.1 (dl_list _ _), q.2.2⟩⟩))
theorem e_sub {o i : E} (h : vcE S W X false o m σ (kSub S W X i m Q)) : vcE S W X mu (.sub o i) m σ Q := fun G F hk => ET.sub ((h G F hk).mono fun zz zz q => (q G F hk).mono fun zz zz q => subV_sound q)
theorem r_call {i : Nat} {args : List E} {G : KG} (hu : W.U i = true) (ha : args ≠ [] ∧ i ≠ 28) (h : vcEs S W X args m σ (kCall S W X false i (kIt S G))) : vcSrc S W X (.call (.g i) args) m σ G := r_val fun Gd zz hk => call_e Gd hk hu ha h
theorem r_en {e : E} {G : KG} (Gd : Good S W) (h : vcE S W X false e m σ (kEn S G)) : vcSrc S W X (.call (.g 9) [e]) m σ G := fun Gd' F hk p hp => by
  obtain ⟨ps, rfl⟩ := hp rfl
  refine SrcT.enum1 (by have := Gd.glob 9 (Gd.bu 9 (by decide)); rw [Gd.base 9 (by decide)] at this; exact this) (EsT.cons ((h Gd' F hk).mono fun a σ₁ q => EsT.nil ⟨a, rfl, ?_⟩))
  unfold kEn enumV at q
  split at q
  · exact ⟨q.1, .inr ⟨_, rfl, q.2.1, q.2.2⟩⟩
  · exact ⟨q.1, .inl q.2⟩
theorem s_ite {c : E} {a b : List Mine.S} (h : vcT S W X c m σ (kIf S W X mus a b m K)) : vcS S W X mus (.ite c a b) m σ K := fun G F hk => ST.ite ((h G F hk).up.mono fun t zz q => by cases t; exact q G F hk; exact q G F hk)
theorem ki {t : Bool} {a b : List Mine.S} (h : if t then vcSs S W X mus a m σ K else vcSs S W X mus b m σ K) : kIf S W X mus a b m K t σ := h
theorem s_expr {e : E} (hn : notComp e = true) (h : vcE S W X false e m σ (kNext K m)) : vcS S W X mus (.expr e) m σ K := fun G F hk => ST.expr hn (h G F hk).up
theorem s_two {i j : Nat} {e1 e2 : E} (hq : S.hx = Option.none) (hij : i ≠ j) (hn : (named 8 e1 || named 8 e2) = true) (h : vcE S W X false e1 m σ (kTwo S W X e2 K m i j)) : vcS S W X mus (.assign (.tup [.v i, .v j]) (.tup [e1, e2])) m σ K := fun G F hk => ST.assign2 hq hij hn ((h G F hk).up.mono fun zz zz q => (q G F hk).up)
theorem s_for {p : Pat} {e : E} {body : List Mine.S} (hp : isEnum e = true → ∃ ps, p = .tup ps) (h : vcSrc S W noX e m σ (kFor S W mus p body m K)) : vcS S W X mus (.for_ p e body) m σ K :=
  fun G F hk => ST.monoX (X := NoX) (ST.for_ PassesOwn.never (SrcT.mono (h G F hk p hp).no fun zz zz zz q => forV_sound (fun zz zz zz q => (q G F hk).monoX fun zz zz x => x.no) q)) fun zz zz x => x.elim
set_option tactic.hygienic true in
theorem s_while {c : E} {body : List Mine.S} (I : Nat → Vars → Store → Prop) (n : Nat) (h0 : I n m σ) (h : ∀ n m σ, I n m σ → vcT S W noX c m σ (fun t σ₁ => if t then vcSs S W noX mus body m σ₁ (kWh n I K) else K .next m σ₁)) : vcS S W X mus (.while_ c body) m σ K :=
  fun G F hk => ST.monoX (X := NoX) (ST.while_ PassesOwn.never I (fun n m σ hI => (h n m σ hI G F hk).no.mono fun t σ₁ q => by
    cases t
    · exact q
    · exact (q G F hk).monoX fun zz zz x => x.no) n h0) fun zz zz x => x.elim
set_option tactic.hygienic true in
theorem s_setitem {o i e : E} (hn : notComp e = true) (h : vcE S W X false e m σ (fun x σ₁ => vcE S W X false o m σ₁ (fun a σ₂ => vcE S W X false i m σ₂ (fun k σ₃ => ∃ ad l kk, a = .loc ad ∧ k = sp kk ∧ σ₃ ad = some (.dict l) ∧ l.length ≤ big ∧ K .next m (σ₃.set ad (.dict (dset l kk x))))))) : vcS S W X mus (.setitem o i e) m σ K :=
  fun G F hk => ST.setitem hn ((h G F hk).up.mono fun zz zz q => (q G F hk).up.mono fun zz zz q => (q G F hk).up)
set_option tactic.hygienic true in
theorem s_setattr {o e : E} {n : Nat} (hn : n = 11 ∨ n = 12) (hc : notComp e = true) (h : vcE S W X true e m σ (fun x σ₁ => vcE S W X false o m σ₁ (fun a σ₂ => ∃ ad dx fs, a = .loc ad ∧ σ₂ ad = some (.inst dx) ∧ σ₂ dx = some (.attrs fs) ∧ fs.length ≤ 100 ∧ K .next m (σ₂.set dx (.attrs (fset fs (fld n) x)))))) : vcS S W X mus (.setattr o n e) m σ K :=
  fun G F hk => ST.setattr G.floor (G.field hn) (fld_ix hn) hc ((h G F hk).up.mono fun zz zz q => (q G F hk).up)
theorem e_bin {op : Operator} {l r : E} (h : vcE S W X false l m σ (kBin S W X mu op r m Q)) : vcE S W X mu (.bin op l r) m σ Q := fun G F hk => ET.bin ((h G F hk).mono fun zz zz q => (q G F hk).mono fun zz zz q => binV_sound q)
theorem e_neg {x : E} (h : vcE S W X false x m σ (kNeg Q)) : vcE S W X mu (.neg x) m σ Q := fun G F hk => ET.neg (h G F hk)
theorem e_cmp {op : CmpOp} {l r : E} (h : vcE S W X false l m σ (kCmp S W X op r m (kTb Q))) : vcE S W X mu (.cmp op l r) m σ Q := fun G F hk => ET.cmp ((h G F hk).mono fun zz zz q => (q G F hk).mono fun zz zz q => cmpV_sound q)
theorem e_ite {c a b : E} (h : vcT S W X c m σ (fun t σ₁ => if t then vcE S W X mu a m σ₁ Q else vcE S W X mu b m σ₁ Q)) : vcE S W X mu (.ite c a b) m σ Q := fun G F hk => ET.ite ((h G F hk).mono fun t zz q => by cases t; exact q G F hk; exact q G F hk)
theorem e_slice {o lo hi : E} (h : vcE S W X false o m σ (kSl S W X mu lo hi m Q)) : vcE S W X mu (.slice o lo hi .none) m σ Q := fun G F hk => ET.sliceAny ((h G F hk).mono fun zz zz q => (q G F hk).mono fun zz zz q => q G F hk)
theorem e_call {i : Nat} {args : List E} (hu : W.U i = true) (ha : args ≠ [] ∧ i ≠ 28) (h : vcEs S W X args m σ (kCall S W X mu i Q)) : vcE S W X mu (.call (.g i) args) m σ Q := fun G zz hk => call_e G hk hu ha h
theorem e_meth {o : E} {n : Nat} {args : List E} (h : vcE S W X false o m σ (kMeth S W X n args m Q)) : vcE S W X mu (.meth o n args) m σ Q := fun G zz hk => meth_e G hk h
theorem es_nil {P : List AV → Store → Prop} (h : P [] σ) : vcEs S W X [] m σ P := fun zz zz zz => h
theorem es_cons {e : E} {r : List E} {P : List AV → Store → Prop} (h : vcE S W X false e m σ (kEs S W X r m P)) : vcEs S W X (e :: r) m σ P := fun G F hk => EsT.cons ((h G F hk).mono fun zz zz q => (q G F hk).es)
theorem s_ret {e : E} (h : vcE S W X false e m σ (kRet K m)) : vcS S W X mus (.ret e) m σ K := fun G F hk => ST.ret (h G F hk).up
theorem s_assign {i : Nat} {e : E} (hn : notComp e = true) (h : vcE S W X (mus.contains i) e m σ (kAss K m i)) : vcS S W X mus (.assign (.v i) e) m σ K := fun G F hk => ST.assign hn (h G F hk).up
theorem s_unpack {ps : List Pat} {e : E} (h1 : notTup e = true) (h2 : notComp e = true) (h : vcE S W X false e m σ (kUnp S ps K m)) : vcS S W X mus (.assign (.tup ps) e) m σ K := fun G F hk => ST.unpack h1 h2 ((h G F hk).up.mono fun zz zz q => PT.to (patV_sound _ q))
set_option tactic.hygienic true in
theorem ss_nil (h : K .next m σ) : vcSs S W X mus [] m σ K := fun zz zz zz => SsT.nil h
theorem ss_cons {s : Mine.S} {r : List Mine.S} (h : vcS S W X mus s m σ (kSeq S W X mus r K)) : vcSs S W X mus (s :: r) m σ K := fun G F hk => SsT.cons ((h G F hk).mono fun fl zz zz q => by
  cases fl with
  | next => exact q G F hk
  | ret v => exact q)
theorem p_v {i : Nat} {a : AV} {P : Vars → Prop} (h : P (m.set i a)) : patV S (.v i) a m P := h
theorem p_tup {ps : List Pat} {l : List AV} {P : Vars → Prop} (hq : S.hx = Option.none) (hl : ps.length = l.length) (h : patVs S ps l m P) : patV S (.tup ps) (.tup l) m P := ⟨hq, l, rfl, hl, h⟩
theorem ps_nil {P : Vars → Prop} (h : P m) : patVs S [] [] m P := h
theorem ps_cons {p : Pat} {ps : List Pat} {a : AV} {as : List AV} {P : Vars → Prop} (h : patV S p a m (kPat S ps as P)) : patVs S (p :: ps) (a :: as) m P := h
theorem e_callb {i : Nat} {e : E} {es : List E} (G : Good S W) (hi : i < 17) (h : vcEs S W X (e :: es) m σ (kCall S W X mu i Q)) : vcE S W X mu (.call (.g i) (e :: es)) m σ Q := e_call (G.bu i hi) ⟨List.cons_ne_nil _ _, Nat.ne_of_lt (Nat.lt_trans hi (by decide))⟩ h
theorem t_callb {i : Nat} {e : E} {es : List E} (G : Good S W) (hi : i < 17) (h : vcEs S W X (e :: es) m σ (kCall S W X false i (kB B))) : vcT S W X (.call (.g i) (e :: es)) m σ B := t_call (G.bu i hi) ⟨List.cons_ne_nil _ _, Nat.ne_of_lt (Nat.lt_trans hi (by decide))⟩ h
theorem e_clsb {i : Nat} (G : Good S W) (hi : i < 17) (h : Q (.cls i) σ) : vcE S W X mu (.g i) m σ Q := e_cls (G.bu i hi) (Nat.ne_of_lt (Nat.lt_trans hi (by decide))) h
theorem c_isx {c j : Nat} (h1 : 18 ≤ c ∧ c ≤ 27) (h2 : W.U c = true) (h3 : 17 ≤ j ∧ j ≤ 27) (h4 : W.U j = true) (h : Q (.bool (xsub c j)) σ) : callV S W X mu 1 [.exc c, .cls j] σ Q := .isx h1 h2 h3 h4 h
theorem c_isi {a : AV} {j : Nat} {t u : Ty} (h1 : tyA σ a = some t) (h2 : tyCls j = some u) (h : Q (.bool (isT t u)) σ) : callV S W X mu 1 [a, .cls j] σ Q := .isi h1 h2 h
theorem c_lenL {l : List AV} (hz : l.length ≤ big) (h : Q (.int l.length) σ) : callV S W X mu 0 [.list l] σ Q := .lenL (dl_list _ _) hz h
theorem c_lenD {l : List (Spot × AV)} (hz : l.length ≤ big) (h : Q (.int l.length) σ) : callV S W X mu 0 [.dict l] σ Q := .lenD (dd_dict _ _) hz h
theorem c_lenS {x : Str} (hz : x.length ≤ big) (h : Q (.int x.length) σ) : callV S W X mu 0 [.str x] σ Q := .lenS hz h
theorem c_lenLl {ad : Addr} {l : List AV} (e : σ ad = some (.list l)) (hz : l.length ≤ big) (h : Q (.int l.length) σ) : callV S W X mu 0 [.loc ad] σ Q := .lenL (dl_loc e) hz h
theorem k_lt {x y : Int} (h : B (decide (x < y)) σ) : cmpV .Lt (.int x) (.int y) σ B := .lt h
theorem k_le {x y : Int} (h : B (decide (x ≤ y)) σ) : cmpV .LtE (.int x) (.int y) σ B := .le h
theorem k_gt {x y : Int} (h : B (decide (y < x)) σ) : cmpV .Gt (.int x) (.int y) σ B := .gt h
theorem k_eqI {x y : Int} (h : B (x == y) σ) : cmpV .Eq (.int x) (.int y) σ B := .eqI h
theorem k_neI {x y : Int} (h : B (!(x == y)) σ) : cmpV .NotEq (.int x) (.int y) σ B := .neI h
theorem k_inG {k : Spot} {a : AV} {l : List (Spot × AV)} (e : dd σ a = some l) (h : B (dget l k).isSome σ) : cmpV .In (.tup [.int k.1, .int k.2]) a σ B := .inD e h
theorem k_ninG {k : Spot} {a : AV} {l : List (Spot × AV)} (e : dd σ a = some l) (h : B (!(dget l k).isSome) σ) : cmpV .NotIn (.tup [.int k.1, .int k.2]) a σ B := .ninD e h
theorem b_mod {x y : Int} (hy : y ≠ 0) (h : Q (.int (x.fmod y)) σ) : binV mu .Mod (.int x) (.int y) σ Q := .mod hy h
theorem b_div {x y : Int} (hy : y ≠ 0) (hy' : y.natAbs < 1073741824) (h : Q (.int (x.fdiv y)) σ) : binV mu .FloorDiv (.int x) (.int y) σ Q := .div hy hy' h
theorem b_mul {x y : Int} (ho : IntMulOk x y) (h : Q (.int (x * y)) σ) : binV mu .Mult (.int x) (.int y) σ Q := .mul ho h
theorem b_adds {x y : Str} (ho : x.length + y.length ≤ big) (h : Q (.str (x ++ y)) σ) : binV mu .Add (.str x) (.str y) σ Q := .adds ho h
theorem b_muls {x : Str} {n : Int} (ho : MulOk x n) (h : Q (.str (Txt.mul x n)) σ) : binV mu .Mult (.str x) (.int n) σ Q := .muls ho h
theorem b_addl {a b : AV} {l k : List AV} (ha : dl σ a = some l) (hb : dl σ b = some k) (hz : l.length + k.length ≤ big) (h : frs mu σ (.list (l ++ k)) (.list (l ++ k)) Q) : binV mu .Add a b σ Q := .addl ha hb hz h
theorem b_add {x y : Int} (h : Q (.int (x + y)) σ) : binV mu .Add (.int x) (.int y) σ Q := .add h
theorem b_sub {x y : Int} (h : Q (.int (x - y)) σ) : binV mu .Sub (.int x) (.int y) σ Q := .sub h
end
theorem fr_f {σ : Store} {o : AObj} {fz : AV} {Q : KV} (h : Q fz σ) : frs false σ o fz Q := h
theorem fr_t {σ : Store} {o : AObj} {fz : AV} {Q : KV} (h : ∀ a, ¬ Dom σ a → Q (.loc a) (σ.set a o)) : frs true σ o fz Q := h
theorem RetK.val {Q : KV} {v : AV} {m : Vars} {σ : Store} (h : Q v σ) : RetK S Q (.ret v) m σ := fun zz => ⟨v, σ, View.same, h⟩
set_option tactic.hygienic true in
theorem forV_ind {p : Pat} {body : Vars → Store → KS → Prop} {ok : Store → Store → Prop} {K : KS} (J : List AV → Vars → Store → Prop) (he : ∀ m σ, J [] m σ → K .next m σ)
    (hs : ∀ x r m σ, J (x :: r) m σ → ∀ C : Vars → Store → Prop, (∀ m₂ σ₂, J r m₂ σ₂ → C m₂ σ₂) → patV S p x m (fun m₁ => body m₁ σ (kLoop ok σ C K))) :
    ∀ {items : List AV} {m : Vars} {σ : Store}, J items m σ → forV S p body ok K items m σ := by
  intro items
  induction items with
  | nil => intro m σ h; exact he m σ h
  | cons x r ih => intro m σ h; unfold forV; exact hs x r m σ h (fun m₂ σ₂ => forV S p body ok K r m₂ σ₂) fun m₂ σ₂ q => ih q
theorem compV_ind {i : Nat} {elt : Vars → Store → KV → Prop} {tst : Vars → Store → KB → Prop} {ok : Store → Store → Prop} {m : Vars} {K : List AV → Store → Prop} (J : List AV → List AV → Store → Prop) (he : ∀ ys σ, J [] ys σ → K ys σ)
    (hs : ∀ x r ys σ, J (x :: r) ys σ → ∀ C : List AV → Store → Prop, (∀ ys σ, J r ys σ → C ys σ) → tst (m.set i x) σ (fun b σ₁ => if b = true then elt (m.set i x) σ₁ (fun y σ₂ => ok σ σ₂ ∧ C (ys ++ [y]) σ₂) else ok σ σ₁ ∧ C ys σ₁)) :
    ∀ {items ys : List AV} {σ : Store}, J items ys σ → compV i elt tst ok m K items ys σ := by
  intro items
  induction items with
  | nil => intro ys σ h; exact he ys σ h
  | cons x r ih => intro ys σ h; unfold compV; exact hs x r ys σ h (fun ys σ => compV i elt tst ok m K r ys σ) fun ys σ q => ih q
end Mine
end
section
namespace Mine
open PySem PyProof.Rows PySem.W
variable {prog : Program} {w : World} {S : Sta prog w} {W : Wd} {X : KX}
section
variable {mu : Bool} {m : Vars} {σ : Store} {Q : KV} {B : KB} {K : KS} {mus : List Nat}
theorem own_e {F : Fx S} {i : Nat} {e : E} {es : List E} {Q : KV} (G : Good S W) (hk : W.k ≤ F.k) (hu : W.U i = true) (hi : 17 ≤ i ∧ i ≠ 28) (h : vcEs S W X (e :: es) m σ (kOwn S W X i Q)) : ET F m σ (.call (.g i) (e :: es)) Q (XF F m X) :=
  ET.callg (G.glob i hu) (call_able G hu hi.2) ((h G F hk).es.mono fun zz zz q => q F hk m)
theorem e_fn {i : Nat} {e : E} {es : List E} (hu : W.U i = true) (hi : 17 ≤ i ∧ i ≠ 28) (h : vcEs S W X (e :: es) m σ (kOwn S W X i Q)) : vcE S W X mu (.call (.g i) (e :: es)) m σ Q := fun G zz hk => own_e G hk hu hi h
theorem t_fn {i : Nat} {e : E} {es : List E} (hu : W.U i = true) (hi : 17 ≤ i ∧ i ≠ 28) (h : vcEs S W X (e :: es) m σ (kOwn S W X i (kB B))) : vcT S W X (.call (.g i) (e :: es)) m σ B := fun G zz hk => TT.val rfl (own_e G hk hu hi h)
theorem r_fn {i : Nat} {e : E} {es : List E} {G : KG} (hu : W.U i = true) (hi : 17 ≤ i ∧ i ≠ 28) (h : vcEs S W X (e :: es) m σ (kOwn S W X i (kIt S G))) : vcSrc S W X (.call (.g i) (e :: es)) m σ G := r_val fun Gd zz hk => own_e Gd hk hu hi h
theorem r_callb {i : Nat} {e : E} {es : List E} {G : KG} (Gd : Good S W) (hi : i < 17) (_h9 : i ≠ 9) (h : vcEs S W X (e :: es) m σ (kCall S W X false i (kIt S G))) : vcSrc S W X (.call (.g i) (e :: es)) m σ G := r_call (Gd.bu i hi) ⟨List.cons_ne_nil _ _, Nat.ne_of_lt (Nat.lt_trans hi (by decide))⟩ h
theorem o_list {ad : Addr} {l : List AV} {P : Prop} (e : σ ad = some (.list l)) (h : P) (n : Nat) (hn : n = 0 ∨ n = 1) : objV W n (.loc ad) σ ∧ P := by
  rcases hn with rfl | rfl <;> exact ⟨by show tyA σ (.loc ad) = _; simp only [tyA, e], h⟩
theorem m_append {ad : Addr} {l : List AV} {x : AV} (e : σ ad = some (.list l)) (hz : l.length ≤ big) (h : Q .none (σ.set ad (.list (l ++ [x])))) : methV S W X 0 (.loc ad) [x] σ Q := ⟨ad, l, rfl, e, hz, h⟩
theorem m_pop {ad : Addr} {l : List AV} {x : AV} (e : σ ad = some (.list (l ++ [x]))) (hz : l.length + 1 ≤ big) (h : Q x (σ.set ad (.list l))) : methV S W X 1 (.loc ad) [] σ Q := ⟨ad, l ++ [x], x, rfl, e, by simp, by simpa using hz, by simpa using h⟩
theorem i_list {l : List AV} {G : List AV → (Store → Store → Prop) → Prop} (hq : S.hx = Option.none) (h : G l (fun zz zz => True)) : iterV S (.list l) σ G := ⟨hq, h⟩
theorem i_range {a b c : Int} {G : List AV → (Store → Store → Prop) → Prop} (hs : Builtin.Range.small a b c = true) (h : G (rangeAV a c (rangeN a b c)) (fun zz zz => True)) : iterV S (.range a b c) σ G := ⟨hs, h⟩
theorem i_str {x : Str} {G : List AV → (Store → Store → Prop) → Prop} (hq : S.hx = Option.none) (ha : x.cps.all (· < 128) = true) (h : G (signs x) (fun zz zz => True)) : iterV S (.str x) σ G := ⟨hq, ha, h⟩
theorem c_range1 {n : Int} (h : Q (.range 0 n 1) σ) : callV S W X mu 8 [.int n] σ Q := .range1 h
theorem c_range2 {a b : Int} (h : Q (.range a b 1) σ) : callV S W X mu 8 [.int a, .int b] σ Q := .range2 h
theorem x_neg {i : Int} {P : Int → Prop} (h : P i) : ∃ j, (.int i : AV) = .int j ∧ P j := ⟨i, rfl, h⟩
theorem s_raise {i : Nat} {t : Str} (hu : W.U i = true) (h1 : 18 ≤ i ∧ i ≤ 27) (hq : S.hx = Option.none) (h : X i σ) : vcS S W X mus (.raise (.call (.g i) [.str t])) m σ K := fun G zz zz => ST.raise G hu h1.1 h1.2 hq h
end
theorem c_listG {mu : Bool} {σ : Store} {Q : KV} {a : AV} {l : List AV} (hl : dl σ a = some l) (hz : l.length ≤ big) (h : frs mu σ (.list l) (.list l) Q) : callV S W X mu 5 [a] σ Q := .listL hl hz h
theorem c_listDG {mu : Bool} {σ : Store} {Q : KV} {a : AV} {l : List (Spot × AV)} (hl : dd σ a = some l) (hq : S.hx = Option.none) (hz : l.length ≤ big) (h : frs mu σ (.list (l.map fun p => sp p.1)) (.list (l.map fun p => sp p.1)) Q) : callV S W X mu 5 [a] σ Q := .listD hl hq hz h
theorem c_lenG {mu : Bool} {σ : Store} {Q : KV} {a : AV} {l : List AV} (hl : dl σ a = some l) (hz : l.length ≤ big) (h : Q (.int l.length) σ) : callV S W X mu 0 [a] σ Q := .lenL hl hz h
theorem c_lenDG {mu : Bool} {σ : Store} {Q : KV} {a : AV} {l : List (Spot × AV)} (hl : dd σ a = some l) (hz : l.length ≤ big) (h : Q (.int l.length) σ) : callV S W X mu 0 [a] σ Q := .lenD hl hz h
theorem u_list {σ : Store} {Q : KV} {a x : AV} {l : List AV} {i : Int} (hl : dl σ a = some l) (h0 : 0 ≤ i) (hx : l[i.toNat]? = some x) (hi : i < 1000000) (h : Q x σ) : subV a (.int i) σ Q := .list h0 hi hl hx h
theorem Keep.dl {σ σ' : Store} {v : AV} {l : List AV} (k : ∀ a, Dom σ a → σ' a = σ a) (h : Mine.dl σ v = some l) : Mine.dl σ' v = some l := by
  cases v with
  | loc a =>
    simp only [Mine.dl] at h ⊢
    cases e : σ a with
    | none => rw [e] at h; cases h
    | some o => rw [k a (by unfold Dom; rw [e]; simp), e]; rw [e] at h; exact h
  | list l' => exact h
  | _ => cases h
theorem o_own {n : Nat} {σ : Store} {a : AV} {fs : List (Str × AV)} {P : Prop} (hn : 13 ≤ n) (hM : (W.M n).isSome = true) (ha : attrsOf σ a = some fs) (hf : fs.all (fun p => p.1 == "texts" || p.1 == "own") = true) (h : P) : objV W n a σ ∧ P := by
  have h0 : n ≠ 0 := fun e => absurd hn (by rw [e]; decide)
  have h1 : n ≠ 1 := fun e => absurd hn (by rw [e]; decide)
  refine ⟨?_, h⟩
  unfold objV
  rw [if_neg h0, if_neg h1, if_neg (Nat.ne_of_gt (Nat.lt_of_lt_of_le (by decide) hn))]
  exact ⟨hM, fs, ha, hf⟩
theorem m_own {n : Nat} {σ : Store} {Q : KV} {a : AV} {avs : List AV} (hn : 13 ≤ n) (h : ∃ f, W.M n = some f ∧ MethT S W.k f (a :: avs) σ Q X) : methV S W X n a avs σ Q := by
  have h0 : n ≠ 0 := fun e => absurd hn (by rw [e]; decide)
  have h1 : n ≠ 1 := fun e => absurd hn (by rw [e]; decide)
  unfold methV
  rw [if_neg h0, if_neg h1, if_neg (Nat.ne_of_gt (Nat.lt_of_lt_of_le (by decide) hn))]
  exact h
theorem c_min {mu : Bool} {σ : Store} {Q : KV} {a b : Int} (hq : S.hx = Option.none) (h : Q (.int (min a b)) σ) : callV S W X mu 13 [.int a, .int b] σ Q := .min hq (by
  have : (if b < a then b else a) = min a b := by omega
  rw [this]; exact h)
theorem c_max {mu : Bool} {σ : Store} {Q : KV} {a b : Int} (hq : S.hx = Option.none) (h : Q (.int (max a b)) σ) : callV S W X mu 14 [.int a, .int b] σ Q := .max hq (by
  have : (if b > a then b else a) = max a b := by omega
  rw [this]; exact h)
theorem o_str {σ : Store} {x : Str} {P : Prop} (h : P) : objV W 8 (.str x) σ ∧ P := ⟨rfl, h⟩
theorem m_join {σ : Store} {Q : KV} {x : Str} {ys : List Str} {b : AV} (hb : dl σ b = some (ys.map .str)) (hz : (ys.map (·.length)).sum + ys.length * x.length ≤ 1000000) (h : Q (.str (Txt.join x ys)) σ) : methV S W X 8 (.str x) [b] σ Q := ⟨x, ys, rfl, hb, hz, h⟩
theorem fr_ct {c : Bool} {σ : Store} {o : AObj} {fz : AV} {Q : KV} (hc : c = true) (h : ∀ a, ¬ Dom σ a → Q (.loc a) (σ.set a o)) : frs c σ o fz Q := by subst hc; exact h
theorem fr_cf {c : Bool} {σ : Store} {o : AObj} {fz : AV} {Q : KV} (hc : c = false) (h : Q fz σ) : frs c σ o fz Q := by subst hc; exact h
theorem if_t {A B : Prop} (h : A) : if true = true then A else B := h
theorem if_f {A B : Prop} (h : B) : if false = true then A else B := h
theorem ex_b {b : Bool} {P : Bool → Prop} (h : P b) : ∃ c, (.bool b : AV) = .bool c ∧ P c := ⟨b, rfl, h⟩
theorem if_nt {A B : Prop} (h : B) : if (!true) = true then A else B := h
theorem if_nf {A B : Prop} (h : A) : if (!false) = true then A else B := h
theorem noEnum {e : E} {p : Pat} (h : isEnum e = false) : isEnum e = true → ∃ ps, p = .tup ps := fun q => by rw [h] at q; cases q
noncomputable def Uses (W : Wd) (l : List Nat) : Prop := ∀ i ∈ l, W.U i = true
theorem Uses.get {l : List Nat} {i : Nat} (h : Uses W l) (hi : i ∈ l) : W.U i = true := h i hi
theorem Uses.sub {l l' : List Nat} (h : Uses W l') (hs : (l.all fun i => l'.contains i) = true) : Uses W l := fun i hi => h i (by
  have := List.all_eq_true.1 hs i hi
  exact List.contains_iff_mem.1 this)
theorem vcE.run {mu : Bool} {e : E} {m : Vars} {σ : Store} {Q : KV} {F : Fx S} (G : Good S W) (hk : W.k ≤ F.k) (h : vcE S W X mu e m σ Q) : ET F m σ e Q (XF F m X) := h G F hk
theorem vcSs.run {mus : List Nat} {ss : List Mine.S} {m : Vars} {σ : Store} {K : KS} {F : Fx S} (G : Good S W) (hk : W.k ≤ F.k) (h : vcSs S W X mus ss m σ K) : SsT F m σ ss K (XR F X) := h G F hk
theorem hx_of (h : S.hx = Option.none) : S.hx = Option.none := h
noncomputable def Wd.at (W : Wd) (k : Nat) : Wd := { W with k := k }
theorem Good.at {W : Wd} (G : Good S W) (k : Nat) : Good S (W.at k) := ⟨G.glob, G.bu, G.own, G.base, G.six, G.floor, G.texts, G.cells, G.exc, G.exk, G.sub, G.meth⟩
noncomputable def Fn (S : Sta prog w) (i : Nat) (c : FnCore) : Prop := ∃ a, S.cv i = .ref a ∧ IsFn S a c
theorem Fn.own {i k : Nat} {c : FnCore} {avs : List AV} {σ : Store} {Q : KV} {mus : List Nat} (f : Fn S i c) (G : Good S W) (hn : avs.length = c.n) (h : vcSs S (W.at k) X mus c.body (argsM avs) σ (RetK S Q)) : OwnT S (k + 1) i avs σ Q X := by
  obtain ⟨a, e, f⟩ := f
  refine OwnT.fn ?_
  rw [e]; exact CallT.vc (G.at k) f hn (Nat.le_refl _) h
noncomputable def Keep (σ σ' : Store) : Prop := ∀ a, Dom σ a → σ' a = σ a
theorem Keep.refl (σ : Store) : Keep σ σ := fun zz zz => rfl
theorem Keep.set {σ σ' : Store} {a : Addr} {o : AObj} (k : Keep σ σ') (n : ¬ Dom σ a) : Keep σ (σ'.set a o) := fun b d => by
  rw [Store.set_ne (a := a) (b := b) _ _ (fun e => n (by rw [← e]; exact d))]; exact k b d
theorem Keep.dd {σ σ' : Store} {v : AV} {l : List (Spot × AV)} (k : Keep σ σ') (h : Mine.dd σ v = some l) : Mine.dd σ' v = some l := by
  cases v with
  | loc a =>
    simp only [Mine.dd] at h ⊢
    cases e : σ a with
    | none => rw [e] at h; cases h
    | some o => rw [k a (by unfold Dom; rw [e]; simp)]; exact h
  | dict l' => exact h
  | _ => cases h
theorem View.backD {N : Addr → Prop} {σ σ₁ : Store} {f : Addr} {l : List (Spot × AV)} (hf : σ₁ f = some (.dict l)) (kp : Keep σ σ₁) (nf : ¬ Dom σ f) : View S N (.loc f) σ₁ (.dict l) σ := fun s u hi r => by
  obtain ⟨i1, st1, r1⟩ := View.dict (S := S) (N := N) hf s u hi r
  have sub : ∀ a o, σ a = some o → (σ₁.del f) a = some o := fun a o e => by
    have d : Dom σ a := by unfold Dom; rw [e]; simp
    have ne : a ≠ f := fun z => nf (by rw [← z]; exact d)
    unfold Store.del; rw [if_neg ne, kp a d]; exact e
  obtain ⟨i2, st2⟩ := i1.drop sub
  exact ⟨i2, st1.trans st2, r1.step st2 (fun zz h => h.elim) (fun zz h => h.elim)⟩
theorem View.backL {N : Addr → Prop} {σ σ₁ : Store} {f : Addr} {l : List AV} (hf : σ₁ f = some (.list l)) (kp : Keep σ σ₁) (nf : ¬ Dom σ f) : View S N (.loc f) σ₁ (.list l) σ := fun s u hi r => by
  obtain ⟨i1, st1, r1⟩ := View.list (S := S) (N := N) hf s u hi r
  have sub : ∀ a o, σ a = some o → (σ₁.del f) a = some o := fun a o e => by
    have d : Dom σ a := by unfold Dom; rw [e]; simp
    have ne : a ≠ f := fun z => nf (by rw [← z]; exact d)
    unfold Store.del; rw [if_neg ne, kp a d]; exact e
  obtain ⟨i2, st2⟩ := i1.drop sub
  exact ⟨i2, st1.trans st2, r1.step st2 (fun zz h => h.elim) (fun zz h => h.elim)⟩
theorem View.back {N : Addr → Prop} {σ σ₁ : Store} {v : AV} (kp : Keep σ σ₁) : View S N v σ₁ v σ := fun s u hi r => by
  have sub : ∀ a o, σ a = some o → σ₁ a = some o := fun a o e => by
    have d : Dom σ a := by unfold Dom; rw [e]; simp
    rw [kp a d]; exact e
  obtain ⟨i2, st2⟩ := hi.drop sub
  exact ⟨i2, st2, r.step st2 (fun zz h => h.elim) (fun zz h => h.elim)⟩
theorem RetK.back {Q : KV} {v : AV} {m : Vars} {σ σ₁ : Store} (kp : Keep σ σ₁) (h : Q v σ) : RetK S Q (.ret v) m σ₁ := fun zz => ⟨v, σ, View.back kp, h⟩
end Mine
end
namespace Mine
open PySem PyProof.Rows PySem.W
set_option hygiene false
local macro_rules | `(tactic| k_caught0) => `(tactic| with_reducible first
  | apply ss_cons
  | apply ss_nil
  | apply s_ret
  | apply s_ite
  | refine s_two (by assumption) (by decide) (by decide) ?_
  | refine s_unpack (by with_unfolding_all exact rfl) (by with_unfolding_all exact rfl) ?_
  | refine s_assign (by with_unfolding_all exact rfl) ?_
  | refine s_expr (by with_unfolding_all exact rfl) ?_
  | refine s_setitem (by with_unfolding_all exact rfl) ?_
  | refine s_setattr (by decide) (by with_unfolding_all exact rfl) ?_
  | refine p_tup (by assumption) (by with_unfolding_all exact rfl) ?_
  | apply p_v
  | apply ps_cons
  | apply ps_nil
  | refine e_v (by with_unfolding_all first | exact rfl | assumption) ?_
  | apply e_int
  | apply e_bool
  | apply e_str
  | apply e_none
  | apply es_cons
  | apply es_nil
  | apply e_tup
  | apply e_list
  | apply e_dict0
  | apply e_dict1
  | apply d_one
  | apply e_bin
  | apply e_neg
  | apply e_cmp
  | apply e_ite
  | apply e_sub
  | apply e_slice
  | apply e_or
  | apply ov_one
  | apply ov_cons
  | apply e_meth
  | refine t_v (by with_unfolding_all first | exact rfl | assumption) ?_
  | apply t_not
  | apply t_and
  | apply t_or
  | apply t_cmp
  | apply t_cmp2
  | apply ta_cons
  | apply ta_nil
  | apply to_cons
  | apply to_nil
  | apply ts_one
  | apply ts_nil
  | apply r_list
  | refine r_v (by with_unfolding_all first | exact rfl | assumption) ?_
  | refine e_clsb (by assumption) (by decide) ?_
  | refine e_callb (by assumption) (by decide) ?_
  | refine t_callb (by assumption) (by decide) ?_
  | apply ex_b
  | apply k_lt
  | apply k_le
  | apply k_gt
  | apply k_eqI
  | apply k_neI
  | apply b_add
  | apply b_sub
  | apply fr_f
  | refine And.intro (Nat.le_of_ble_eq_true (by with_unfolding_all exact rfl)) ?_
  | refine e_fn (by first | assumption | exact Uses.get (by assumption) (by decide)) (by decide) ?_
  | refine t_fn (by first | assumption | exact Uses.get (by assumption) (by decide)) (by decide) ?_
  | refine r_fn (by first | assumption | exact Uses.get (by assumption) (by decide)) (by decide) ?_
  | refine r_callb (by assumption) (by decide) (by decide) ?_
  | refine e_cls (by first | assumption | exact Uses.get (by assumption) (by decide)) (by decide) ?_
  | refine e_six (by first | assumption | exact Uses.get (by assumption) (by decide)) ?_
  | apply c_range1
  | apply c_range2
  | apply x_neg
  | refine i_list (by assumption) ?_
  | refine s_raise (by first | assumption | exact Uses.get (by assumption) (by decide)) (by decide) (by assumption) ?_
  | refine And.intro (hx_of (by assumption)) ?_
  | refine fr_cf (by decide) ?_
  | refine s_for (by with_unfolding_all first | exact noEnum rfl | exact fun _ => ⟨_, rfl⟩) ?_
  | apply ki
  | apply if_t
  | apply if_f
  | apply if_nt
  | apply if_nf
  | refine r_en (by assumption) ?_
  | refine c_isx (by assumption) (by assumption) (by decide) (by first | assumption | exact Uses.get (by assumption) (by decide)) ?_)
set_option hygiene true
section
open PySem PyProof.Rows PySem.W
variable {prog : Program} {w : World} {S : Sta prog w} {W : Wd} {X : KX}
noncomputable def c_near : FnCore := ⟨[1079135020893454991476, 121, 122], 1, [.assign (.tup [(.v 1), (.v 2)]) (.v 0), .ret (.list [(.tup [(.v 1), (.bin .Sub (.v 2) (.int 1))]), (.tup [(.bin .Sub (.v 1) (.int 1)), (.v 2)]), (.tup [(.bin .Add (.v 1) (.int 1)), (.v 2)]), (.tup [(.v 1), (.bin .Add (.v 2) (.int 1))])])]⟩
noncomputable def c_spread : FnCore := ⟨[2263110204230247865775030375, 940784431544538234996, 1953625148292055806928486503, 8847346042641382399987775315101205135480, 1079135020893454991476], 2, [.assign (.v 2) (.dict [(.v 0)] [(.bool true)]), .assign (.v 3) (.list [(.v 0)]), .while_ (.cmp .Gt (.call (.g 0) [(.v 3)]) (.int 0)) [.for_ (.v 4) (.call (.g 34) [(.meth (.v 3) 1 [])]) [.ite (.and [(.cmp .In (.v 4) (.v 1)), (.cmp .NotIn (.v 4) (.v 2))]) [.setitem (.v 2) (.v 4) (.bool true), .expr (.meth (.v 3) 0 [(.v 4)])] []]], .ret (.v 2)]⟩
theorem near_vc {Q : KV} {k : Spot} {σ : Store} (hq : S.hx = Option.none) (h : Q (.list ((nearL k).map sp)) σ) : vcSs S W X [] c_near.body (argsM [sp k]) σ (RetK S Q) := by
  unfold c_near
  repeat k_caught0
  exact RetK.val h
theorem near_own {k : Nat} {Q : KV} {p : Spot} {σ : Store} (G : Good S W) (f : Fn S 34 c_near) (hq : S.hx = Option.none) (h : Q (.list ((nearL p).map sp)) σ) : OwnT S (k + 1) 34 [sp p] σ Q X := f.own G rfl (near_vc hq h)
noncomputable def trues (fs : List Spot) : List (Spot × AV) := fs.map fun k => (k, .bool true)
theorem trues_keys (fs : List Spot) : (trues fs).map (·.1) = fs := by simp [trues, Function.comp_def]
theorem dget_some {l : List (Spot × AV)} {k : Spot} : (dget l k).isSome = true ↔ k ∈ l.map (·.1) := by
  unfold dget
  simp only [Option.isSome_map, List.find?_isSome, List.mem_map]
  constructor
  · rintro ⟨x, h1, h2⟩; exact ⟨x, h1, of_decide_eq_true h2⟩
  · rintro ⟨x, h1, h2⟩; exact ⟨x, h1, decide_eq_true h2⟩
theorem dset_new {l : List (Spot × AV)} {k : Spot} {x : AV} (h : (dget l k).isSome = false) : dset l k x = l ++ [(k, x)] := by
  unfold dset; rw [if_neg (by rw [h]; simp)]
theorem spread_vc {Q : KV} {a : Spot} {v : AV} {P : List (Spot × AV)} {σ : Store} (G : Good S W) (hq : S.hx = Option.none) (u34 : W.U 34 = true) (hnear : ∀ (p : Spot) (σ : Store) (Q : KV), Q (.list ((nearL p).map sp)) σ → OwnT S W.k 34 [sp p] σ Q noX)
    (hd : dd σ v = some P) (hP : P.length ≤ 1000) (h : ∀ fs, Comp (P.map (·.1)) a fs → fs.length ≤ 1001 → Q (.dict (trues fs)) σ) : vcSs S W X [2, 3] c_spread.body (argsM [sp a, v]) σ (RetK S Q) := by
  unfold c_spread
  repeat k_caught0
  refine fr_ct (by decide) fun f nf => ?_
  repeat k_caught0
  refine fr_ct (by decide) fun wa nw => ?_
  have fw : f ≠ wa := fun e => nw (by unfold Dom; rw [← e, Store.set_self]; simp)
  have nw' : ¬ Dom σ wa := fun d => nw (by unfold Dom; rw [Store.set_ne _ _ (Ne.symm fw)]; exact d)
  refine ss_cons (s_while (fun n m σ' => ∃ fs ws, n = dfsM (P.map (·.1)) fs ws ∧ n ≤ 2 * P.length + 1 ∧ m 1 = some v ∧ m 2 = some (.loc f) ∧ m 3 = some (.loc wa) ∧ Keep σ σ' ∧ σ' f = some (.dict (trues fs)) ∧ σ' wa = some (.list (ws.map sp)) ∧ Dfs (P.map (·.1)) a fs ws) (2 * P.length + 1) ?_ ?_)
  · refine ⟨[a], [a], by unfold dfsM; simp, Nat.le_refl _, rfl, rfl, rfl, ((Keep.refl σ).set nf).set nw', ?_, Store.set_self .., Dfs.start _ _⟩
    rw [Store.set_ne _ _ fw, Store.set_self]; rfl
  rintro n m σ₁ ⟨fs, ws, hn, hn', m1, m2, m3, kp, sf, sw, D⟩
  have lw : ws.length ≤ 2001 := by unfold dfsM at hn; omega
  have lf : fs.length ≤ 1001 := by have := size_ok D.nd D.rc; simp at this; omega
  repeat k_caught0
  refine c_lenLl sw (by simp; exact Nat.le_trans lw (by decide)) ?_
  repeat k_caught0
  by_cases h0 : ws = []
  · subst h0
    rw [if_neg (by simp)]
    repeat k_caught0
    exact fun N => ⟨.dict (trues fs), _, View.backD sf kp nf, h fs D.end_ lf⟩
  · obtain ⟨ws', e, rfl⟩ : ∃ ws' e, ws = ws' ++ [e] := ⟨ws.dropLast, ws.getLast h0, (List.dropLast_concat_getLast h0).symm⟩
    rw [if_pos (by simp)]
    repeat k_caught0
    refine o_list sw ?_ 1 (.inr rfl)
    repeat k_caught0
    rw [List.map_append] at sw
    refine m_pop sw (by simp at lw ⊢; unfold big; omega) ?_
    repeat k_caught0
    refine hnear e _ _ ?_
    repeat k_caught0
    refine forV_ind (fun items m σ' => ∃ fs ws r, items = r.map sp ∧ dfsM (P.map (·.1)) fs ws < n ∧ m 1 = some v ∧ m 2 = some (.loc f) ∧ m 3 = some (.loc wa) ∧ Keep σ σ' ∧ σ' f = some (.dict (trues fs)) ∧ σ' wa = some (.list (ws.map sp)) ∧ DfsAt (P.map (·.1)) a fs ws e r) ?_ ?_
      ⟨fs, ws', nearL e, rfl, by unfold dfsM at hn ⊢; simp at hn ⊢; omega, m1, m2, m3, kp.set nw', by rw [Store.set_ne _ _ fw]; exact sf, Store.set_self .., D.pop⟩
    · rintro m₂ σ₂ ⟨fs, ws, r, hr, hlt, m1, m2, m3, kp, sf, sw, D⟩
      obtain rfl : r = [] := by cases r with | nil => rfl | cons _ _ => simp at hr
      repeat k_caught0
      exact ⟨_, hlt, fs, ws, rfl, by omega, m1, m2, m3, kp, sf, sw, D.done⟩
    · rintro x r' m₂ σ₂ ⟨fs, ws, r, hr, hlt, m1, m2, m3, kp, sf, sw, D⟩ C hC
      cases r with
      | nil => simp at hr
      | cons c r =>
      simp only [List.map_cons, List.cons.injEq] at hr
      obtain ⟨rfl, rfl⟩ := hr
      have lf : fs.length ≤ 1001 := by have := size_ok D.nd D.rc; simp at this; omega
      have lw : ws.length ≤ 2001 := by unfold dfsM at hlt; omega
      have m1' : (m₂.set 4 (sp c)) 1 = some v := m1
      have m2' : (m₂.set 4 (sp c)) 2 = some (.loc f) := m2
      have m3' : (m₂.set 4 (sp c)) 3 = some (.loc wa) := m3
      repeat k_caught0
      refine k_inG (k := c) (kp.dd hd) ?_
      by_cases hin : c ∈ P.map (·.1)
      · rw [if_pos (dget_some.mpr hin)]
        repeat k_caught0
        refine k_ninG (k := c) (l := trues fs) (by simp only [dd, sf]) ?_
        by_cases hf : c ∈ fs
        · have e1 : (dget (trues fs) c).isSome = true := dget_some.mpr (by rw [trues_keys]; exact hf)
          rw [e1, if_neg (by simp)]
          repeat k_caught0
          exact ⟨trivial, hC _ _ ⟨fs, ws, r, rfl, hlt, m1', m2', m3', kp, sf, sw, D.skip fun q => q.2 hf⟩⟩
        · have e1 : (dget (trues fs) c).isSome = false := by
            cases q : (dget (trues fs) c).isSome with
            | false => rfl
            | true => exact absurd (by have := dget_some.mp q; rw [trues_keys] at this; exact this) hf
          rw [e1, if_pos (by simp)]
          repeat k_caught0
          refine ⟨f, trues fs, c, rfl, rfl, sf, by simp [trues]; unfold big; omega, ?_⟩
          repeat k_caught0
          have sw' : (σ₂.set f (.dict (dset (trues fs) c (.bool true)))) wa = some (.list (ws.map sp)) := by rw [Store.set_ne _ _ (Ne.symm fw)]; exact sw
          refine o_list sw' ?_ 0 (.inl rfl)
          repeat k_caught0
          refine m_append sw' (by simp; unfold big; omega) ?_
          repeat k_caught0
          refine ⟨trivial, hC _ _ ⟨fs ++ [c], ws ++ [c], r, rfl, Nat.lt_of_le_of_lt (dfsM_push D hin hf) hlt, m1', m2', m3', (kp.set nf).set nw', ?_, ?_, D.push hin hf⟩⟩
          · rw [Store.set_ne _ _ fw, Store.set_self, dset_new e1]; simp [trues]
          · rw [Store.set_self]; simp
      · have e1 : (dget P c).isSome = false := by
          cases q : (dget P c).isSome with
          | false => rfl
          | true => exact absurd (dget_some.mp q) hin
        rw [e1, if_neg (by simp)]
        repeat k_caught0
        exact ⟨trivial, hC _ _ ⟨fs, ws, r, rfl, hlt, m1', m2', m3', kp, sf, sw, D.skip fun q => hin q.1⟩⟩
theorem spread_own {k : Nat} {Q : KV} {a : Spot} {v : AV} {P : List (Spot × AV)} {σ : Store} (G : Good S W) (hq : S.hx = Option.none) (u34 : W.U 34 = true) (f34 : Fn S 34 c_near) (f35 : Fn S 35 c_spread)
    (hd : dd σ v = some P) (hP : P.length ≤ 1000) (h : ∀ fs, Comp (P.map (·.1)) a fs → fs.length ≤ 1001 → Q (.dict (trues fs)) σ) : OwnT S (k + 2) 35 [sp a, v] σ Q X :=
  f35.own G rfl (spread_vc (W := W.at (k + 1)) (G.at _) hq u34 (fun p σ Q h => near_own G f34 hq h) hd hP h)
end
section
open PySem PySem.Builtin PySem.Builtin.Str
noncomputable def occStep (s sub : Str) (hi i : Nat) (r : Array Nat × Nat) : Id (ForInStep (Array Nat × Nat)) :=
  if (decide (r.1.size < 1) && decide (r.2 ≤ i) && decide (i + sub.length ≤ hi) && subAt s sub i) = true then pure (.yield (r.1.push i, i + sub.length)) else pure (.yield (r.1, r.2))
theorem occ_list (s sub : Str) (hi : Nat) : ∀ (L : List Nat) (f : Array Nat) (fr : Nat), (f = #[] → fr = 0) →
    (Id.run (forIn (m := Id) L ((f, fr) : Array Nat × Nat) (occStep s sub hi))).1.isEmpty = (f.isEmpty && !(L.any fun i => decide (i + sub.length ≤ hi) && subAt s sub i))
  | [], f, fr, h => by simp
  | i :: L, f, fr, h => by
    rw [List.forIn_cons]
    by_cases q : f = #[]
    · obtain rfl := q
      obtain rfl := h rfl
      by_cases p : (decide (i + sub.length ≤ hi) && subAt s sub i) = true
      · have e : occStep s sub hi i (#[], 0) = pure (.yield (#[i], i + sub.length)) := by
          unfold occStep
          rw [if_pos (by simp; simpa using p)]; rfl
        rw [e]
        show (Id.run (forIn (m := Id) L ((#[i], i + sub.length) : Array Nat × Nat) (occStep s sub hi))).1.isEmpty = _
        rw [occ_list s sub hi L _ _ (fun z => by simp at z)]
        rw [List.any_cons, p]; simp
      · have e : occStep s sub hi i (#[], 0) = pure (.yield (#[], 0)) := by
          unfold occStep
          rw [if_neg (by simp; simpa using p)]
        rw [e]
        show (Id.run (forIn (m := Id) L ((#[], 0) : Array Nat × Nat) (occStep s sub hi))).1.isEmpty = _
        rw [occ_list s sub hi L _ _ (fun zz => rfl)]
        have p' : (decide (i + sub.length ≤ hi) && subAt s sub i) = false := by simpa using p
        rw [List.any_cons, p', Bool.false_or]
    · have e : occStep s sub hi i (f, fr) = pure (.yield (f, fr)) := by
        unfold occStep
        have : ¬ f.size < 1 := fun z => q (Array.eq_empty_of_size_eq_zero (by omega))
        rw [if_neg (by simp [this])]
      rw [e]
      show (Id.run (forIn (m := Id) L ((f, fr) : Array Nat × Nat) (occStep s sub hi))).1.isEmpty = _
      rw [occ_list s sub hi L _ _ h]
      have : f.isEmpty = false := by
        cases z : f.isEmpty with
        | false => rfl
        | true => exact absurd (Array.isEmpty_iff.mp z) q
      simp [this]
theorem extract_one (a : Array Nat) (i : Nat) (h : i < a.size) : a.extract i (i + 1) = #[a[i]] := by
  apply Array.ext
  · simp; omega
  · intro j h1 h2
    have : j = 0 := by simp at h2; omega
    subst this
    simp
theorem contains_hash (x : Str) : Txt.contains x "#" = x.cps.any (· == 35) := by
  have e : Txt.contains x "#" = !(Id.run (forIn (m := Id) [0 : x.length + 1] ((#[], 0) : Array Nat × Nat) (occStep x "#" x.length))).1.isEmpty := by
    unfold Txt.contains occurrences
    show (!(Id.run (forIn (m := Id) [0 : x.length + 1] ((#[], 0) : Array Nat × Nat) (occStep x "#" x.length))).1.toList.isEmpty) = _
    rw [Array.isEmpty_toList]
  rw [e, Std.Legacy.Range.forIn_eq_forIn_range', occ_list x "#" x.length _ _ _ (fun zz => rfl)]
  simp only [Array.isEmpty_empty, Bool.true_and, Bool.not_not]
  rw [Bool.eq_iff_iff, List.any_eq_true, Array.any_eq_true]
  have h1 : ("#" : Str).length = 1 := by decide
  have h2 : ("#" : Str).cps = #[35] := by decide
  constructor
  · rintro ⟨i, hi, h⟩
    simp only [h1, Bool.and_eq_true, decide_eq_true_eq, subAt, h2, beq_iff_eq] at h
    obtain ⟨h3, h4⟩ := h
    have lt : i < x.cps.size := h3
    refine ⟨i, lt, ?_⟩
    rw [extract_one _ _ lt] at h4
    simp at h4 ⊢; exact h4
  · rintro ⟨i, hi, h⟩
    refine ⟨i, by simp [Str.length]; omega, ?_⟩
    simp only [h1, Bool.and_eq_true, decide_eq_true_eq, subAt, h2, beq_iff_eq]
    refine ⟨hi, ?_⟩
    rw [extract_one _ _ hi]
    simp at h ⊢; exact h
end
section
open PySem PyProof.Rows PySem.W
variable {prog : Program} {w : World} {S : Sta prog w} {W : Wd} {X : KX}
noncomputable def c_arerows : FnCore := ⟨[1069911684040970207347, 527765816213619, 1023794753487939567732], 1, [.ite (.or [(.not (.call (.g 1) [(.v 0), (.g 5)])), (.not (.cmp2 .LtE .LtE (.int 1) (.call (.g 0) [(.v 0)]) (.g 28)))]) [.ret (.bool false)] [], .for_ (.v 1) (.v 0) [.ite (.or [(.not (.call (.g 1) [(.v 1), (.g 6)])), (.not (.cmp2 .LtE .LtE (.int 1) (.call (.g 0) [(.v 1)]) (.g 28)))]) [.ret (.bool false)] []], .for_ (.v 1) (.v 0) [.ite (.or [(.cmp .NotEq (.call (.g 0) [(.v 1)]) (.call (.g 0) [(.sub (.v 0) (.int 0))])), (.not (.call (.g 15) [(.comp (.cmp .In (.v 2) (.tup [(.str "#"), (.str ".")])) 2 (.v 1) [])]))]) [.ret (.bool false)] []], .ret (.call (.g 16) [(.comp (.cmp .In (.str "#") (.v 1)) 1 (.v 0) [])])]⟩
noncomputable def signOk (c : Nat) : Bool := c == 35 || c == 46
noncomputable def textOk : AV → Bool
  | .str s => decide (1 ≤ s.length ∧ s.length ≤ 6)
  | _ => false
noncomputable def lenOf : AV → Nat
  | .str s => s.length
  | _ => 0
noncomputable def rowOk (n : Nat) : AV → Bool
  | .str s => s.length == n && s.cps.toList.all signOk
  | _ => false
noncomputable def hasCell : AV → Bool
  | .str s => s.cps.any (· == 35)
  | _ => false
noncomputable def rowsOk (l : List AV) : Bool := decide (1 ≤ l.length ∧ l.length ≤ 6) && (l.all textOk && (l.all (rowOk (lenOf (l.headD .none))) && l.any hasCell))
noncomputable def Known (σ : Store) (x : AV) : Prop := (∃ s : Str, x = .str s ∧ s.cps.all (· < 128) = true ∧ s.length ≤ 1000) ∨ ∃ t, tyA σ x = some t ∧ t ≠ .str
theorem s_hash : (Str.ofString "#") = ⟨#[35]⟩ := by decide +kernel
theorem s_dot : (Str.ofString ".") = ⟨#[46]⟩ := by decide +kernel
theorem char_ok {c : Nat} (h : c < 128) : (PyData.str ⟨#[c]⟩).canLay0 = true := by
  simp only [PyData.canLay0, PyData.strOk]
  simp; omega
theorem one_eq (c d : Nat) : ((⟨#[c]⟩ : Str) == ⟨#[d]⟩) = (d == c) := by
  rw [Bool.eq_iff_iff, beq_iff_eq, beq_iff_eq]
  constructor
  · intro q; have := congrArg (fun z : Str => z.cps[0]?) q; simpa using this.symm
  · intro q; subst q; rfl
theorem sign_in {σ : Store} {c : Nat} {B : KB} (hc : c < 128) (h : B (signOk c) σ) : cmpV .In (.str ⟨#[c]⟩) (.tup [.str "#", .str "."]) σ B := by
  refine .inL (d := .str ⟨#[c]⟩) (xs := [.str "#", .str "."]) rfl rfl (by rw [s_hash, s_dot]; simp [PyData.canLayAll0, char_ok]) (char_ok hc) (by simp [PyData.depth]) ?_
  have e : ([PyData.str "#", PyData.str "."].any fun y => PyData.eqv y (.str ⟨#[c]⟩)) = signOk c := by
    rw [s_hash, s_dot]
    simp only [List.any_cons, List.any_nil, PyData.eqv, one_eq, signOk, Bool.or_false]
  rw [e]; exact h
theorem arerows_not {Q : KV} {σ : Store} {a : AV} {t : Ty} (G : Good S W) (ht : tyA σ a = some t) (hn : isT t .list = false) (h : Q (.bool false) σ) : vcSs S W X [] c_arerows.body (argsM [a]) σ (RetK S Q) := by
  unfold c_arerows
  repeat k_caught0
  refine c_isi ht rfl ?_
  rw [hn]
  repeat k_caught0
  exact RetK.val h
theorem arerows_vc {Q : KV} {σ : Store} {l : List AV} (G : Good S W) (hq : S.hx = Option.none) (u28 : W.U 28 = true) (hl : l.length ≤ 1000) (hk : ∀ x ∈ l, Known σ x) (h : Q (.bool (rowsOk l)) σ) : vcSs S W X [] c_arerows.body (argsM [.list l]) σ (RetK S Q) := by
  unfold c_arerows
  repeat k_caught0
  refine c_isi rfl rfl ?_
  rw [show isT .list .list = true from rfl]
  repeat k_caught0
  refine c_lenL (Nat.le_trans hl (by decide)) ?_
  repeat k_caught0
  have fin : ∀ {m : Vars}, rowsOk l = false → RetK S Q (.ret (.bool false)) m σ := fun e => RetK.val (by rw [e] at h; exact h)
  by_cases h1 : 1 ≤ l.length
  · rw [if_pos (by simp; omega)]
    repeat k_caught0
    by_cases h6 : l.length ≤ 6
    · rw [if_neg (by simp; omega)]
      repeat k_caught0
      refine forV_ind (fun items m σ' => m 0 = some (.list l) ∧ σ = σ' ∧ ∃ done, l = done ++ items ∧ done.all textOk = true) ?_ ?_ ⟨rfl, rfl, [], rfl, rfl⟩
      · rintro m σ' ⟨m0, rfl, done, hd, ha⟩
        rw [List.append_nil] at hd
        subst hd
        repeat k_caught0
        refine forV_ind (fun items m σ' => m 0 = some (.list l) ∧ σ = σ' ∧ ∃ done, l = done ++ items ∧ done.all (rowOk (lenOf (l.headD .none))) = true) ?_ ?_ ⟨m0, rfl, [], rfl, rfl⟩
        · rintro m σ' ⟨m0, rfl, done, hd, hr⟩
          rw [List.append_nil] at hd
          rw [← hd] at hr
          clear hd
          repeat k_caught0
          first | refine s_assignC rfl ?_ | refine e_comp rfl ?_
          repeat k_caught0
          refine ⟨Nat.le_trans hl (by decide), ?_⟩
          refine compV_ind (fun items ys σ' => σ = σ' ∧ ∃ done, l = done ++ items ∧ ys = done.map (fun x => .bool (hasCell x))) ?_ ?_ ⟨rfl, [], rfl, rfl⟩
          · rintro ys σ' ⟨rfl, done, hd, rfl⟩
            rw [List.append_nil] at hd
            subst hd
            repeat k_caught0
            refine .any (bs := l.map hasCell) hq (by simp [dl]) (RetK.val ?_)
            have e : rowsOk l = l.any hasCell := by unfold rowsOk; rw [ha, hr]; simp [h1, h6]
            rw [e] at h
            simpa [List.any_map, Function.comp_def] using h
          · rintro x r ys σ' ⟨rfl, done, hd, rfl⟩ C hC
            have hx : textOk x = true := List.all_eq_true.mp ha x (by rw [hd]; simp)
            cases x with
            | str s =>
              repeat k_caught0
              refine .inS ?_
              refine ⟨trivial, hC _ _ ⟨rfl, done ++ [.str s], by rw [hd]; simp, ?_⟩⟩
              rw [List.map_append]
              show _ ++ [AV.bool (Txt.contains s "#")] = _
              rw [contains_hash]; rfl
            | _ => cases hx
        · rintro x r m σ' ⟨m0, rfl, done, hd, hr⟩ C hC
          have m0' : (m.set 1 x) 0 = some (.list l) := m0
          have bad : rowOk (lenOf (l.headD .none)) x = false → rowsOk l = false := fun e => by
            unfold rowsOk
            have : l.all (rowOk (lenOf (l.headD .none))) = false := by
              rw [Bool.eq_false_iff]; intro q
              have := List.all_eq_true.mp q x (by rw [hd]; simp)
              rw [e] at this; cases this
            rw [this]; simp
          have hx : textOk x = true := List.all_eq_true.mp ha x (by rw [hd]; simp)
          obtain ⟨y, l', hl'⟩ : ∃ y l', l = y :: l' := by
            cases l with
            | nil => simp at h1
            | cons y l' => exact ⟨y, l', rfl⟩
          have hy : textOk y = true := List.all_eq_true.mp ha y (by rw [hl']; simp)
          rcases hk x (by rw [hd]; simp) with ⟨s, rfl, hs, hz⟩ | ⟨t, ht, hn⟩
          · cases y with
            | str u =>
              repeat k_caught0
              refine c_lenS (Nat.le_trans hz (by decide)) ?_
              repeat k_caught0
              refine .list (l := l) (x := .str u) (by decide) (by decide) rfl (by rw [hl']; rfl) ?_
              repeat k_caught0
              have hu : u.length ≤ 6 := by simp [textOk] at hy; exact hy.2
              refine c_lenS (by unfold big; omega) ?_
              repeat k_caught0
              have en : lenOf (l.headD .none) = u.length := by rw [hl']; rfl
              by_cases g : s.length = u.length
              · rw [show (!((s.length : Int) == (u.length : Int))) = false by simp [g]]
                repeat k_caught0
                first | refine s_assignC rfl ?_ | refine e_comp rfl ?_
                repeat k_caught0
                refine i_str hq hs ⟨by simp [signs]; unfold big; have : s.cps.size = s.length := rfl; omega, ?_⟩
                refine compV_ind (fun items ys σ' => σ = σ' ∧ ∃ done rest : List Nat, s.cps.toList = done ++ rest ∧ items = rest.map (fun c => .str ⟨#[c]⟩) ∧ ys = done.map (fun c => .bool (signOk c))) ?_ ?_ ⟨rfl, [], s.cps.toList, rfl, rfl, rfl⟩
                · rintro ys σ' ⟨rfl, dn, rest, h2, h3, rfl⟩
                  obtain rfl : rest = [] := by cases rest with | nil => rfl | cons _ _ => simp at h3
                  rw [List.append_nil] at h2
                  repeat k_caught0
                  refine .all (bs := dn.map signOk) hq (by simp [dl]) ?_
                  repeat k_caught0
                  have e3 : (dn.map signOk).all id = s.cps.toList.all signOk := by rw [h2]; simp [List.all_map, Function.comp_def]
                  rw [e3]
                  by_cases g2 : s.cps.toList.all signOk = true
                  · rw [g2]
                    repeat k_caught0
                    exact ⟨trivial, hC _ _ ⟨m0', rfl, done ++ [.str s], by rw [hd]; simp, by rw [List.all_append, hr, Bool.true_and]; simp only [List.all_cons, List.all_nil, Bool.and_true, rowOk, en, g, beq_self_eq_true, Bool.true_and]; exact g2⟩⟩
                  · rw [Bool.eq_false_iff.mpr g2]
                    repeat k_caught0
                    exact fin (bad (by simp only [rowOk, Bool.eq_false_iff.mpr g2, Bool.and_false]))
                · rintro x2 r2 ys σ' ⟨rfl, dn, rest, h2, h3, rfl⟩ C2 hC2
                  cases rest with
                  | nil => simp at h3
                  | cons c rest =>
                  simp only [List.map_cons, List.cons.injEq] at h3
                  obtain ⟨rfl, rfl⟩ := h3
                  have hc : c < 128 := by
                    have : c ∈ s.cps.toList := by rw [h2]; simp
                    have := Array.all_eq_true_iff_forall_mem.mp hs c (Array.mem_toList_iff.mp this)
                    simpa using this
                  repeat k_caught0
                  refine sign_in hc ?_
                  exact ⟨trivial, hC2 _ _ ⟨rfl, dn ++ [c], rest, by rw [h2]; simp, rfl, by simp⟩⟩
              · rw [show (!((s.length : Int) == (u.length : Int))) = true by simp; omega]
                repeat k_caught0
                exact fin (bad (by simp only [rowOk, en]; rw [show (s.length == u.length) = false by simp [g]]; rfl))
            | _ => cases hy
          · exfalso
            cases x <;> first | (cases hx; done) | (simp [tyA] at ht; exact hn ht.symm)
      · rintro x r m σ' ⟨m0, rfl, done, hd, ha⟩ C hC
        have m0' : (m.set 1 x) 0 = some (.list l) := m0
        have bad : textOk x = false → rowsOk l = false := fun e => by unfold rowsOk; rw [hd]; simp [e]
        repeat k_caught0
        rcases hk x (by rw [hd]; simp) with ⟨s, rfl, hs, hz⟩ | ⟨t, ht, hn⟩
        · refine c_isi rfl rfl ?_
          rw [show isT .str .str = true from rfl]
          repeat k_caught0
          refine c_lenS (Nat.le_trans hz (by decide)) ?_
          repeat k_caught0
          by_cases g1 : 1 ≤ s.length
          · rw [if_pos (by simp; omega)]
            repeat k_caught0
            by_cases g6 : s.length ≤ 6
            · rw [if_neg (by simp; omega)]
              repeat k_caught0
              exact ⟨trivial, hC _ _ ⟨m0', rfl, done ++ [.str s], by rw [hd]; simp, by simp [ha, textOk, g1, g6]⟩⟩
            · rw [if_pos (by simp; omega)]
              repeat k_caught0
              exact fin (bad (by simp [textOk, g6]))
          · rw [if_neg (by simp; omega)]
            repeat k_caught0
            exact fin (bad (by simp [textOk, g1]))
        · refine c_isi ht rfl ?_
          have e : isT t .str = false := by cases t <;> first | rfl | exact absurd rfl hn
          rw [e]
          repeat k_caught0
          refine fin (bad ?_)
          cases x <;> first | rfl | (simp [tyA] at ht; exact absurd ht.symm hn)
    · rw [if_pos (by simp; omega)]
      repeat k_caught0
      exact fin (by unfold rowsOk; simp; omega)
  · rw [if_neg (by simp; omega)]
    repeat k_caught0
    exact fin (by unfold rowsOk; simp; omega)
end
section
open PySem PyProof.Rows PySem.W
variable {prog : Program} {w : World} {S : Sta prog w} {W : Wd} {X : KX}
noncomputable def intsA (a : Int) : Nat → List AV
  | 0 => []
  | n + 1 => .int a :: intsA (a + 1) n
theorem intsA_length (a : Int) : ∀ n, (intsA a n).length = n
  | 0 => rfl
  | n + 1 => by simp [intsA, intsA_length (a + 1) n]
theorem rangeAV_ints : ∀ (n : Nat) (a : Int), rangeAV a 1 n = intsA a n
  | 0, _ => rfl
  | n + 1, a => by
    unfold rangeAV
    rw [List.range_succ_eq_map, List.map_cons, List.map_map]
    have ih := rangeAV_ints n (a + 1)
    unfold rangeAV at ih
    simp only [intsA, ← ih]
    congr 1
    · simp
    · apply List.map_congr_left
      intro i _
      simp only [Function.comp_def]
      congr 1
      omega
theorem i_rng {a b : Int} {σ : Store} {G : List AV → (Store → Store → Prop) → Prop} (h1 : -1000000 ≤ a) (h2 : a ≤ 1000000) (h3 : -1000000 ≤ b) (h4 : b ≤ 1000000) (h : G (intsA a (b - a).toNat) (fun zz zz => True)) : iterV S (.range a b 1) σ G := by
  have e : rangeN a b 1 = (b - a).toNat := by
    unfold rangeN Builtin.Range.rangeSize
    simp only [show (1 : Int) > 0 by decide, if_true]
    split
    · rw [Int.ediv_one]; congr 1; omega
    · rw [Int.toNat_of_nonpos (by omega : b - a ≤ 0)]; rfl
  refine i_range ?_ (by rw [e, rangeAV_ints]; exact h)
  have fit : ∀ i : Int, -10000000 ≤ i → i ≤ 10000000 → Builtin.Range.rangeFitsLong i = true := fun i h1 h2 => by
    unfold Builtin.Range.rangeFitsLong
    simp only [Bool.and_eq_true, decide_eq_true_eq]
    constructor <;> omega
  have sz : 0 ≤ Builtin.Range.rangeSize a b 1 ∧ Builtin.Range.rangeSize a b 1 ≤ 2000000 := by
    unfold Builtin.Range.rangeSize
    simp only [show (1 : Int) > 0 by decide, if_true]
    split
    · rw [Int.ediv_one]; omega
    · omega
  unfold Builtin.Range.small
  rw [fit a (by omega) (by omega), fit b (by omega) (by omega), fit 1 (by decide) (by decide), fit _ (by omega) (by omega : Builtin.Range.rangeSize a b 1 ≤ 10000000)]
  simp only [show (1 : Int) > 0 by decide, if_true]
  rw [fit (b + (1 - 1)) (by omega) (by omega)]
  simp
noncomputable def enumL (i : Nat) : List AV → List AV
  | [] => []
  | x :: r => .tup [.int i, x] :: enumL (i + 1) r
theorem enumL_mapIdx : ∀ (l : List AV) (i : Nat), (l.mapIdx fun j x => (.tup [.int ((i + j : Nat) : Int), x] : AV)) = enumL i l
  | [], _ => rfl
  | x :: r, i => by
    rw [List.mapIdx_cons]
    have ih := enumL_mapIdx r (i + 1)
    simp only [enumL, Nat.add_zero]
    rw [← ih]
    congr 1
    apply List.ext_getElem?
    intro j
    simp only [List.getElem?_mapIdx]
    congr 1
    funext y
    congr 3
    omega
theorem enumd_L (l : List AV) : enumd l = enumL 0 l := by
  rw [← enumL_mapIdx l 0]
  unfold enumd
  simp
noncomputable def rowCells (y : Int) (x : Int) : List Nat → List Spot
  | [] => []
  | c :: r => if c == 35 then (x, y) :: rowCells y (x + 1) r else rowCells y (x + 1) r
theorem rowCells_cons (y x : Int) (c : Nat) (r : List Nat) : rowCells y x (c :: r) = if (c == 35) = true then (x, y) :: rowCells y (x + 1) r else rowCells y (x + 1) r := rfl
noncomputable def cellsFrom' (y : Int) : List Str → List Spot
  | [] => []
  | r :: rs => rowCells y 0 r.cps.toList ++ cellsFrom' (y + 1) rs
noncomputable def cellsOf (rs : List Str) : List Spot := cellsFrom' 0 rs
noncomputable def freeRow (P : List Spot) (y : Int) (x : Int) : Nat → List Spot
  | 0 => []
  | n + 1 => if (x, y) ∈ P then freeRow P y (x + 1) n else (x, y) :: freeRow P y (x + 1) n
theorem freeRow_succ (P : List Spot) (y x : Int) (n : Nat) : freeRow P y x (n + 1) = if (x, y) ∈ P then freeRow P y (x + 1) n else (x, y) :: freeRow P y (x + 1) n := rfl
noncomputable def freeFrom (P : List Spot) (wd : Nat) (y : Int) : Nat → List Spot
  | 0 => []
  | n + 1 => freeRow P y (-1) wd ++ freeFrom P wd (y + 1) n
noncomputable def freeOf (P : List Spot) (wd ht : Nat) : List Spot := freeFrom P (wd + 2) (-1) (ht + 2)
theorem rowCells_at {y : Int} : ∀ {l : List Nat} {x : Int} {k : Spot}, k ∈ rowCells y x l → k.2 = y ∧ x ≤ k.1
  | [], _, _, h => by simp [rowCells] at h
  | c :: r, x, k, h => by
    unfold rowCells at h
    split at h
    · rcases List.mem_cons.mp h with rfl | h
      · exact ⟨rfl, Int.le_refl _⟩
      · have := rowCells_at h; exact ⟨this.1, by omega⟩
    · have := rowCells_at h; exact ⟨this.1, by omega⟩
theorem cellsFrom_at : ∀ {rs : List Str} {y : Int} {k : Spot}, k ∈ cellsFrom' y rs → y ≤ k.2
  | [], _, _, h => by simp [cellsFrom'] at h
  | r :: rs, y, k, h => by
    unfold cellsFrom' at h
    rcases List.mem_append.mp h with h | h
    · have := rowCells_at h; omega
    · have := cellsFrom_at h; omega
theorem rowCells_length {y : Int} : ∀ {l : List Nat} {x : Int}, (rowCells y x l).length ≤ l.length
  | [], _ => Nat.le_refl _
  | c :: r, x => by
    unfold rowCells
    have := rowCells_length (y := y) (l := r) (x := x + 1)
    split <;> simp <;> omega
theorem freeRow_at {P : List Spot} {y : Int} : ∀ {n : Nat} {x : Int} {k : Spot}, k ∈ freeRow P y x n → k.2 = y ∧ x ≤ k.1
  | 0, _, _, h => by simp [freeRow] at h
  | n + 1, x, k, h => by
    unfold freeRow at h
    split at h
    · have := freeRow_at h; exact ⟨this.1, by omega⟩
    · rcases List.mem_cons.mp h with rfl | h
      · exact ⟨rfl, Int.le_refl _⟩
      · have := freeRow_at h; exact ⟨this.1, by omega⟩
theorem freeRow_length {P : List Spot} {y : Int} : ∀ {n : Nat} {x : Int}, (freeRow P y x n).length ≤ n
  | 0, _ => Nat.le_refl _
  | n + 1, x => by
    unfold freeRow
    have := freeRow_length (P := P) (y := y) (n := n) (x := x + 1)
    split <;> simp <;> omega
theorem freeFrom_length {P : List Spot} {wd : Nat} : ∀ {n : Nat} {y : Int}, (freeFrom P wd y n).length ≤ n * wd
  | 0, _ => by simp [freeFrom]
  | n + 1, y => by
    unfold freeFrom
    have h1 := freeFrom_length (P := P) (wd := wd) (n := n) (y := y + 1)
    have h2 := freeRow_length (P := P) (y := y) (n := wd) (x := -1)
    rw [List.length_append, Nat.succ_mul]; omega
end
section
open PySem PyProof.Rows PySem.W
variable {prog : Program} {w : World} {S : Sta prog w} {W : Wd} {X : KX}
noncomputable def c_around : FnCore := ⟨[950007799183325528180, 1953625148292055806928486503, 122, 121], 1, [.assign (.v 1) (.dict [] []), .for_ (.v 2) (.call (.g 8) [(.neg (.int 1)), (.bin .Add (.call (.g 0) [(.attr (.v 0) 11)]) (.int 1))]) [.for_ (.v 3) (.call (.g 8) [(.neg (.int 1)), (.bin .Add (.call (.g 0) [(.sub (.attr (.v 0) 11) (.int 0))]) (.int 1))]) [.ite (.cmp .NotIn (.tup [(.v 3), (.v 2)]) (.attr (.v 0) 12)) [.setitem (.v 1) (.tup [(.v 3), (.v 2)]) (.bool true)] []]], .ret (.v 1)]⟩
noncomputable def c_fcells : FnCore := ⟨[950007799183325528180], 1, [.ret (.call (.g 5) [(.attr (.v 0) 12)])]⟩
noncomputable def c_init : FnCore := ⟨[950007799183325528180, 1069911684040970207347, 122, 527765816213619, 121, 1023794753487939567732, 4097048886990981419611689351905378], 2, [.ite (.not (.call (.g 36) [(.v 1)])) [.raise (.call (.g 19) [(.str "no rows of a floor")])] [], .setattr (.v 0) 11 (.call (.g 5) [(.v 1)]), .setattr (.v 0) 12 (.dict [] []), .for_ (.tup [(.v 2), (.v 3)]) (.call (.g 9) [(.v 1)]) [.for_ (.tup [(.v 4), (.v 5)]) (.call (.g 9) [(.v 3)]) [.ite (.cmp .Eq (.v 5) (.str "#")) [.setitem (.attr (.v 0) 12) (.tup [(.v 4), (.v 2)]) (.bool true)] []]], .ite (.cmp .NotEq (.call (.g 0) [(.call (.g 35) [(.sub (.call (.g 5) [(.attr (.v 0) 12)]) (.int 0)), (.attr (.v 0) 12)])]) (.call (.g 0) [(.attr (.v 0) 12)])) [.raise (.call (.g 20) [(.str "the cells don't hang together")])] [], .assign (.v 6) (.meth (.v 0) 13 []), .ite (.cmp .NotEq (.call (.g 0) [(.call (.g 35) [(.tup [(.neg (.int 1)), (.neg (.int 1))]), (.v 6)])]) (.call (.g 0) [(.v 6)])) [.raise (.call (.g 21) [(.str "the floor has a hole")])] []]⟩
theorem dget_not {fs : List Spot} {k : Spot} (h : k ∉ fs) : (dget (trues fs) k).isSome = false := by
  cases q : (dget (trues fs) k).isSome with
  | false => rfl
  | true => exact absurd (by have := dget_some.mp q; rw [trues_keys] at this; exact this) h
theorem dget_false {l : List (Spot × AV)} {k : Spot} (h : k ∉ l.map (·.1)) : (dget l k).isSome = false := by
  cases q : (dget l k).isSome with
  | false => rfl
  | true => exact absurd (dget_some.mp q) h
theorem fcells_vc {Q : KV} {σ : Store} {a vo : AV} {fs : List (Str × AV)} {P : List (Spot × AV)} (G : Good S W) (hq : S.hx = Option.none) (ha : attrsOf σ a = some fs) (ho : fget fs "own" = some (.dict P)) (hP : P.length ≤ 1000) (h : Q (.list (P.map fun p => sp p.1)) σ) :
    vcSs S W X [] c_fcells.body (argsM [a]) σ (RetK S Q) := by
  unfold c_fcells
  repeat k_caught0
  refine e_attr (.inr rfl) rfl ha ho rfl ?_
  repeat k_caught0
  refine c_listDG rfl hq (Nat.le_trans hP (by decide)) ?_
  repeat k_caught0
  exact RetK.val h
theorem around_vc {Q : KV} {σ : Store} {a vt vo : AV} {fs : List (Str × AV)} {P : List (Spot × AV)} {l : List AV} {r0 : Str} (G : Good S W) (ha : attrsOf σ a = some fs) (ht : fget fs "texts" = some vt) (ho : fget fs "own" = some vo) (nt : noCls vt = true) (no : noCls vo = true)
    (kt : ∀ σ', Keep σ σ' → dl σ' vt = some l) (ko : dd σ vo = some P) (ka : ∀ σ', Keep σ σ' → attrsOf σ' a = some fs) (h0 : l[0]? = some (.str r0)) (hl : l.length ≤ 6) (hr : r0.length ≤ 6)
    (h : Q (.dict (trues (freeOf (P.map (·.1)) r0.length l.length))) σ) : vcSs S W X [1] c_around.body (argsM [a]) σ (RetK S Q) := by
  unfold c_around
  repeat k_caught0
  refine fr_ct (by decide) fun f nf => ?_
  repeat k_caught0
  have kf : Keep σ (σ.set f (.dict [])) := (Keep.refl σ).set nf
  refine e_attr (.inl rfl) rfl (ka _ kf) ht nt ?_
  repeat k_caught0
  refine c_lenG (kt _ kf) (Nat.le_trans hl (by decide)) ?_
  repeat k_caught0
  refine i_rng (by decide) (by decide) (by omega) (by omega) ?_
  have e1 : ((l.length : Int) + 1 - -1).toNat = l.length + 2 := by omega
  rw [e1]
  refine forV_ind (fun items m σ' => m 0 = some a ∧ m 1 = some (.loc f) ∧ Keep σ σ' ∧ ∃ (y : Int) (n : Nat) (done : List Spot), items = intsA y n ∧ σ' f = some (.dict (trues done)) ∧ done.length + n * 8 ≤ 64 ∧ (∀ k ∈ done, k.2 < y) ∧
    freeOf (P.map (·.1)) r0.length l.length = done ++ freeFrom (P.map (·.1)) (r0.length + 2) y n) ?_ ?_
    ⟨rfl, rfl, kf, -1, l.length + 2, [], rfl, Store.set_self .., by simp; omega, by simp, rfl⟩
  · rintro m σ' ⟨m0, m1, kp, y, n, done, hi, sf, _, _, hd⟩
    obtain rfl : n = 0 := by cases n with | zero => rfl | succ _ => simp [intsA] at hi
    rw [freeFrom, List.append_nil] at hd
    repeat k_caught0
    rw [hd] at h
    exact fun N => ⟨_, _, View.backD sf kp nf, h⟩
  · rintro x r m σ' ⟨m0, m1, kp, y, n, done, hi, sf, hz, hlt, hd⟩ C hC
    cases n with
    | zero => simp [intsA] at hi
    | succ n =>
    simp only [intsA, List.cons.injEq] at hi
    obtain ⟨rfl, rfl⟩ := hi
    have m0' : (m.set 2 (.int y)) 0 = some a := m0
    have m1' : (m.set 2 (.int y)) 1 = some (.loc f) := m1
    repeat k_caught0
    refine e_attr (.inl rfl) m0' (ka _ kp) ht nt ?_
    repeat k_caught0
    refine u_list (kt _ kp) (by decide) (by exact h0) (by decide) ?_
    repeat k_caught0
    refine c_lenS (by unfold big; omega) ?_
    repeat k_caught0
    refine i_rng (by decide) (by decide) (by omega) (by omega) ?_
    have e2 : ((r0.length : Int) + 1 - -1).toNat = r0.length + 2 := by omega
    rw [e2]
    refine forV_ind (fun items m σ' => m 0 = some a ∧ m 1 = some (.loc f) ∧ m 2 = some (.int y) ∧ Keep σ σ' ∧ ∃ (x : Int) (j : Nat) (dn : List Spot), items = intsA x j ∧ σ' f = some (.dict (trues dn)) ∧ dn.length + j ≤ done.length + 8 ∧ (∀ k ∈ dn, k.2 < y ∨ (k.2 = y ∧ k.1 < x)) ∧
      done ++ freeRow (P.map (·.1)) y (-1) (r0.length + 2) = dn ++ freeRow (P.map (·.1)) y x j) ?_ ?_
      ⟨m0', m1', rfl, kp, -1, r0.length + 2, done, rfl, sf, by omega, fun k hk => .inl (hlt k hk), rfl⟩
    · rintro m₂ σ₂ ⟨m0, m1, m2, kp, x, j, dn, hi, sf, hzz, hll, hdd⟩
      obtain rfl : j = 0 := by cases j with | zero => rfl | succ _ => simp [intsA] at hi
      rw [freeRow, List.append_nil] at hdd
      repeat k_caught0
      refine ⟨trivial, hC _ _ ⟨m0, m1, kp, y + 1, n, dn, rfl, sf, by omega, fun k hk => ?_, ?_⟩⟩
      · have : k ∈ done ++ freeRow (P.map (·.1)) y (-1) (r0.length + 2) := by rw [hdd]; exact hk
        rcases List.mem_append.mp this with q | q
        · have := hlt k q; omega
        · have := freeRow_at q; omega
      · rw [hd, freeFrom, ← List.append_assoc, hdd]
    · rintro x' r' m₂ σ₂ ⟨m0, m1, m2, kp, x, j, dn, hi, sf, hzz, hll, hdd⟩ C2 hC2
      cases j with
      | zero => simp [intsA] at hi
      | succ j =>
      simp only [intsA, List.cons.injEq] at hi
      obtain ⟨rfl, rfl⟩ := hi
      have n0 : (m₂.set 3 (.int x)) 0 = some a := m0
      have n1 : (m₂.set 3 (.int x)) 1 = some (.loc f) := m1
      have n2 : (m₂.set 3 (.int x)) 2 = some (.int y) := m2
      repeat k_caught0
      refine e_attr (.inr rfl) n0 (ka _ kp) ho no ?_
      refine k_ninG (k := (x, y)) (kp.dd ko) ?_
      rw [freeRow_succ _ y x j] at hdd
      by_cases hin : (x, y) ∈ P.map (·.1)
      · rw [dget_some.mpr hin]
        rw [if_pos hin] at hdd
        repeat k_caught0
        refine ⟨trivial, hC2 _ _ ⟨n0, n1, n2, kp, x + 1, j, dn, rfl, sf, by omega, fun k hk => ?_, hdd⟩⟩
        have := hll k hk; omega
      · rw [dget_false hin]
        rw [if_neg hin] at hdd
        repeat k_caught0
        have nin : (x, y) ∉ dn := fun q => by have := hll _ q; omega
        refine ⟨f, trues dn, (x, y), rfl, rfl, sf, by simp [trues]; unfold big; omega, ?_⟩
        rw [dset_new (dget_not nin)]
        repeat k_caught0
        refine ⟨trivial, hC2 _ _ ⟨n0, n1, n2, kp.set nf, x + 1, j, dn ++ [(x, y)], rfl, by rw [Store.set_self]; simp [trues], by simp; omega, fun k hk => ?_, by rw [hdd]; simp⟩⟩
        rcases List.mem_append.mp hk with q | q
        · have := hll k q; omega
        · simp at q; subst q; right; exact ⟨rfl, by omega⟩
end
section
open PySem PyProof.Rows PySem.W
variable {prog : Program} {w : World} {S : Sta prog w} {W : Wd} {X : KX}
theorem k_eqc {σ : Store} {c : Nat} {B : KB} (hc : c < 128) (h : B (c == 35) σ) : cmpV .Eq (.str ⟨#[c]⟩) (.str "#") σ B := by
  refine .eq (da := .str ⟨#[c]⟩) (db := .str "#") rfl rfl ?_ ?_ ?_
  · unfold SeqAt.shaped; rw [char_ok hc]; simp [PyData.depth]
  · rw [s_hash]; unfold SeqAt.shaped; rw [char_ok (by decide)]; simp [PyData.depth]
  · rw [s_hash]
    have : PyData.eqv (.str ⟨#[c]⟩) (.str ⟨#[35]⟩) = (c == 35) := by
      simp only [PyData.eqv, one_eq]
      rw [Bool.eq_iff_iff, beq_iff_eq, beq_iff_eq]; exact eq_comm
    rw [this]; exact h
structure Grid (rs : List Str) (wd : Nat) : Prop where
  ht1 : 1 ≤ rs.length
  ht6 : rs.length ≤ 6
  wd1 : 1 ≤ wd
  wd6 : wd ≤ 6
  len : ∀ r ∈ rs, r.length = wd
  sg : ∀ r ∈ rs, ∀ c ∈ r.cps.toList, c = 35 ∨ c = 46
theorem Grid.ascii {rs : List Str} {wd : Nat} (g : Grid rs wd) {r : Str} (hr : r ∈ rs) : r.cps.all (· < 128) = true := by
  rw [Array.all_eq_true_iff_forall_mem]
  intro c hc
  rcases g.sg r hr c (Array.mem_toList_iff.mpr hc) with rfl | rfl <;> decide
theorem cellsFrom_length {wd : Nat} : ∀ {rs : List Str} {y : Int}, (∀ r ∈ rs, r.length = wd) → (cellsFrom' y rs).length ≤ rs.length * wd
  | [], _, _ => by simp [cellsFrom']
  | r :: rs, y, h => by
    unfold cellsFrom'
    have h1 := cellsFrom_length (wd := wd) (rs := rs) (y := y + 1) fun r hr => h r (.tail _ hr)
    have h2 := rowCells_length (y := y) (l := r.cps.toList) (x := 0)
    have h3 : r.cps.toList.length = wd := by rw [Array.length_toList]; exact h r (.head _)
    rw [List.length_append, List.length_cons, Nat.succ_mul]; omega
theorem Grid.cells {rs : List Str} {wd : Nat} (g : Grid rs wd) : (cellsOf rs).length ≤ 36 := by
  have h1 := cellsFrom_length (y := 0) g.len
  have h2 : rs.length * wd ≤ 6 * 6 := Nat.mul_le_mul g.ht6 g.wd6
  unfold cellsOf; omega
noncomputable def Hangs (P : List Spot) (a : Spot) : Prop := ∀ fs, Comp P a fs → fs.length = P.length
theorem Hangs.of {P : List Spot} {a : Spot} {fs : List Spot} (h : Comp P a fs) (e : fs.length = P.length) : Hangs P a := fun gs g => (g.length h).trans e
theorem to_own : (("texts" : Str) == ("own" : Str)) = false := by decide +kernel
theorem fget_texts {u v : AV} : fget [(("texts" : Str), u), (("own" : Str), v)] (fld 11) = some u := by
  show fget _ "texts" = _; simp [fget]
theorem fget_own {u v : AV} : fget [(("texts" : Str), u), (("own" : Str), v)] (fld 12) = some v := by
  show fget _ "own" = _; simp [fget, List.find?_cons, to_own]
theorem two_ok {u v : AV} : ([(("texts" : Str), u), (("own" : Str), v)] : List (Str × AV)).all (fun p => p.1 == "texts" || p.1 == "own") = true := by simp
noncomputable def floorV (rs : List Str) : AV := .inst [("texts", .list (rs.map .str)), ("own", .dict (trues (cellsOf rs)))]
theorem init_bad {Q : KV} {σ : Store} {x : Addr} {v : AV} (G : Good S W) (hq : S.hx = Option.none) (u36 : W.U 36 = true) (u19 : W.U 19 = true) (hrows : ∀ Q : KV, Q (.bool false) σ → OwnT S W.k 36 [v] σ Q X) (h : X 19 σ) : vcSs S W X [] c_init.body (argsM [.loc x, v]) σ (RetK S Q) := by
  unfold c_init
  repeat k_caught0
  refine hrows _ ?_
  repeat k_caught0
  exact h
structure FloorAt (x dx t o : Addr) (rs : List Str) (σ₀ σ' : Store) (done : List Spot) : Prop where
  sx : σ' x = some (.inst dx)
  sd : σ' dx = some (.attrs [("texts", .loc t), ("own", .loc o)])
  st : σ' t = some (.list (rs.map .str))
  so : σ' o = some (.dict (trues done))
  kp : Keep σ₀ σ'
inductive InitO (x dx t o : Addr) (rs : List Str) (σ₀ : Store) (items : List AV) (m : Vars) (σ' : Store) : Prop
  | mk (m0 : m 0 = some (.loc x)) (m1 : m 1 = some (.list (rs.map .str))) (y : Nat) (rest : List Str) (done : List Spot) (hi : items = enumL y (rest.map .str)) (hs : ∀ r ∈ rest, r ∈ rs) (fl : FloorAt x dx t o rs σ₀ σ' done) (hl : ∀ k ∈ done, k.2 < y) (hd : cellsOf rs = done ++ cellsFrom' y rest) : InitO x dx t o rs σ₀ items m σ'
inductive InitI (x dx t o : Addr) (rs : List Str) (σ₀ : Store) (y : Nat) (row : Str) (done : List Spot) (items : List AV) (m : Vars) (σ' : Store) : Prop
  | mk (m0 : m 0 = some (.loc x)) (m1 : m 1 = some (.list (rs.map .str))) (m2 : m 2 = some (.int y)) (j : Nat) (cs : List Nat) (dn : List Spot) (hi : items = enumL j (cs.map fun c => .str ⟨#[c]⟩)) (hs : ∀ c ∈ cs, c ∈ row.cps.toList) (hz : dn.length + cs.length ≤ done.length + 6)
    (fl : FloorAt x dx t o rs σ₀ σ' dn) (hl : ∀ k ∈ dn, k.2 < y ∨ (k.2 = y ∧ k.1 < j)) (hd : done ++ rowCells y 0 row.cps.toList = dn ++ rowCells y j cs) : InitI x dx t o rs σ₀ y row done items m σ'
theorem init_vc {Q : KV} {σ₀ : Store} {x dx : Addr} {rs : List Str} {wd : Nat} {a : Spot} {P' : List Spot} (G : Good S W) (hq : S.hx = Option.none) (u35 : W.U 35 = true) (u36 : W.U 36 = true) (u20 : W.U 20 = true) (u21 : W.U 21 = true) (g : Grid rs wd)
    (nx : ¬ Dom σ₀ x) (ndx : ¬ Dom σ₀ dx) (ne : x ≠ dx) (hP : cellsOf rs = a :: P')
    (hrows : ∀ σ (Q : KV), Q (.bool true) σ → OwnT S W.k 36 [.list (rs.map .str)] σ Q X)
    (hspread : ∀ (a : Spot) (v : AV) (P : List (Spot × AV)) (σ : Store) (Q : KV), dd σ v = some P → P.length ≤ 1000 → (∀ fs, Comp (P.map (·.1)) a fs → fs.length ≤ 1001 → Q (.dict (trues fs)) σ) → OwnT S W.k 35 [sp a, v] σ Q X)
    (haround : ∀ (σ : Store) (Q : KV) (t o : Addr), σ x = some (.inst dx) → σ dx = some (.attrs [("texts", .loc t), ("own", .loc o)]) → σ t = some (.list (rs.map .str)) → σ o = some (.dict (trues (cellsOf rs))) → Q (.dict (trues (freeOf (cellsOf rs) wd rs.length))) σ → ∃ f, W.M 13 = some f ∧ MethT S W.k f [.loc x] σ Q X)
    (h20 : ¬ Hangs (cellsOf rs) a → ∀ σ', Keep σ₀ σ' → X 20 σ') (h21 : Hangs (cellsOf rs) a → ¬ Hangs (freeOf (cellsOf rs) wd rs.length) (-1, -1) → ∀ σ', Keep σ₀ σ' → X 21 σ')
    (h3 : Hangs (cellsOf rs) a → Hangs (freeOf (cellsOf rs) wd rs.length) (-1, -1) → Q (floorV rs) σ₀) :
    vcSs S W X [] c_init.body (argsM [.loc x, .list (rs.map .str)]) ((σ₀.set dx (.attrs [])).set x (.inst dx)) (RetK S (fun av σ₂ => av = .none ∧ ∀ N, ∃ v' σ₃, View S N (.loc x) σ₂ v' σ₃ ∧ Q v' σ₃)) := by
  unfold c_init
  repeat k_caught0
  refine hrows _ _ ?_
  repeat k_caught0
  refine c_listG rfl (by rw [List.length_map]; have := g.ht6; unfold big; omega) (fr_t fun t nt => ?_)
  have tx : t ≠ x := fun e => nt (by unfold Dom; rw [e, Store.set_self]; simp)
  have td : t ≠ dx := fun e => nt (by unfold Dom; rw [e, Store.set_ne _ _ (Ne.symm ne), Store.set_self]; simp)
  have t0 : ¬ Dom σ₀ t := fun d => nt (by unfold Dom; rw [Store.set_ne _ _ tx, Store.set_ne _ _ td]; exact d)
  repeat k_caught0
  refine ⟨x, dx, [], rfl, by rw [Store.set_ne _ _ (Ne.symm tx), Store.set_self], by rw [Store.set_ne _ _ (Ne.symm td), Store.set_ne _ _ (Ne.symm ne), Store.set_self], by decide, ?_⟩
  repeat k_caught0
  refine fr_t fun o no => ?_
  generalize hσ₁ : (((σ₀.set dx (.attrs [])).set x (.inst dx)).set t (.list (rs.map .str))).set dx (.attrs (fset [] (fld 11) (.loc t))) = σ₁ at no ⊢
  have s1x : σ₁ x = some (.inst dx) := by rw [← hσ₁, Store.set_ne _ _ ne, Store.set_ne _ _ (Ne.symm tx), Store.set_self]
  have s1d : σ₁ dx = some (.attrs [("texts", .loc t)]) := by rw [← hσ₁, Store.set_self]; rfl
  have s1t : σ₁ t = some (.list (rs.map .str)) := by rw [← hσ₁, Store.set_ne _ _ td, Store.set_self]
  have k1 : Keep σ₀ σ₁ := by rw [← hσ₁]; exact ((((Keep.refl σ₀).set ndx).set nx).set t0).set ndx
  have ox : o ≠ x := fun e => no (by unfold Dom; rw [e, s1x]; simp)
  have od : o ≠ dx := fun e => no (by unfold Dom; rw [e, s1d]; simp)
  have ot : o ≠ t := fun e => no (by unfold Dom; rw [e, s1t]; simp)
  have o0 : ¬ Dom σ₀ o := fun d => no (by unfold Dom; rw [k1 o d]; exact d)
  repeat k_caught0
  refine ⟨x, dx, [("texts", .loc t)], rfl, by rw [Store.set_ne _ _ (Ne.symm ox)]; exact s1x, by rw [Store.set_ne _ _ (Ne.symm od)]; exact s1d, Nat.le_of_ble_eq_true rfl, ?_⟩
  generalize hσ₂ : (σ₁.set o (.dict [])).set dx (.attrs (fset [("texts", .loc t)] (fld 12) (.loc o))) = σ₂
  have s2 : FloorAt x dx t o rs σ₀ σ₂ [] := by
    rw [← hσ₂]
    refine ⟨?_, ?_, ?_, ?_, (k1.set o0).set ndx⟩
    · rw [Store.set_ne _ _ ne, Store.set_ne _ _ (Ne.symm ox)]; exact s1x
    · rw [Store.set_self]; rfl
    · rw [Store.set_ne _ _ td, Store.set_ne _ _ (Ne.symm ot)]; exact s1t
    · rw [Store.set_ne _ _ od, Store.set_self]; rfl
  clear hσ₂ hσ₁ s1x s1d s1t k1 no
  have setO : ∀ {σ' : Store} {done : List Spot} {k : Spot}, FloorAt x dx t o rs σ₀ σ' done → FloorAt x dx t o rs σ₀ (σ'.set o (.dict (trues (done ++ [k])))) (done ++ [k]) := by
    rintro σ' done k ⟨h1, h2, h3, h4, h5⟩
    exact ⟨by rw [Store.set_ne _ _ (Ne.symm ox)]; exact h1, by rw [Store.set_ne _ _ (Ne.symm od)]; exact h2, by rw [Store.set_ne _ _ (Ne.symm ot)]; exact h3, Store.set_self .., h5.set o0⟩
  repeat k_caught0
  refine ⟨hq, rs.map .str, rfl, ?_⟩
  rw [enumd_L]
  refine forV_ind (InitO x dx t o rs σ₀) ?_ ?_
    ⟨rfl, rfl, 0, rs, [], rfl, fun zz h => h, s2, by simp, rfl⟩
  · rintro m σ' ⟨m0, m1, y, rest, done, hi, _, s3, _, hd⟩
    obtain rfl : rest = [] := by cases rest with | nil => rfl | cons _ _ => simp [enumL] at hi
    rw [cellsFrom', List.append_nil] at hd
    subst hd
    obtain ⟨sx, sd, stt, so, kp⟩ := s3
    have at_ : attrsOf σ' (.loc x) = some [(("texts" : Str), AV.loc t), (("own" : Str), AV.loc o)] := by simp only [attrsOf, sx, sd]
    have ddo : dd σ' (.loc o) = some (trues (cellsOf rs)) := by simp only [dd, so]
    have lp : (trues (cellsOf rs)).length ≤ 1000 := by have := g.cells; simp [trues]; omega
    repeat k_caught0
    refine e_attr (.inr rfl) m0 at_ fget_own rfl ?_
    repeat k_caught0
    refine c_listDG ddo hq (Nat.le_trans lp (by decide)) ?_
    repeat k_caught0
    refine u_list (x := sp a) rfl (by decide) (by rw [hP]; rfl) (by decide) ?_
    repeat k_caught0
    refine e_attr (.inr rfl) m0 at_ fget_own rfl ?_
    repeat k_caught0
    refine hspread a (.loc o) _ _ _ ddo lp fun f1 c1 l1 => ?_
    rw [trues_keys] at c1
    repeat k_caught0
    refine c_lenD (by simp [trues]; unfold big; omega) ?_
    repeat k_caught0
    refine e_attr (.inr rfl) m0 at_ fget_own rfl ?_
    repeat k_caught0
    refine c_lenDG ddo (Nat.le_trans lp (by decide)) ?_
    repeat k_caught0
    have tl : ∀ fs : List Spot, (trues fs).length = fs.length := fun fs => by simp [trues]
    rw [tl, tl]
    by_cases e1 : f1.length = (cellsOf rs).length
    · have hg1 := Hangs.of c1 e1
      rw [e1, show (!((((cellsOf rs).length : Nat) : Int) == (((cellsOf rs).length : Nat) : Int))) = false by simp]
      repeat k_caught0
      obtain ⟨f0, hM0, _⟩ := haround σ' (fun zz zz => True) t o sx sd stt so trivial
      refine o_own (by decide) (by rw [hM0]; rfl) at_ two_ok ?_
      repeat k_caught0
      refine m_own (by decide) (haround σ' _ t o sx sd stt so ?_)
      repeat k_caught0
      have fl : (freeOf (cellsOf rs) wd rs.length).length ≤ 64 := by
        have h1 := freeFrom_length (P := cellsOf rs) (wd := wd + 2) (n := rs.length + 2) (y := -1)
        have h2 : (rs.length + 2) * (wd + 2) ≤ 8 * 8 := Nat.mul_le_mul (by have := g.ht6; omega) (by have := g.wd6; omega)
        unfold freeOf; omega
      refine hspread (-1, -1) (.dict (trues (freeOf (cellsOf rs) wd rs.length))) (trues (freeOf (cellsOf rs) wd rs.length)) _ _ rfl (by rw [tl]; omega) fun f2 c2 l2 => ?_
      rw [trues_keys] at c2
      repeat k_caught0
      refine c_lenD (by rw [tl]; unfold big; omega) ?_
      repeat k_caught0
      refine c_lenD (by rw [tl]; unfold big; omega) ?_
      repeat k_caught0
      rw [tl, tl]
      by_cases e2 : f2.length = (freeOf (cellsOf rs) wd rs.length).length
      · have hg2 := Hangs.of c2 e2
        rw [e2, show (!((((freeOf (cellsOf rs) wd rs.length).length : Nat) : Int) == (((freeOf (cellsOf rs) wd rs.length).length : Nat) : Int))) = false by simp]
        repeat k_caught0
        refine fun N => ⟨.none, σ', View.same, rfl, fun N => ⟨_, σ₀, (View.inst sx sd (.cons (.list stt) (.cons (.dict so) .nil))).trans (View.drop fun b ob e => ?_), h3 hg1 hg2⟩⟩
        have db : Dom σ₀ b := by unfold Dom; rw [e]; simp
        unfold Store.dels
        rw [if_neg ?_, kp b db]; exact e
        intro q
        simp only [List.mem_cons, List.mem_append, List.not_mem_nil, or_false] at q
        rcases q with rfl | rfl | rfl | rfl
        · exact nx db
        · exact ndx db
        · exact t0 db
        · exact o0 db
      · rw [show (!(((f2.length : Nat) : Int) == (((freeOf (cellsOf rs) wd rs.length).length : Nat) : Int))) = true by simp; omega]
        repeat k_caught0
        exact h21 hg1 (fun hh => e2 (hh f2 c2)) _ kp
    · rw [show (!(((f1.length : Nat) : Int) == (((cellsOf rs).length : Nat) : Int))) = true by simp; omega]
      repeat k_caught0
      exact h20 (fun hh => e1 (hh f1 c1)) _ kp
  · rintro x' r' m σ' ⟨m0, m1, y, rest, done, hi, hsub, s3, hlt, hd⟩ C hC
    cases rest with
    | nil => simp [enumL] at hi
    | cons row rest =>
    simp only [List.map_cons, enumL, List.cons.injEq] at hi
    obtain ⟨rfl, rfl⟩ := hi
    have hrow : row ∈ rs := hsub row (.head _)
    have hlen : done.length ≤ 36 := by have := g.cells; rw [hd] at this; simp at this; omega
    repeat k_caught0
    refine ⟨hq, g.ascii hrow, ?_⟩
    rw [enumd_L]
    refine forV_ind (InitI x dx t o rs σ₀ y row done) ?_ ?_
      ⟨m0, m1, rfl, 0, row.cps.toList, done, rfl, fun zz h => h, by have h1 := g.len row hrow; have h2 : row.cps.toList.length = row.length := Array.length_toList; have := g.wd6; omega, s3, fun k hk => .inl (hlt k hk), rfl⟩
    · rintro m₂ σ₂ ⟨n0, n1, n2, j, cs, dn, hi, _, _, s4, hll, hdd⟩
      obtain rfl : cs = [] := by cases cs with | nil => rfl | cons _ _ => simp [enumL] at hi
      rw [show rowCells (y : Int) (j : Int) [] = [] from rfl, List.append_nil] at hdd
      repeat k_caught0
      refine ⟨trivial, hC _ _ ⟨n0, n1, y + 1, rest, dn, rfl, fun r hr => hsub r (.tail _ hr), s4, fun k hk => ?_, ?_⟩⟩
      · have : k ∈ done ++ rowCells y 0 row.cps.toList := by rw [hdd]; exact hk
        rcases List.mem_append.mp this with q | q
        · have := hlt k q; omega
        · have := rowCells_at q; omega
      · rw [hd, cellsFrom', ← List.append_assoc, hdd]; rfl
    · rintro x2 r2 m₂ σ₂ ⟨n0, n1, n2, j, cs, dn, hi, hcs, hzz, s4, hll, hdd⟩ C2 hC2
      cases cs with
      | nil => simp [enumL] at hi
      | cons c cs =>
      simp only [List.map_cons, enumL, List.cons.injEq] at hi
      obtain ⟨rfl, rfl⟩ := hi
      have hc : c < 128 := by rcases g.sg row hrow c (hcs c (.head _)) with rfl | rfl <;> decide
      have ea : attrsOf σ₂ (.loc x) = some [(("texts" : Str), AV.loc t), (("own" : Str), AV.loc o)] := by simp only [attrsOf, s4.sx, s4.sd]
      repeat k_caught0
      refine k_eqc hc ?_
      rw [rowCells_cons (y : Int) (j : Int) c cs] at hdd
      by_cases h35 : (c == 35) = true
      · rw [h35]
        rw [if_pos h35] at hdd
        repeat k_caught0
        refine e_attr (.inr rfl) n0 ea fget_own rfl ?_
        repeat k_caught0
        have nin : ((j : Int), (y : Int)) ∉ dn := fun q => by have := hll _ q; omega
        refine ⟨o, trues dn, ((j : Int), (y : Int)), rfl, rfl, s4.so, by simp [trues]; have := hlen; unfold big; omega, ?_⟩
        rw [dset_new (dget_not nin), show trues dn ++ [(((j : Int), (y : Int)), AV.bool true)] = trues (dn ++ [((j : Int), (y : Int))]) by simp [trues]]
        repeat k_caught0
        refine ⟨trivial, hC2 _ _ ⟨n0, n1, n2, j + 1, cs, dn ++ [((j : Int), (y : Int))], rfl, fun c hc => hcs c (.tail _ hc), by simp at hzz ⊢; omega, setO s4, fun k hk => ?_, by rw [hdd]; simp⟩⟩
        rcases List.mem_append.mp hk with q | q
        · have := hll k q; omega
        · simp at q; subst q; right; exact ⟨rfl, by show (j : Int) < ((j + 1 : Nat) : Int); omega⟩
      · rw [Bool.eq_false_iff.mpr h35]
        rw [if_neg h35] at hdd
        repeat k_caught0
        refine ⟨trivial, hC2 _ _ ⟨n0, n1, n2, j + 1, cs, dn, rfl, fun c hc => hcs c (.tail _ hc), by simp at hzz ⊢; omega, s4, fun k hk => ?_, hdd⟩⟩
        have := hll k hk; omega
end
section
open PySem PySem.Builtin PySem.Builtin.Str
theorem pick_range (L : List Nat) (a : Nat) : ∀ k, a + k ≤ L.length → (List.range k).filterMap (fun i => L[a + i]?) = (L.drop a).take k
  | 0, _ => by simp
  | k + 1, h => by
    rw [List.range_succ, List.filterMap_append, pick_range L a k (by omega), List.take_add_one]
    congr 1
    simp only [List.filterMap_cons, List.filterMap_nil, List.getElem?_drop]
    cases L[a + k]? <;> rfl
set_option tactic.hygienic true in
theorem slice_toList {x : Str} {l u : Option Int} {a k : Nat} (h : strSliceIndices l u 1 x.length = (List.range k).map (fun i => a + i)) (hk : a + k ≤ x.length) : (Txt.slice x l u).cps.toList = (x.cps.toList.drop a).take k := by
  have hl : x.cps.toList.length = x.length := Array.length_toList
  unfold Txt.slice
  rw [h]
  split
  · rename_i q
    simp at q
    have : a = 0 := by omega
    subst this
    rw [List.drop_zero, List.take_of_length_le (by omega)]
  · rw [List.filterMap_map]
    have := pick_range x.cps.toList a k (by omega)
    simpa [Function.comp_def] using this
theorem sliceRange_one (a b : Nat) (h : a ≤ b) : sliceRange (a : Int) (b : Int) 1 = (List.range (b - a)).map (fun i => a + i) := by
  unfold sliceRange
  simp only [show (1 : Int) > 0 by decide, if_true]
  have e : (if (a : Int) < (b : Int) then ((b : Int) - a + 1 - 1) / 1 else 0).toNat = b - a := by
    split
    · rw [Int.ediv_one]; omega
    · omega
  rw [e]
  apply List.map_congr_left
  intro i _
  omega
theorem slice_take {x : Str} {b : Int} (h0 : 0 ≤ b) (hb : b ≤ x.length) : (Txt.slice x Option.none (some b)).cps.toList = x.cps.toList.take b.toNat := by
  have e := slice_toList (x := x) (l := Option.none) (u := some b) (a := 0) (k := b.toNat) (by
    unfold strSliceIndices
    simp only [show (1 : Int) > 0 by decide, if_true]
    have e1 : max 0 (min (if b < 0 then b + (x.length : Int) else b) (x.length : Int)) = ((b.toNat : Nat) : Int) := by rw [if_neg (by omega)]; omega
    rw [e1]
    have := sliceRange_one 0 b.toNat (Nat.zero_le _)
    simpa using this) (by omega)
  simpa using e
theorem slice_last {x : Str} (h1 : 1 ≤ x.length) : (Txt.slice x Option.none (some (-1))).cps.toList = x.cps.toList.take (x.length - 1) := by
  have e := slice_toList (x := x) (l := Option.none) (u := some (-1)) (a := 0) (k := x.length - 1) (by
    unfold strSliceIndices
    simp only [show (1 : Int) > 0 by decide, if_true]
    have e1 : max 0 (min (if (-1 : Int) < 0 then -1 + (x.length : Int) else -1) (x.length : Int)) = ((x.length - 1 : Nat) : Int) := by rw [if_pos (by decide)]; omega
    rw [e1]
    have := sliceRange_one 0 (x.length - 1) (Nat.zero_le _)
    simpa using this) (by omega)
  simpa using e
theorem slice_drop {x : Str} {a : Int} (h0 : 0 ≤ a) (ha : a ≤ x.length) : (Txt.slice x (some a) Option.none).cps.toList = x.cps.toList.drop a.toNat := by
  have hl : x.cps.toList.length = x.length := Array.length_toList
  have e := slice_toList (x := x) (l := some a) (u := Option.none) (a := a.toNat) (k := x.length - a.toNat) (by
    unfold strSliceIndices
    simp only [show (1 : Int) > 0 by decide, if_true]
    have e1 : max 0 (min (if a < 0 then a + (x.length : Int) else a) (x.length : Int)) = ((a.toNat : Nat) : Int) := by rw [if_neg (by omega)]; omega
    rw [e1]
    exact sliceRange_one a.toNat x.length (by omega)) (by omega)
  rw [e, List.take_of_length_le (by rw [List.length_drop, hl]; exact Nat.le_refl _)]
theorem app_toList (x y : Str) : (x ++ y).cps.toList = x.cps.toList ++ y.cps.toList := by
  show (Str.append x y).cps.toList = _
  unfold Str.append
  simp
theorem app_len (x y : Str) : (x ++ y).length = x.length + y.length := by
  show (Str.append x y).cps.size = x.cps.size + y.cps.size
  unfold Str.append
  simp
theorem fold_toList (b : Array Nat) : ∀ (n : Nat) (a : Array Nat), ((List.replicate n b).foldl (· ++ ·) a).toList = a.toList ++ (List.replicate n b.toList).flatten
  | 0, a => by simp
  | n + 1, a => by
    rw [List.replicate_succ, List.foldl_cons, fold_toList b n]
    simp [List.replicate_succ]
set_option tactic.hygienic true in
theorem mul_toList (x : Str) (n : Int) : (Txt.mul x n).cps.toList = (List.replicate n.toNat x.cps.toList).flatten := by
  unfold Txt.mul
  split
  · rw [show n.toNat = 0 by omega]; rfl
  · split
    · rename_i q
      rw [Bool.or_eq_true, beq_iff_eq, beq_iff_eq] at q
      rcases q with rfl | q
      · simp
      · have : x.cps.toList = [] := by
          have h : x.cps.size = 0 := q
          rw [← List.length_eq_zero_iff, Array.length_toList]; exact h
        rw [this]; simp
    · rw [fold_toList]; simp
theorem mul_one (c : Nat) (n : Int) : (Txt.mul ⟨#[c]⟩ n).cps.toList = List.replicate n.toNat c := by
  rw [mul_toList]; simp [List.flatten_replicate_singleton]
theorem mul_ok {x : Str} {n : Int} (hx : x.length ≤ 100) (h1 : n ≤ 100) (h0 : -100 ≤ n) : MulOk x n := by
  refine ⟨?_, fun h1' zz => ?_, fun h1' zz => ?_⟩
  · simp; omega
  · have : (2 ^ 63 - 1) / n ≥ 92233720368547758 := by
      have : (92233720368547758 : Int) ≤ (2 ^ 63 - 1) / n := by
        rw [Int.le_ediv_iff_mul_le (by omega)]
        have : 92233720368547758 * n ≤ 92233720368547758 * 100 := Int.mul_le_mul_of_nonneg_left h1 (by decide)
        omega
      exact this
    omega
  · unfold tooLong
    have : x.length * n.toNat ≤ 100 * 100 := Nat.mul_le_mul hx (by omega)
    simp [sizeLine]; omega
theorem glued_toList (ys : List Str) : (Txt.join "" ys).cps.toList = (ys.map (·.cps.toList)).flatten := by
  have he : ("" : Str).cps = #[] := by decide +kernel
  have key : ∀ (l : List Str) (a : Array Nat), (l.foldl (fun acc p => acc ++ ("" : Str).cps ++ p.cps) a).toList = a.toList ++ (l.map (·.cps.toList)).flatten := by
    intro l
    induction l with
    | nil => intro a; simp
    | cons p l ih => intro a; rw [List.foldl_cons, ih, he]; simp
  unfold Txt.join glued
  cases ys with
  | nil => rfl
  | cons y r => simp only [List.headD_cons, List.drop_one, List.tail_cons]; rw [key]; simp
end
section
open PySem PyProof.Rows PySem.W
variable {prog : Program} {w : World} {S : Sta prog w} {W : Wd} {X : KX}
noncomputable def c_cell_at : FnCore := ⟨[192524121870682778597944489011036038917448218529394060437475033184, 4381002331299926544718449986240608], 2, [.ite (.cmp .Lt (.v 1) (.call (.g 0) [(.v 0)])) [.ret (.sub (.v 0) (.v 1))] [], .ret (.int 0)]⟩
noncomputable def c_mixed : FnCore := ⟨[189233104125022861345122375117010683388186817415792500651818221664, 4381002331299926544718449986240608], 2, [.ret (.bin .Mod (.bin .Add (.bin .Add (.bin .Mult (.v 0) (.int 48271)) (.bin .Mult (.int 7919) (.v 1))) (.int 11)) (.int 2147483647))]⟩
noncomputable def c_cells : FnCore := ⟨[43400774030903411559313583009360306713791419551580256, 79248450939308422951359488504115116927624233569666205745248, 4948909800202173316588973022249056, 4908344980994869975741078519677024], 1, [.assign (.v 1) (.list []), .for_ (.v 2) (.call (.g 8) [(.call (.g 0) [(.v 0)])]) [.assign (.v 1) (.bin .Add (.v 1) (.comp (.tup [(.v 3), (.v 2)]) 3 (.call (.g 8) [(.call (.g 0) [(.sub (.v 0) (.v 2))])]) [(.cmp .Eq (.sub (.sub (.v 0) (.v 2)) (.v 3)) (.str "#"))]))], .ret (.v 1)]⟩
noncomputable def c_hangs : FnCore := ⟨[190878608682344441529555628706020909772426171509793698796850380896, 79248450939308422951359488504115116927624233569666205745248, 9953263207791589283196843506884180705376, 4908344980994869975741078519677024, 4948909800202173316588973022249056, 90233375608933022600596502592366504807846208770953298575456], 1, [.assign (.v 1) (.slice (.v 0) .none (.int 1) .none), .assign (.v 2) (.int 0), .while_ (.cmp .Lt (.v 2) (.call (.g 0) [(.v 1)])) [.assign (.tup [(.v 3), (.v 4)]) (.sub (.v 1) (.v 2)), .assign (.v 2) (.bin .Add (.v 2) (.int 1)), .for_ (.v 5) (.list [(.tup [(.bin .Add (.v 3) (.int 1)), (.v 4)]), (.tup [(.bin .Sub (.v 3) (.int 1)), (.v 4)]), (.tup [(.v 3), (.bin .Add (.v 4) (.int 1))]), (.tup [(.v 3), (.bin .Sub (.v 4) (.int 1))])]) [.ite (.and [(.cmp .In (.v 5) (.v 0)), (.cmp .NotIn (.v 5) (.v 1))]) [.expr (.meth (.v 1) 0 [(.v 5)])] []]], .ret (.cmp .Eq (.call (.g 0) [(.v 1)]) (.call (.g 0) [(.v 0)]))]⟩
noncomputable def c_due : FnCore := ⟨[43400774030903411559313583009360306713791419551580256, 3246527832650408233975027202027361740652525422007045942568833603673851803516606371401302112, 38162748951402402123350257061121674550761340251668576, 4948909800202173316588973022249056, 4908344980994869975741078519677024], 1, [.assign (.v 1) (.call (.g 77) [(.v 0)]), .ite (.cmp .Eq (.v 1) (.list [])) [.ret (.int 0)] [], .ite (.not (.call (.g 80) [(.v 1)])) [.ret (.int 1)] [], .assign (.v 2) (.list []), .for_ (.v 3) (.call (.g 8) [(.neg (.int 1)), (.bin .Add (.call (.g 0) [(.v 0)]) (.int 1))]) [.assign (.v 2) (.bin .Add (.v 2) (.comp (.tup [(.v 4), (.v 3)]) 4 (.call (.g 8) [(.neg (.int 1)), (.bin .Add (.call (.g 0) [(.sub (.v 0) (.int 0))]) (.int 1))]) [(.cmp .NotIn (.tup [(.v 4), (.v 3)]) (.v 1))]))], .ret (.ite (.call (.g 80) [(.v 2)]) (.int 3) (.int 2))]⟩
theorem at_vc {Q : KV} {l : List Int} {j : Nat} {σ : Store} (G : Good S W) (hl : l.length ≤ 1000) (h : Q (.int (l.getD j 0)) σ) : vcSs S W X [] c_cell_at.body (argsM [.nums l, .int j]) σ (RetK S Q) := by
  unfold c_cell_at
  repeat k_caught0
  refine .lenN (Nat.le_trans hl (by decide)) ?_
  repeat k_caught0
  by_cases hj : j < l.length
  · rw [if_pos (by simp; omega)]
    repeat k_caught0
    exact .nums (x := l.getD j 0) (by omega) (by omega) (by simp [List.getD, hj]) (RetK.val h)
  · rw [if_neg (by simp; omega)]
    repeat k_caught0
    refine RetK.val ?_
    have : l.getD j 0 = 0 := by simp [List.getD]; rw [List.getElem?_eq_none (by omega)]; rfl
    rw [this] at h; exact h
theorem mixed_vc {Q : KV} {a b : Int} {σ : Store} (h : Q (.int ((a * 48271 + 7919 * b + 11).fmod 2147483647)) σ) : vcSs S W X [] c_mixed.body (argsM [.int a, .int b]) σ (RetK S Q) := by
  unfold c_mixed
  repeat k_caught0
  refine b_mul (IntMulOk.of_right (by decide +kernel)) ?_
  repeat k_caught0
  refine b_mul (IntMulOk.of_left (by decide +kernel)) ?_
  repeat k_caught0
  exact b_mod (by decide) (RetK.val h)
theorem cells_vc {Q : KV} {rs : List Str} {wd : Nat} {σ : Store} (G : Good S W) (g : Grid rs wd) (h : Q (.list ((cellsOf rs).map sp)) σ) : vcSs S W X [] c_cells.body (argsM [.list (rs.map .str)]) σ (RetK S Q) := by
  unfold c_cells
  have hl : rs.length ≤ 6 := g.ht6
  repeat k_caught0
  refine c_lenL (by rw [List.length_map]; unfold big; omega) ?_
  repeat k_caught0
  rw [List.length_map]
  refine i_rng (by decide) (by decide) (by omega) (by omega) ?_
  rw [show ((rs.length : Int) - 0).toNat = rs.length by omega]
  refine forV_ind (fun items m σ' => σ = σ' ∧ m 0 = some (.list (rs.map .str)) ∧ ∃ (dr rest : List Str) (done : List Spot), rs = dr ++ rest ∧ items = intsA dr.length rest.length ∧ m 1 = some (.list (done.map sp)) ∧ cellsOf rs = done ++ cellsFrom' dr.length rest) ?_ ?_
    ⟨rfl, rfl, [], rs, [], rfl, rfl, rfl, rfl⟩
  · rintro m σ' ⟨rfl, m0, dr, rest, done, hr, hi, m1, hd⟩
    obtain rfl : rest = [] := by cases rest with | nil => rfl | cons _ _ => simp [intsA] at hi
    rw [cellsFrom', List.append_nil] at hd
    subst hd
    repeat k_caught0
    exact RetK.val h
  · rintro x r m σ' ⟨rfl, m0, dr, rest, done, hr, hi, m1, hd⟩ C hC
    cases rest with
    | nil => simp [intsA] at hi
    | cons row rest =>
    simp only [List.length_cons, intsA, List.cons.injEq] at hi
    obtain ⟨rfl, rfl⟩ := hi
    have hrow : row ∈ rs := by rw [hr]; simp
    have hat : (rs.map AV.str)[(dr.length : Int).toNat]? = some (.str row) := by rw [hr]; simp
    have hlr : row.length = wd := g.len row hrow
    have hwd := g.wd6
    have hdl : done.length ≤ 36 := by have := g.cells; rw [hd] at this; simp at this; omega
    have n0 : (m.set 2 (.int dr.length)) 0 = some (.list (rs.map .str)) := m0
    have n1 : (m.set 2 (.int dr.length)) 1 = some (.list (done.map sp)) := m1
    have drl : dr.length ≤ 6 := by rw [hr] at hl; simp at hl; omega
    repeat k_caught0
    first | refine s_assignC rfl ?_ | refine e_comp rfl ?_
    repeat k_caught0
    refine u_list rfl (by omega) hat (by omega) ?_
    repeat k_caught0
    refine c_lenS (by unfold big; omega) ?_
    repeat k_caught0
    refine i_rng (by decide) (by decide) (by omega) (by omega) ?_
    rw [show ((row.length : Int) - 0).toNat = row.length by omega]
    refine ⟨by rw [intsA_length]; unfold big; omega, ?_⟩
    refine compV_ind (fun items ys σ' => σ = σ' ∧ ∃ (dc cs : List Nat), row.cps.toList = dc ++ cs ∧ items = intsA dc.length cs.length ∧ ∃ dn : List Spot, ys = dn.map sp ∧ rowCells dr.length 0 row.cps.toList = dn ++ rowCells dr.length dc.length cs) ?_ ?_
      ⟨rfl, [], row.cps.toList, rfl, by have : row.cps.toList.length = row.length := Array.length_toList; rw [this]; rfl, [], rfl, rfl⟩
    · rintro ys σ' ⟨rfl, dc, cs, hcs, hi, dn, rfl, hdn⟩
      obtain rfl : cs = [] := by cases cs with | nil => rfl | cons _ _ => simp [intsA] at hi
      rw [show rowCells (dr.length : Int) (dc.length : Int) [] = [] from rfl, List.append_nil] at hdn
      subst hdn
      have hrl : (rowCells (dr.length : Int) 0 row.cps.toList).length ≤ 6 := by
        have h1 := rowCells_length (y := dr.length) (l := row.cps.toList) (x := 0)
        have h2 : row.cps.toList.length = row.length := Array.length_toList
        omega
      repeat k_caught0
      refine b_addl rfl rfl (by simp; unfold big; omega) ?_
      repeat k_caught0
      refine ⟨trivial, hC _ _ ⟨rfl, m0, dr ++ [row], rest, done ++ rowCells dr.length 0 row.cps.toList, by rw [hr]; simp, ?_, ?_, ?_⟩⟩
      · simp
      · show some _ = some _; simp
      · rw [hd, cellsFrom']; simp
    · rintro x2 r2 ys σ' ⟨rfl, dc, cs, hcs, hi, dn, rfl, hdn⟩ C2 hC2
      cases cs with
      | nil => simp [intsA] at hi
      | cons c cs =>
      simp only [List.length_cons, intsA, List.cons.injEq] at hi
      obtain ⟨rfl, rfl⟩ := hi
      have hc : c < 128 := by rcases g.sg row hrow c (by rw [hcs]; simp) with rfl | rfl <;> decide
      have hcat : row.cps[(dc.length : Int).toNat]? = some c := by
        have : row.cps.toList[dc.length]? = some c := by rw [hcs]; simp
        simpa using this
      have dcl : dc.length ≤ 6 := by
        have h2 : row.cps.toList.length = row.length := Array.length_toList
        rw [hcs] at h2; simp at h2; omega
      repeat k_caught0
      refine u_list rfl (by omega) hat (by omega) ?_
      repeat k_caught0
      refine .str (by omega) (by omega) hcat ?_
      repeat k_caught0
      refine k_eqc hc ?_
      rw [rowCells_cons (dr.length : Int) (dc.length : Int) c cs] at hdn
      by_cases h35 : (c == 35) = true
      · rw [h35]
        rw [if_pos h35] at hdn
        repeat k_caught0
        exact ⟨trivial, hC2 _ _ ⟨rfl, dc ++ [c], cs, by rw [hcs]; simp, by simp, dn ++ [((dc.length : Int), (dr.length : Int))], by simp, by rw [hdn]; simp⟩⟩
      · rw [Bool.eq_false_iff.mpr h35]
        rw [if_neg h35] at hdn
        repeat k_caught0
        exact ⟨trivial, hC2 _ _ ⟨rfl, dc ++ [c], cs, by rw [hcs]; simp, by simp, dn, rfl, by rw [hdn]; simp⟩⟩
noncomputable def spPy (k : Spot) : PyData := .tuple [.int k.1, .int k.2]
theorem toPyL_sp (P : List Spot) : toPyL (P.map sp) = some (P.map spPy) := by
  induction P with
  | nil => rfl
  | cons k P ih =>
    rw [List.map_cons, List.map_cons]
    show (toPy (sp k)).bind (fun d => (toPyL (P.map sp)).map fun ds => d :: ds) = _
    rw [ih]; rfl
theorem eqv_sp (a b : Spot) : PyData.eqv (spPy a) (spPy b) = decide (a = b) := by
  obtain ⟨a1, a2⟩ := a
  obtain ⟨b1, b2⟩ := b
  simp only [spPy, PyData.eqv, PyData.eqvAll, Bool.and_true]
  rw [Bool.eq_iff_iff]
  simp
theorem any_sp (P : List Spot) (k : Spot) : ((P.map spPy).any fun y => PyData.eqv y (spPy k)) = decide (k ∈ P) := by
  induction P with
  | nil => rfl
  | cons a P ih =>
    rw [List.map_cons, List.any_cons, ih, eqv_sp, ← Bool.decide_or]
    refine decide_eq_decide.mpr ?_
    rw [List.mem_cons]
    exact ⟨fun q => q.imp Eq.symm id, fun q => q.imp Eq.symm id⟩
theorem lay_sp (P : List Spot) : PyData.canLayAll0 (P.map spPy) = true := by
  induction P with
  | nil => rfl
  | cons a P ih => rw [List.map_cons]; simp only [PyData.canLayAll0, PyData.canLay0, spPy, Bool.true_and]; exact ih
theorem toPyS_P {σ : Store} {a : AV} {P : List Spot} (h : dl σ a = some (P.map sp)) : toPyS σ a = some (.list (P.map spPy)) := by
  cases a with
  | list l => cases h; show (toPyL _).map _ = _; rw [toPyL_sp]; rfl
  | loc ad => show (dl σ (.loc ad)).bind _ = _; rw [h]; show (toPyL _).map _ = _; rw [toPyL_sp]; rfl
  | _ => cases h
theorem k_inP {σ : Store} {a : AV} {P : List Spot} {k : Spot} {B : KB} (h : dl σ a = some (P.map sp)) (hB : B (decide (k ∈ P)) σ) : cmpV .In (.tup [.int k.1, .int k.2]) a σ B :=
  .inL (d := spPy k) (xs := P.map spPy) rfl (by unfold seqPy; rw [toPyS_P h]) (lay_sp P) (by simp [spPy, PyData.canLay0, PyData.canLayAll0]) (by simp [spPy, PyData.depth, PyData.depthAll]) (by rw [any_sp]; exact hB)
theorem k_ninP {σ : Store} {a : AV} {P : List Spot} {k : Spot} {B : KB} (h : dl σ a = some (P.map sp)) (hB : B (!(decide (k ∈ P))) σ) : cmpV .NotIn (.tup [.int k.1, .int k.2]) a σ B :=
  .ninL (d := spPy k) (xs := P.map spPy) rfl (by unfold seqPy; rw [toPyS_P h]) (lay_sp P) (by simp [spPy, PyData.canLay0, PyData.canLayAll0]) (by simp [spPy, PyData.depth, PyData.depthAll]) (by rw [any_sp]; exact hB)
theorem hangs_vc {Q : KV} {a : Spot} {P' : List Spot} {σ : Store} (G : Good S W) (hq : S.hx = Option.none) (hP : P'.length ≤ 1000) (h : ∀ fs, Comp (a :: P') a fs → Q (.bool (decide (fs.length = (a :: P').length))) σ) :
    vcSs S W X [1] c_hangs.body (argsM [.list ((a :: P').map sp)]) σ (RetK S Q) := by
  unfold c_hangs
  generalize hPP : a :: P' = P at h ⊢
  have lP : P.length ≤ 1001 := by rw [← hPP]; simp; omega
  repeat k_caught0
  refine ⟨P.map sp, [sp a], rfl, by simp; unfold big; omega, by simp [cut, ← hPP], fr_ct (by decide) fun f nf => ?_⟩
  repeat k_caught0
  refine s_while (fun n m σ' => ∃ fs t, n = P.length + 1 - t ∧ m 0 = some (.list (P.map sp)) ∧ m 1 = some (.loc f) ∧ m 2 = some (.int ((t : Nat) : Int)) ∧ Keep σ σ' ∧ σ' f = some (.list (fs.map sp)) ∧ Bfs P a fs t) (P.length + 1) ⟨[a], 0, rfl, rfl, rfl, rfl, (Keep.refl σ).set nf, Store.set_self .., Bfs.start _ _⟩ ?_
  rintro n m σ₁ ⟨fs, t, hn, m0, m1, m2, kp, sf, D⟩
  have lf : fs.length ≤ 1002 := by have := size_ok D.nd D.rc; omega
  repeat k_caught0
  refine c_lenLl sf (by simp; unfold big; omega) ?_
  repeat k_caught0
  by_cases ht : t < fs.length
  · obtain ⟨e, he⟩ : ∃ e, fs[t]? = some e := ⟨_, List.getElem?_eq_getElem ht⟩
    rw [if_pos (by simp; omega)]
    repeat k_caught0
    refine u_list (l := fs.map sp) (x := sp e) (by simp only [dl, sf]) (by omega) (by simp [he]) (by omega) ?_
    repeat k_caught0
    refine forV_ind (fun items m σ' => m 0 = some (.list (P.map sp)) ∧ m 1 = some (.loc f) ∧ m 2 = some (.int ((t + 1 : Nat) : Int)) ∧ Keep σ σ' ∧ ∃ fs r, items = r.map sp ∧ σ' f = some (.list (fs.map sp)) ∧ BfsAt P a fs t e r) ?_ ?_
      ⟨m0, m1, by show some _ = some _; simp, kp, fs, nearR e, rfl, sf, D.here he⟩
    · rintro m₂ σ₂ ⟨n0, n1, n2, kp, fs, r, hr, sf, D⟩
      obtain rfl : r = [] := by cases r with | nil => rfl | cons _ _ => simp at hr
      have lt : t + 1 ≤ fs.length := D.done.tl
      have l2 := size_ok D.nd D.rc
      repeat k_caught0
      exact ⟨P.length + 1 - (t + 1), by omega, fs, t + 1, rfl, n0, n1, n2, kp, sf, D.done⟩
    · rintro x r' m₂ σ₂ ⟨n0, n1, n2, kp, fs, r, hr, sf, D⟩ C hC
      cases r with
      | nil => simp at hr
      | cons c r =>
      simp only [List.map_cons, List.cons.injEq] at hr
      obtain ⟨rfl, rfl⟩ := hr
      have lf : fs.length ≤ 1002 := by have := size_ok D.nd D.rc; omega
      have n0' : (m₂.set 5 (sp c)) 0 = some (.list (P.map sp)) := n0
      have n1' : (m₂.set 5 (sp c)) 1 = some (.loc f) := n1
      have n2' : (m₂.set 5 (sp c)) 2 = some (.int ((t + 1 : Nat) : Int)) := n2
      repeat k_caught0
      refine k_inP (k := c) (P := P) rfl ?_
      by_cases hin : c ∈ P
      · rw [decide_eq_true hin]
        repeat k_caught0
        refine k_ninP (k := c) (P := fs) (by simp only [dl, sf]) ?_
        by_cases hf : c ∈ fs
        · rw [decide_eq_true hf]
          repeat k_caught0
          exact ⟨trivial, hC _ _ ⟨n0', n1', n2', kp, fs, r, rfl, sf, D.skip fun q => q.2 hf⟩⟩
        · rw [decide_eq_false hf]
          repeat k_caught0
          refine o_list sf ?_ 0 (.inl rfl)
          repeat k_caught0
          refine m_append sf (by simp; unfold big; omega) ?_
          repeat k_caught0
          exact ⟨trivial, hC _ _ ⟨n0', n1', n2', kp.set nf, fs ++ [c], r, rfl, by rw [Store.set_self]; simp, D.push hin hf⟩⟩
      · rw [decide_eq_false hin]
        repeat k_caught0
        exact ⟨trivial, hC _ _ ⟨n0', n1', n2', kp, fs, r, rfl, sf, D.skip fun q => hin q.1⟩⟩
  · rw [if_neg (by simp; omega)]
    repeat k_caught0
    refine c_lenLl sf (by simp; unfold big; omega) ?_
    repeat k_caught0
    refine c_lenL (by simp; unfold big; omega) ?_
    repeat k_caught0
    refine RetK.back kp ?_
    have := h fs (D.end_ ht)
    have e : (((fs.map sp).length : Int) == ((P.map sp).length : Int)) = decide (fs.length = P.length) := by
      rw [Bool.eq_iff_iff]; simp; omega
    rw [e]; exact this
end
section
open PySem PyProof.Rows PySem.W
variable {prog : Program} {w : World} {S : Sta prog w} {W : Wd} {X : KX}
theorem depth_P (P : List Spot) : PyData.depthAll (P.map spPy) ≤ 2 := by
  induction P with
  | nil => simp [PyData.depthAll]
  | cons a P ih => rw [List.map_cons]; simp only [PyData.depthAll, PyData.depth, spPy]; simp; omega
theorem shaped_P (P : List Spot) : SeqAt.shaped (.list (P.map spPy)) = true := by
  unfold SeqAt.shaped
  have := depth_P P
  simp only [PyData.canLay0, lay_sp, PyData.depth, Bool.true_and]
  exact decide_eq_true (by omega)
theorem k_eqP {σ : Store} {a b : AV} {P R : List Spot} {B : KB} (ha : dl σ a = some (P.map sp)) (hb : dl σ b = some (R.map sp)) (h : B (decide (P = R)) σ) : cmpV .Eq a b σ B := by
  have e : PyData.eqv (.list (P.map spPy)) (.list (R.map spPy)) = decide (P = R) := by
    simp only [PyData.eqv]
    clear ha hb h
    induction P generalizing R with
    | nil => cases R <;> simp [PyData.eqvAll]
    | cons x P ih =>
      cases R with
      | nil => simp [PyData.eqvAll]
      | cons y R =>
        rw [List.map_cons, List.map_cons]
        simp only [PyData.eqvAll]
        rw [eqv_sp, ih, ← Bool.decide_and]
        refine decide_eq_decide.mpr ?_
        rw [List.cons.injEq]
  exact .eq (toPyS_P ha) (toPyS_P hb) (shaped_P P) (shaped_P R) (by rw [e]; exact h)
theorem cells_no {rs : List Str} {k : Spot} (h : k.2 < 0) : k ∉ cellsOf rs := fun q => by have := cellsFrom_at q; omega
theorem free_first (P : List Spot) (wd ht : Nat) (h : ((-1 : Int), (-1 : Int)) ∉ P) : ∃ F, freeOf P wd ht = (-1, -1) :: F := by
  refine ⟨freeRow P (-1) (-1 + 1) (wd + 1) ++ freeFrom P (wd + 2) (-1 + 1) (ht + 1), ?_⟩
  show freeRow P (-1) (-1) (wd + 1 + 1) ++ freeFrom P (wd + 2) (-1 + 1) (ht + 1) = _
  rw [freeRow_succ, if_neg h]; rfl
theorem free_len {rs : List Str} {wd : Nat} (g : Grid rs wd) : (freeOf (cellsOf rs) wd rs.length).length ≤ 64 := by
  have h1 := freeFrom_length (P := cellsOf rs) (wd := wd + 2) (n := rs.length + 2) (y := -1)
  have h2 : (rs.length + 2) * (wd + 2) ≤ 8 * 8 := Nat.mul_le_mul (by have := g.ht6; omega) (by have := g.wd6; omega)
  unfold freeOf; omega
theorem due_vc {Q : KV} {rs : List Str} {wd : Nat} {σ : Store} (G : Good S W) (u77 : W.U 77 = true) (u80 : W.U 80 = true) (g : Grid rs wd)
    (hcells : ∀ (σ : Store) (Q : KV), Q (.list ((cellsOf rs).map sp)) σ → OwnT S W.k 77 [.list (rs.map .str)] σ Q X)
    (hhangs : ∀ (a : Spot) (P' : List Spot) (σ : Store) (Q : KV), P'.length ≤ 1000 → (∀ fs, Comp (a :: P') a fs → Q (.bool (decide (fs.length = (a :: P').length))) σ) → OwnT S W.k 80 [.list ((a :: P').map sp)] σ Q X)
    (h0 : cellsOf rs = [] → Q (.int 0) σ) (h1 : ∀ a P', cellsOf rs = a :: P' → ¬ Hangs (cellsOf rs) a → Q (.int 1) σ)
    (h2 : ∀ a P', cellsOf rs = a :: P' → Hangs (cellsOf rs) a → ¬ Hangs (freeOf (cellsOf rs) wd rs.length) (-1, -1) → Q (.int 2) σ) (h3 : ∀ a P', cellsOf rs = a :: P' → Hangs (cellsOf rs) a → Hangs (freeOf (cellsOf rs) wd rs.length) (-1, -1) → Q (.int 3) σ) :
    vcSs S W X [] c_due.body (argsM [.list (rs.map .str)]) σ (RetK S Q) := by
  unfold c_due
  have hl : rs.length ≤ 6 := g.ht6
  have hw := g.wd6
  have hcl := g.cells
  repeat k_caught0
  refine hcells _ _ ?_
  repeat k_caught0
  refine k_eqP (R := []) rfl rfl ?_
  cases hP : cellsOf rs with
  | nil =>
    refine ki ?_
    rw [if_pos (by simp)]
    repeat k_caught0
    exact RetK.val (h0 hP)
  | cons a P' =>
    refine ki ?_
    rw [if_neg (by simp)]
    repeat k_caught0
    refine hhangs a P' _ _ (by rw [hP] at hcl; simp at hcl; omega) fun f1 c1 => ?_
    rw [← hP] at c1
    repeat k_caught0
    by_cases e1 : f1.length = (a :: P').length
    · have hg1 : Hangs (cellsOf rs) a := Hangs.of c1 (by rw [hP]; exact e1)
      rw [decide_eq_true e1]
      repeat k_caught0
      refine c_lenL (by rw [List.length_map]; unfold big; omega) ?_
      repeat k_caught0
      rw [List.length_map]
      refine i_rng (by decide) (by decide) (by omega) (by omega) ?_
      rw [show ((rs.length : Int) + 1 - -1).toNat = rs.length + 2 by omega, ← hP]
      obtain ⟨r0, rt, hr0⟩ : ∃ r0 rt, rs = r0 :: rt := by
        cases rs with
        | nil => have := g.ht1; simp at this
        | cons r0 rt => exact ⟨r0, rt, rfl⟩
      have hr0l : r0.length = wd := g.len r0 (by rw [hr0]; simp)
      refine forV_ind (fun items m σ' => σ = σ' ∧ m 0 = some (.list (rs.map .str)) ∧ m 1 = some (.list ((cellsOf rs).map sp)) ∧ ∃ (y : Int) (n : Nat) (done : List Spot), items = intsA y n ∧ m 2 = some (.list (done.map sp)) ∧ freeOf (cellsOf rs) wd rs.length = done ++ freeFrom (cellsOf rs) (wd + 2) y n) ?_ ?_
        ⟨rfl, rfl, by rw [hP]; rfl, -1, rs.length + 2, [], rfl, rfl, rfl⟩
      · rintro m σ' ⟨rfl, m0, m1, y, n, done, hi, m2, hd⟩
        obtain rfl : n = 0 := by cases n with | zero => rfl | succ _ => simp [intsA] at hi
        rw [freeFrom, List.append_nil] at hd
        subst hd
        obtain ⟨F, hF⟩ := free_first (cellsOf rs) wd rs.length (cells_no (by decide))
        have hfl := free_len g
        have m2' : m 2 = some (.list ((((-1 : Int), (-1 : Int)) :: F).map sp)) := by rw [m2, hF]
        repeat k_caught0
        refine hhangs (-1, -1) F _ _ (by rw [hF] at hfl; simp at hfl; omega) fun f2 c2 => ?_
        rw [← hF] at c2
        repeat k_caught0
        by_cases e2 : f2.length = (((-1 : Int), (-1 : Int)) :: F).length
        · rw [decide_eq_true e2]
          repeat k_caught0
          exact RetK.val (h3 a P' hP hg1 (Hangs.of c2 (by rw [hF]; exact e2)))
        · rw [decide_eq_false e2]
          repeat k_caught0
          exact RetK.val (h2 a P' hP hg1 fun hh => e2 (by have := hh f2 c2; rw [hF] at this; exact this))
      · rintro x r m σ' ⟨rfl, m0, m1, y, n, done, hi, m2, hd⟩ C hC
        cases n with
        | zero => simp [intsA] at hi
        | succ n =>
        simp only [intsA, List.cons.injEq] at hi
        obtain ⟨rfl, rfl⟩ := hi
        have n0 : (m.set 3 (.int y)) 0 = some (.list (rs.map .str)) := m0
        have n1 : (m.set 3 (.int y)) 1 = some (.list ((cellsOf rs).map sp)) := m1
        have n2 : (m.set 3 (.int y)) 2 = some (.list (done.map sp)) := m2
        have hdl : done.length ≤ 64 := by have := free_len g; rw [hd] at this; simp at this; omega
        repeat k_caught0
        first | refine s_assignC rfl ?_ | refine e_comp rfl ?_
        repeat k_caught0
        refine u_list (x := .str r0) rfl (by decide) (by rw [hr0]; rfl) (by decide) ?_
        repeat k_caught0
        refine c_lenS (by unfold big; omega) ?_
        repeat k_caught0
        refine i_rng (by decide) (by decide) (by omega) (by omega) ?_
        rw [show ((r0.length : Int) + 1 - -1).toNat = wd + 2 by omega]
        refine ⟨by rw [intsA_length]; unfold big; omega, ?_⟩
        refine compV_ind (fun items ys σ' => σ = σ' ∧ ∃ (x : Int) (j : Nat) (dn : List Spot), items = intsA x j ∧ ys = dn.map sp ∧ freeRow (cellsOf rs) y (-1) (wd + 2) = dn ++ freeRow (cellsOf rs) y x j) ?_ ?_
          ⟨rfl, -1, wd + 2, [], rfl, rfl, rfl⟩
        · rintro ys σ' ⟨rfl, x, j, dn, hi, rfl, hdn⟩
          obtain rfl : j = 0 := by cases j with | zero => rfl | succ _ => simp [intsA] at hi
          rw [show freeRow (cellsOf rs) y x 0 = [] from rfl, List.append_nil] at hdn
          have hrl := freeRow_length (P := cellsOf rs) (y := y) (n := wd + 2) (x := -1)
          rw [hdn] at hrl
          repeat k_caught0
          refine b_addl rfl rfl (by simp; unfold big; omega) ?_
          repeat k_caught0
          refine ⟨trivial, hC _ _ ⟨rfl, m0, m1, y + 1, n, done ++ dn, rfl, by show some _ = some _; simp, by rw [hd, freeFrom, hdn]; simp⟩⟩
        · rintro x2 r2 ys σ' ⟨rfl, x, j, dn, hi, rfl, hdn⟩ C2 hC2
          cases j with
          | zero => simp [intsA] at hi
          | succ j =>
          simp only [intsA, List.cons.injEq] at hi
          obtain ⟨rfl, rfl⟩ := hi
          rw [freeRow_succ _ y x j] at hdn
          have q1 : ((m.set 3 (.int y)).set 4 (.int x)) 1 = some (.list ((cellsOf rs).map sp)) := m1
          repeat k_caught0
          refine k_ninP (k := (x, y)) (P := cellsOf rs) rfl ?_
          by_cases hin : (x, y) ∈ cellsOf rs
          · rw [decide_eq_true hin]
            rw [if_pos hin] at hdn
            repeat k_caught0
            exact ⟨trivial, hC2 _ _ ⟨rfl, x + 1, j, dn, rfl, rfl, hdn⟩⟩
          · rw [decide_eq_false hin]
            rw [if_neg hin] at hdn
            repeat k_caught0
            exact ⟨trivial, hC2 _ _ ⟨rfl, x + 1, j, dn ++ [(x, y)], rfl, by simp, by rw [hdn]; simp⟩⟩
    · rw [decide_eq_false e1]
      repeat k_caught0
      exact RetK.val (h1 a P' hP fun hh => e1 (by have := hh f1 c1; rw [hP] at this; exact this))
end
section
open PySem PyProof.Rows PySem.W
variable {prog : Program} {w : World} {S : Sta prog w} {W : Wd} {X : KX}
noncomputable def c_turned_rows : FnCore := ⟨[43400774030903411559313583009360306713791419551580256, 21408724918500336958217017566162088846755364960, 4908344980994869975741078519677024], 1, [.ret (.comp (.meth (.str "") 8 [(.comp (.sub (.v 1) (.v 2)) 1 (.v 0) [])]) 2 (.call (.g 8) [(.call (.g 0) [(.sub (.v 0) (.int 0))])]) [])]⟩
noncomputable def c_rows_by : FnCore := ⟨[40781761134340005352671968699721311000275178949181536, 38162751270679647559043826811439900761170624565477472, 41530048723813142729217903034956150661808146096324704, 82387004051865245371686842551052123159162781809304687083616, 43400774030903411559313583009360306713791419551580256, 21408724918500093569301773746117001479739932768, 39285182565683693105776214804091086361059948067029088, 4948909800202173316588973022249056, 189233104125022861345122375117010683388186817415792500651818221664, 38162752697926829841696715377274495193841980311339104, 91802656280800312142504332077630959006909194449134567817312, 87094826237817180438285548473054639082591576189006493253728], 3, [.assign (.v 3) (.bin .Add (.int 2) (.bin .Mod (.v 0) (.int 5))), .assign (.v 4) (.list []), .assign (.tup [(.v 5), (.v 6)]) (.tup [(.int 0), (.bin .Sub (.v 3) (.int 1))]), .for_ (.v 7) (.call (.g 8) [(.bin .Add (.int 1) (.bin .Mod (.bin .FloorDiv (.v 0) (.int 5)) (.int 6)))]) [.assign (.v 8) (.call (.g 73) [(.v 1), (.v 7)]), .assign (.v 9) (.ite (.v 2) (.bin .Mult (.int 2) (.bin .Add (.int 1) (.bin .Mod (.v 8) (.bin .FloorDiv (.v 3) (.int 2))))) (.bin .Add (.int 1) (.bin .Mod (.v 8) (.v 3)))), .assign (.v 10) (.call (.g 14) [(.int 0), (.bin .Add (.bin .Sub (.v 5) (.v 9)) (.int 1))]), .assign (.v 11) (.bin .Add (.v 10) (.bin .Mod (.bin .FloorDiv (.v 8) (.int 30)) (.bin .Add (.bin .Sub (.call (.g 13) [(.bin .Sub (.v 3) (.v 9)), (.v 6)]) (.v 10)) (.int 1)))), .expr (.meth (.v 4) 0 [(.bin .Add (.bin .Add (.bin .Mult (.str ".") (.v 11)) (.bin .Mult (.str "#") (.v 9))) (.bin .Mult (.str ".") (.bin .Sub (.bin .Sub (.v 3) (.v 11)) (.v 9))))]), .assign (.tup [(.v 5), (.v 6)]) (.tup [(.v 11), (.bin .Sub (.bin .Add (.v 11) (.v 9)) (.int 1))])], .ret (.v 4)]⟩
noncomputable def c_any_rows : FnCore := ⟨[192524121870682778597944489011036038917448218529394060437475033184, 40781761134340005352671968699721311000275178949181536, 43400774030903411559313583009360306713791419551580256], 1, [.assign (.v 1) (.call (.g 72) [(.v 0), (.int 0)]), .ite (.cmp .Eq (.bin .Mod (.v 1) (.int 9)) (.int 7)) [.ret (.sub (.list [(.list [(.str "#####"), (.str "....#"), (.str "###.#"), (.str "#...#"), (.str "#####")]), (.list [(.str "######"), (.str "#.#.#."), (.str "#.#.##")]), (.list [(.str ".#."), (.str "###"), (.str ".#.")]), (.list [(.str "##..##"), (.str "#....#"), (.str "######"), (.str "..##.."), (.str "..#...")])]) (.bin .Mod (.bin .FloorDiv (.v 1) (.int 9)) (.int 4)))] [], .assign (.v 2) (.call (.g 75) [(.bin .FloorDiv (.v 1) (.int 9)), (.call (.g 72) [(.v 0), (.int 1)]), (.bool false)]), .ret (.ite (.cmp .Eq (.bin .Mod (.bin .FloorDiv (.v 1) (.int 270)) (.int 2)) (.int 1)) (.call (.g 74) [(.v 2)]) (.v 2))]⟩
noncomputable def c_bent : FnCore := ⟨[43400774030903411559313583009360306713791419551580256, 40781761134340005352671968699721311000275178949181536, 9953263207791589283196843506884180705376, 80033084540639579203529368251194428811096298434648411734112, 41530049080623959988583287718423633828578299981332576, 21408724918500336958217017566162088846755364960], 2, [.assign (.v 2) (.bin .Mod (.v 1) (.call (.g 0) [(.v 0)])), .assign (.v 3) (.bin .Mod (.bin .FloorDiv (.v 1) (.int 6)) (.call (.g 0) [(.sub (.v 0) (.v 2))])), .assign (.v 4) (.ite (.cmp .Eq (.sub (.sub (.v 0) (.v 2)) (.v 3)) (.str "#")) (.str ".") (.str "#")), .assign (.v 5) (.bin .Add (.bin .Add (.slice (.sub (.v 0) (.v 2)) .none (.v 3) .none) (.v 4)) (.slice (.sub (.v 0) (.v 2)) (.bin .Add (.v 3) (.int 1)) .none .none)), .ret (.bin .Add (.bin .Add (.slice (.v 0) .none (.v 2) .none) (.list [(.v 5)])) (.slice (.v 0) (.bin .Add (.v 2) (.int 1)) .none .none))]⟩
noncomputable def RowOf (wd : Nat) (r : Str) : Prop := r.length = wd ∧ ∀ c ∈ r.cps.toList, c = 35 ∨ c = 46
theorem Grid.mk' {rs : List Str} {wd : Nat} (h1 : 1 ≤ rs.length) (h2 : rs.length ≤ 6) (h3 : 1 ≤ wd) (h4 : wd ≤ 6) (h : ∀ r ∈ rs, RowOf wd r) : Grid rs wd := ⟨h1, h2, h3, h4, fun r hr => (h r hr).1, fun r hr => (h r hr).2⟩
theorem Grid.row {rs : List Str} {wd : Nat} (g : Grid rs wd) {r : Str} (hr : r ∈ rs) : RowOf wd r := ⟨g.len r hr, g.sg r hr⟩
theorem turned_vc {Q : KV} {rs : List Str} {wd : Nat} {σ : Store} (G : Good S W) (hq : S.hx = Option.none) (g : Grid rs wd) (h : ∀ rs' wd', Grid rs' wd' → Q (.list (rs'.map .str)) σ) : vcSs S W X [] c_turned_rows.body (argsM [.list (rs.map .str)]) σ (RetK S Q) := by
  unfold c_turned_rows
  have hl : rs.length ≤ 6 := g.ht6
  have hw := g.wd6
  obtain ⟨r0, rt, hr0⟩ : ∃ r0 rt, rs = r0 :: rt := by
    cases rs with
    | nil => have := g.ht1; simp at this
    | cons r0 rt => exact ⟨r0, rt, rfl⟩
  have hr0l : r0.length = wd := g.len r0 (by rw [hr0]; simp)
  repeat k_caught0
  first | refine s_assignC rfl ?_ | refine e_comp rfl ?_
  repeat k_caught0
  refine u_list (x := .str r0) rfl (by decide) (by rw [hr0]; rfl) (by decide) ?_
  repeat k_caught0
  refine c_lenS (by unfold big; omega) ?_
  repeat k_caught0
  refine i_rng (by decide) (by decide) (by omega) (by omega) ?_
  rw [show ((r0.length : Int) - 0).toNat = wd by omega]
  refine ⟨by rw [intsA_length]; unfold big; omega, ?_⟩
  refine compV_ind (fun items ys σ' => σ = σ' ∧ ∃ (x n : Nat) (dn : List Str), items = intsA x n ∧ x + n = wd ∧ dn.length = x ∧ ys = dn.map .str ∧ ∀ r ∈ dn, RowOf rs.length r) ?_ ?_ ⟨rfl, 0, wd, [], rfl, by omega, rfl, rfl, by simp⟩
  · rintro ys σ' ⟨rfl, x, n, dn, hi, hxn, hx, rfl, hd⟩
    obtain rfl : n = 0 := by cases n with | zero => rfl | succ _ => simp [intsA] at hi
    repeat k_caught0
    exact RetK.val (h dn rs.length (Grid.mk' (by have := g.wd1; omega) (by omega) g.ht1 g.ht6 hd))
  · rintro x' r' ys σ' ⟨rfl, x, n, dn, hi, hxn, hx, rfl, hd⟩ C hC
    cases n with
    | zero => simp [intsA] at hi
    | succ n =>
    simp only [intsA, List.cons.injEq] at hi
    obtain ⟨rfl, rfl⟩ := hi
    repeat k_caught0
    refine o_str ?_
    repeat k_caught0
    first | refine s_assignC rfl ?_ | refine e_comp rfl ?_
    repeat k_caught0
    refine ⟨by rw [List.length_map]; unfold big; omega, ?_⟩
    refine compV_ind (fun items ys σ' => σ = σ' ∧ ∃ (rest : List Str) (cs : List Nat), items = rest.map .str ∧ (∀ r ∈ rest, r ∈ rs) ∧ ys = cs.map (fun c => .str ⟨#[c]⟩) ∧ cs.length + rest.length = rs.length ∧ ∀ c ∈ cs, c = 35 ∨ c = 46) ?_ ?_ ⟨rfl, rs, [], rfl, fun zz h => h, rfl, by simp, by simp⟩
    · rintro ys σ' ⟨rfl, rest, cs, hi, _, rfl, hcl, hcs⟩
      obtain rfl : rest = [] := by cases rest with | nil => rfl | cons _ _ => simp at hi
      repeat k_caught0
      have hz : ((cs.map (fun c => (⟨#[c]⟩ : Str))).map (·.length)).sum = cs.length := by
        clear hcl hcs
        induction cs with
        | nil => rfl
        | cons c cs ih => simp only [List.map_cons, List.sum_cons, List.length_cons] at ih ⊢; rw [ih]; show 1 + _ = _; omega
      have hj : (Txt.join "" (cs.map (fun c => (⟨#[c]⟩ : Str)))).cps.toList = cs := by
        rw [glued_toList]
        clear hz hcl hcs
        induction cs with
        | nil => rfl
        | cons c cs ih => simp only [List.map_cons, List.flatten_cons]; rw [ih]; rfl
      have he : ("" : Str).length = 0 := by decide +kernel
      have hcl' : cs.length ≤ 6 := by simp at hcl; omega
      refine m_join (ys := cs.map (fun c => (⟨#[c]⟩ : Str))) (by show some _ = some _; rw [List.map_map]; rfl) (by rw [hz, List.length_map, he]; omega) ?_
      refine ⟨trivial, hC _ _ ⟨rfl, x + 1, n, dn ++ [Txt.join "" (cs.map (fun c => (⟨#[c]⟩ : Str)))], rfl, by omega, by simp; omega, by simp, fun r hr => ?_⟩⟩
      rcases List.mem_append.mp hr with q | q
      · exact hd r q
      · simp at q; subst q
        refine ⟨?_, by rw [hj]; exact hcs⟩
        have : (Txt.join "" (cs.map (fun c => (⟨#[c]⟩ : Str)))).cps.toList.length = (Txt.join "" (cs.map (fun c => (⟨#[c]⟩ : Str)))).length := Array.length_toList
        rw [← this, hj]; simpa using hcl
    · rintro x2 r2 ys σ' ⟨rfl, rest, cs, hi, hsub, rfl, hcl, hcs⟩ C2 hC2
      cases rest with
      | nil => simp at hi
      | cons row rest =>
      simp only [List.map_cons, List.cons.injEq] at hi
      obtain ⟨rfl, rfl⟩ := hi
      have hrow : row ∈ rs := hsub row (.head _)
      have hrl : row.length = wd := g.len row hrow
      have hlt : x < row.cps.size := by show x < row.length; omega
      obtain ⟨c, hc⟩ : ∃ c, row.cps[x]? = some c := ⟨_, Array.getElem?_eq_getElem hlt⟩
      have hcm : c ∈ row.cps.toList := by rw [Array.mem_toList_iff]; exact Array.mem_of_getElem? hc
      repeat k_caught0
      refine .str (c := c) (by omega) (by omega) (by simpa using hc) ?_
      refine ⟨trivial, hC2 _ _ ⟨rfl, rest, cs ++ [c], rfl, fun r hr => hsub r (.tail _ hr), by simp, by simp at hcl ⊢; omega, fun d hd => ?_⟩⟩
      rcases List.mem_append.mp hd with q | q
      · exact hcs d q
      · simp at q; subst q; exact g.sg row hrow d hcm
theorem fmod_pos {a b : Int} (hb : 0 < b) : 0 ≤ a.fmod b ∧ a.fmod b < b := ⟨Int.fmod_nonneg_of_pos _ hb, Int.fmod_lt_of_pos _ hb⟩
theorem rowsby_vc {Q : KV} {a b : Int} {σ : Store} (G : Good S W) (hq : S.hx = Option.none) (u73 : W.U 73 = true)
    (hmixed : ∀ (a b : Int) (σ : Store) (Q : KV), (∀ n : Int, 0 ≤ n → n < 2147483647 → Q (.int n) σ) → OwnT S W.k 73 [.int a, .int b] σ Q noX) (h : ∀ rs wd, Grid rs wd → Q (.list (rs.map .str)) σ) : vcSs S W X [4] c_rows_by.body (argsM [.int a, .int b, .bool false]) σ (RetK S Q) := by
  unfold c_rows_by
  have h5 := fmod_pos (a := a) (b := 5) (by decide)
  repeat k_caught0
  refine b_mod (by decide) ?_
  repeat k_caught0
  refine fr_ct (by decide) fun f nf => ?_
  repeat k_caught0
  generalize hwd : (2 + a.fmod 5 : Int) = wd
  have hw : 2 ≤ wd ∧ wd ≤ 6 := by omega
  refine b_div (by decide) (by decide) ?_
  repeat k_caught0
  refine b_mod (by decide) ?_
  have h6 := fmod_pos (a := a.fdiv 5) (b := 6) (by decide)
  repeat k_caught0
  refine i_rng (by decide) (by decide) (by omega) (by omega) ?_
  generalize hht : (1 + (a.fdiv 5).fmod 6 - 0 : Int).toNat = ht
  have hht' : 1 ≤ ht ∧ ht ≤ 6 := by omega
  refine forV_ind (fun items m σ' => m 1 = some (.int b) ∧ m 2 = some (.bool false) ∧ m 3 = some (.int wd) ∧ m 4 = some (.loc f) ∧ Keep σ σ' ∧ ∃ (lo hi y : Int) (n : Nat) (rs : List Str), items = intsA y n ∧ rs.length + n = ht ∧ m 5 = some (.int lo) ∧ m 6 = some (.int hi) ∧ 0 ≤ lo ∧ lo ≤ hi ∧ hi ≤ wd - 1 ∧ σ' f = some (.list (rs.map .str)) ∧ ∀ r ∈ rs, RowOf wd.toNat r) ?_ ?_
    ⟨rfl, rfl, rfl, rfl, (Keep.refl σ).set nf, 0, wd - 1, 0, ht, [], rfl, by simp, rfl, rfl, by omega, by omega, by omega, Store.set_self .., by simp⟩
  · rintro m σ' ⟨m1, m2, m3, m4, kp, lo, hi, y, n, rs, hit, hn, m5, m6, h1, h2, h3, sf, hr⟩
    obtain rfl : n = 0 := by cases n with | zero => rfl | succ _ => simp [intsA] at hit
    repeat k_caught0
    exact fun N => ⟨_, _, View.backL sf kp nf, h rs wd.toNat (Grid.mk' (by omega) (by omega) (by omega) (by omega) hr)⟩
  · rintro x r m σ' ⟨m1, m2, m3, m4, kp, lo, hi, y, n, rs, hit, hn, m5, m6, h1, h2, h3, sf, hr⟩ C hC
    cases n with
    | zero => simp [intsA] at hit
    | succ n =>
    simp only [intsA, List.cons.injEq] at hit
    obtain ⟨rfl, rfl⟩ := hit
    have n1 : (m.set 7 (.int y)) 1 = some (.int b) := m1
    repeat k_caught0
    refine hmixed _ _ _ _ fun num hn0 hn1 => ?_
    have q2 : ((m.set 7 (.int y)).set 8 (.int num)) 2 = some (.bool false) := m2
    have q3 : ((m.set 7 (.int y)).set 8 (.int num)) 3 = some (.int wd) := m3
    repeat k_caught0
    refine b_mod (by omega) ?_
    have hs := fmod_pos (a := num) (b := wd) (by omega)
    repeat k_caught0
    generalize hsz : (1 + num.fmod wd : Int) = sz
    have q5 : (((m.set 7 (.int y)).set 8 (.int num)).set 9 (.int sz)) 5 = some (.int lo) := m5
    repeat k_caught0
    refine c_max hq ?_
    generalize hle : max 0 (lo - sz + 1) = le
    repeat k_caught0
    refine b_div (by decide) (by decide) ?_
    have q3' : ((((m.set 7 (.int y)).set 8 (.int num)).set 9 (.int sz)).set 10 (.int le)) 3 = some (.int wd) := m3
    have q6' : ((((m.set 7 (.int y)).set 8 (.int num)).set 9 (.int sz)).set 10 (.int le)) 6 = some (.int hi) := m6
    repeat k_caught0
    refine c_min hq ?_
    repeat k_caught0
    refine b_mod (by omega) ?_
    have hb := fmod_pos (a := num.fdiv 30) (b := min (wd - sz) hi - le + 1) (by omega)
    repeat k_caught0
    generalize hbg : (le + (num.fdiv 30).fmod (min (wd - sz) hi - le + 1) : Int) = bg
    have bg0 : 0 ≤ bg := by clear hs hsz; omega
    have sz0 : 1 ≤ sz := by clear hb hbg hle; omega
    have bsw : bg + sz ≤ wd := by clear hs hsz; omega
    have wd9 : wd ≤ 9 := by clear hb hbg hle hs hsz; omega
    clear hbg hb hle hs hsz
    have r3 : (((((m.set 7 (.int y)).set 8 (.int num)).set 9 (.int sz)).set 10 (.int le)).set 11 (.int bg)) 3 = some (.int wd) := m3
    have r4 : (((((m.set 7 (.int y)).set 8 (.int num)).set 9 (.int sz)).set 10 (.int le)).set 11 (.int bg)) 4 = some (.loc f) := m4
    repeat k_caught0
    refine o_list sf ?_ 0 (.inl rfl)
    repeat k_caught0
    rw [s_hash, s_dot]
    have len1 : ∀ c : Nat, (⟨#[c]⟩ : Str).length = 1 := fun zz => rfl
    have mlen : ∀ (c : Nat) (n : Int), (Txt.mul ⟨#[c]⟩ n).length = n.toNat := fun c n => by
      have : (Txt.mul ⟨#[c]⟩ n).cps.toList.length = (Txt.mul ⟨#[c]⟩ n).length := Array.length_toList
      rw [← this, mul_one]; simp
    refine b_muls (mul_ok (by rw [len1]; decide) (by omega) (by omega)) ?_
    repeat k_caught0
    refine b_muls (mul_ok (by rw [len1]; decide) (by omega) (by omega)) ?_
    refine b_adds (by rw [mlen, mlen]; unfold big; omega) ?_
    repeat k_caught0
    refine b_muls (mul_ok (by rw [len1]; decide) (by omega) (by omega)) ?_
    refine b_adds (by rw [app_len, mlen, mlen, mlen]; unfold big; omega) ?_
    repeat k_caught0
    refine m_append sf (by simp; unfold big; omega) ?_
    repeat k_caught0
    refine ⟨trivial, hC _ _ ⟨m1, m2, m3, m4, kp.set nf, bg, bg + sz - 1, y + 1, n, rs ++ [Txt.mul ⟨#[46]⟩ bg ++ Txt.mul ⟨#[35]⟩ sz ++ Txt.mul ⟨#[46]⟩ (wd - bg - sz)], rfl, by simp; omega, rfl, rfl, by omega, by omega, by omega, by rw [Store.set_self]; simp, fun r hr' => ?_⟩⟩
    rcases List.mem_append.mp hr' with q | q
    · exact hr r q
    · simp at q; subst q
      refine ⟨by rw [app_len, app_len, mlen, mlen, mlen]; omega, fun c hc => ?_⟩
      rw [app_toList, app_toList, mul_one, mul_one, mul_one] at hc
      simp only [List.mem_append, List.mem_replicate] at hc
      omega
end
section
open PySem PyProof.Rows PySem.W
variable {prog : Program} {w : World} {S : Sta prog w} {W : Wd} {X : KX}
noncomputable def gridB (rs : List Str) (wd : Nat) : Bool := decide (1 ≤ rs.length ∧ rs.length ≤ 6 ∧ 1 ≤ wd ∧ wd ≤ 6) && rs.all fun r => r.length == wd && r.cps.toList.all signOk
theorem Grid.ofB {rs : List Str} {wd : Nat} (h : gridB rs wd = true) : Grid rs wd := by
  unfold gridB at h
  rw [Bool.and_eq_true, decide_eq_true_eq] at h
  obtain ⟨⟨h1, h2, h3, h4⟩, h5⟩ := h
  refine Grid.mk' h1 h2 h3 h4 fun r hr => ?_
  have := List.all_eq_true.mp h5 r hr
  rw [Bool.and_eq_true, beq_iff_eq] at this
  refine ⟨this.1, fun c hc => ?_⟩
  have := List.all_eq_true.mp this.2 c hc
  simpa [signOk] using this
theorem anyrows_vc {Q : KV} {l : List Int} {σ : Store} (G : Good S W) (u72 : W.U 72 = true) (u74 : W.U 74 = true) (u75 : W.U 75 = true)
    (hat : ∀ (j : Nat) (σ : Store) (Q : KV), Q (.int (l.getD j 0)) σ → OwnT S W.k 72 [.nums l, .int j] σ Q X)
    (hturn : ∀ (rs : List Str) (wd : Nat) (σ : Store) (Q : KV), Grid rs wd → (∀ rs' wd', Grid rs' wd' → Q (.list (rs'.map .str)) σ) → OwnT S W.k 74 [.list (rs.map .str)] σ Q X)
    (hby : ∀ (a b : Int) (σ : Store) (Q : KV), (∀ rs wd, Grid rs wd → Q (.list (rs.map .str)) σ) → OwnT S W.k 75 [.int a, .int b, .bool false] σ Q X)
    (h : ∀ rs wd, Grid rs wd → Q (.list (rs.map .str)) σ) : vcSs S W X [] c_any_rows.body (argsM [.nums l]) σ (RetK S Q) := by
  unfold c_any_rows
  repeat k_caught0
  refine hat 0 _ _ ?_
  generalize l.getD 0 0 = c
  repeat k_caught0
  refine b_mod (by decide) ?_
  repeat k_caught0
  by_cases h7 : (c.fmod 9 == 7) = true
  · rw [h7]
    repeat k_caught0
    refine b_div (by decide) (by decide) ?_
    repeat k_caught0
    refine b_mod (by decide) ?_
    have h4 := fmod_pos (a := c.fdiv 9) (b := 4) (by decide)
    generalize (c.fdiv 9).fmod 4 = i at h4
    have : i = 0 ∨ i = 1 ∨ i = 2 ∨ i = 3 := by omega
    rcases this with rfl | rfl | rfl | rfl
    · exact u_list rfl (by decide) rfl (by decide) (RetK.val (h ["#####", "....#", "###.#", "#...#", "#####"] 5 (Grid.ofB (by decide +kernel))))
    · exact u_list rfl (by decide) rfl (by decide) (RetK.val (h ["######", "#.#.#.", "#.#.##"] 6 (Grid.ofB (by decide +kernel))))
    · exact u_list rfl (by decide) rfl (by decide) (RetK.val (h [".#.", "###", ".#."] 3 (Grid.ofB (by decide +kernel))))
    · exact u_list rfl (by decide) rfl (by decide) (RetK.val (h ["##..##", "#....#", "######", "..##..", "..#..."] 6 (Grid.ofB (by decide +kernel))))
  · rw [Bool.eq_false_iff.mpr h7]
    repeat k_caught0
    refine b_div (by decide) (by decide) ?_
    repeat k_caught0
    refine hat 1 _ _ ?_
    repeat k_caught0
    refine hby _ _ _ _ fun rs wd g => ?_
    repeat k_caught0
    refine b_div (by decide) (by decide) ?_
    repeat k_caught0
    refine b_mod (by decide) ?_
    repeat k_caught0
    by_cases h2 : ((c.fdiv 270).fmod 2 == 1) = true
    · rw [h2]
      repeat k_caught0
      exact hturn rs wd _ _ g fun rs' wd' g' => RetK.val (h rs' wd' g')
    · rw [Bool.eq_false_iff.mpr h2]
      repeat k_caught0
      exact RetK.val (h rs wd g)
set_option maxHeartbeats 4000000 in
theorem bent_vc {Q : KV} {rs : List Str} {wd : Nat} {c : Int} {σ : Store} (G : Good S W) (g : Grid rs wd) (h : ∀ rs', Grid rs' wd → Q (.list (rs'.map .str)) σ) : vcSs S W X [] c_bent.body (argsM [.list (rs.map .str), .int c]) σ (RetK S Q) := by
  unfold c_bent
  have hl : rs.length ≤ 6 := g.ht6
  have hl1 := g.ht1
  have hw := g.wd6
  have hw1 := g.wd1
  repeat k_caught0
  refine c_lenL (by rw [List.length_map]; unfold big; omega) ?_
  rw [List.length_map]
  repeat k_caught0
  refine b_mod (by omega) ?_
  have hm := fmod_pos (a := c) (b := (rs.length : Int)) (by omega)
  generalize c.fmod (rs.length : Int) = i at hm
  obtain ⟨row, hrow⟩ : ∃ row, rs[i.toNat]? = some row := ⟨_, List.getElem?_eq_getElem (by omega : i.toNat < rs.length)⟩
  have hat : (rs.map AV.str)[i.toNat]? = some (.str row) := by rw [List.getElem?_map, hrow]; rfl
  have hmem : row ∈ rs := List.mem_of_getElem? hrow
  have hrl : row.length = wd := g.len row hmem
  have hrl' : row.cps.toList.length = wd := by rw [Array.length_toList]; exact hrl
  repeat k_caught0
  refine b_div (by decide) (by decide) ?_
  repeat k_caught0
  refine u_list rfl (by omega) hat (by omega) ?_
  repeat k_caught0
  refine c_lenS (by unfold big; omega) ?_
  rw [hrl]
  repeat k_caught0
  refine b_mod (by omega) ?_
  have hp := fmod_pos (a := c.fdiv 6) (b := (wd : Int)) (by omega)
  generalize (c.fdiv 6).fmod (wd : Int) = p at hp
  obtain ⟨s, hs⟩ : ∃ s, row.cps[p.toNat]? = some s := ⟨_, Array.getElem?_eq_getElem (by show p.toNat < row.length; omega)⟩
  have hsm : s ∈ row.cps.toList := by rw [Array.mem_toList_iff]; exact Array.mem_of_getElem? hs
  have hs128 : s < 128 := by rcases g.sg row hmem s hsm with rfl | rfl <;> decide
  repeat k_caught0
  refine u_list rfl (by omega) hat (by omega) ?_
  repeat k_caught0
  refine .str (by omega) (by omega) hs ?_
  repeat k_caught0
  refine k_eqc hs128 ?_
  have fin : ∀ d : Nat, d = 35 ∨ d = 46 → vcSs S W X [] [.assign (.v 5) (.bin .Add (.bin .Add (.slice (.sub (.v 0) (.v 2)) .none (.v 3) .none) (.v 4)) (.slice (.sub (.v 0) (.v 2)) (.bin .Add (.v 3) (.int 1)) .none .none)), .ret (.bin .Add (.bin .Add (.slice (.v 0) .none (.v 2) .none) (.list [(.v 5)])) (.slice (.v 0) (.bin .Add (.v 2) (.int 1)) .none .none))]
      ((((argsM [.list (rs.map .str), .int c]).set 2 (.int i)).set 3 (.int p)).set 4 (.str ⟨#[d]⟩)) σ (RetK S Q) := by
    intro d hd
    repeat k_caught0
    refine u_list rfl (by omega) hat (by omega) ?_
    repeat k_caught0
    refine ⟨_, by unfold big; omega, rfl, ?_⟩
    have e1 : (Txt.slice row Option.none (some p)).cps.toList = row.cps.toList.take p.toNat := slice_take (by omega) (by omega)
    have l1 : (Txt.slice row Option.none (some p)).length = p.toNat := by
      have : (Txt.slice row Option.none (some p)).cps.toList.length = (Txt.slice row Option.none (some p)).length := Array.length_toList
      rw [← this, e1, List.length_take]; omega
    repeat k_caught0
    refine b_adds (by rw [l1]; show p.toNat + 1 ≤ _; unfold big; omega) ?_
    repeat k_caught0
    refine u_list rfl (by omega) hat (by omega) ?_
    repeat k_caught0
    refine ⟨_, by unfold big; omega, rfl, ?_⟩
    have e2 : (Txt.slice row (some (p + 1)) Option.none).cps.toList = row.cps.toList.drop (p + 1).toNat := slice_drop (by omega) (by omega)
    have l2 : (Txt.slice row (some (p + 1)) Option.none).length = wd - (p + 1).toNat := by
      have : (Txt.slice row (some (p + 1)) Option.none).cps.toList.length = (Txt.slice row (some (p + 1)) Option.none).length := Array.length_toList
      rw [← this, e2, List.length_drop]; omega
    have ld : (⟨#[d]⟩ : Str).length = 1 := rfl
    refine b_adds (by rw [app_len, l1, l2, ld]; unfold big; omega) ?_
    generalize hnr : Txt.slice row Option.none (some p) ++ ⟨#[d]⟩ ++ Txt.slice row (some (p + 1)) Option.none = nr
    have hnrow : RowOf wd nr := by
      rw [← hnr]
      refine ⟨by rw [app_len, app_len, l1, l2, ld]; omega, fun c hc => ?_⟩
      rw [app_toList, app_toList, e1, e2] at hc
      simp only [List.mem_append] at hc
      rcases hc with (q | q) | q
      · exact g.sg row hmem c (List.mem_of_mem_take q)
      · have : c = d := by simpa using q
        subst this; exact hd
      · exact g.sg row hmem c (List.mem_of_mem_drop q)
    repeat k_caught0
    refine ⟨rs.map .str, (rs.map .str).take i.toNat, rfl, by simp; unfold big; omega, by simp [cut]; omega, ?_⟩
    repeat k_caught0
    refine b_addl rfl rfl (by simp; unfold big; omega) ?_
    repeat k_caught0
    refine ⟨rs.map .str, (rs.map .str).drop (i + 1).toNat, rfl, by simp; unfold big; omega, by simp [cut]; omega, ?_⟩
    repeat k_caught0
    refine b_addl rfl rfl (by simp; unfold big; omega) ?_
    repeat k_caught0
    have := h (rs.take i.toNat ++ [nr] ++ rs.drop (i + 1).toNat) (Grid.mk' (by simp; omega) (by simp; omega) hw1 hw fun r hr => ?_)
    · refine RetK.val ?_
      simpa using this
    · simp only [List.mem_append, List.mem_singleton] at hr
      rcases hr with (q | rfl) | q
      · exact g.row (List.mem_of_mem_take q)
      · exact hnrow
      · exact g.row (List.mem_of_mem_drop q)
  by_cases h35 : (s == 35) = true
  · rw [h35]
    refine if_t (e_str ?_)
    have := fin 46 (.inr rfl)
    rw [← s_dot] at this
    exact this
  · rw [Bool.eq_false_iff.mpr h35]
    refine if_f (e_str ?_)
    have := fin 35 (.inl rfl)
    rw [← s_hash] at this
    exact this
end
section
open PySem PyProof.Rows PySem.W
variable {prog : Program} {w : World} {S : Sta prog w} {W : Wd} {X : KX}
noncomputable def c_wrong : FnCore := ⟨[43400774030903411559313583009360306713791419551580256, 40781761134340005352671968699721311000275178949181536, 9953263207791589283196843506884180705376, 21408724918500336958217017566162088846755364960, 79248446075428119418133670457554138728317835361971829997664, 166196047384268048075010731685429119043027690766748942096750608480, 38162750378649839618062290065254989900323531341693024, 18197417524841213801143636359034529248444416096], 2, [.assign (.v 2) (.bin .Mod (.bin .FloorDiv (.v 1) (.int 14)) (.call (.g 0) [(.v 0)])), .assign (.v 3) (.sub (.v 0) (.v 2)), .assign (.v 4) (.slice (.v 0) .none (.v 2) .none), .assign (.v 5) (.slice (.v 0) (.bin .Add (.v 2) (.int 1)) .none .none), .assign (.v 6) (.list [.none, (.call (.g 4) [(.v 0)]), (.meth (.str "\n") 8 [(.v 0)]), (.list []), (.bin .Mult (.v 0) (.int 7)), (.comp (.bin .Mult (.v 7) (.int 7)) 7 (.v 0) [])]), .assign (.v 6) (.bin .Add (.v 6) (.list [(.bin .Add (.bin .Add (.v 4) (.list [(.int 5)])) (.v 5)), (.bin .Add (.v 0) (.list [(.bin .Add (.sub (.v 0) (.int 0)) (.str "#"))])), (.bin .Mult (.list [(.str "")]) (.int 3)), (.bin .Add (.bin .Add (.v 4) (.list [(.bin .Mult (.str "x") (.call (.g 0) [(.v 3)]))])) (.v 5))])), .assign (.v 6) (.bin .Add (.v 6) (.list [(.bin .Mult (.list [(.call (.g 5) [(.v 3)])]) (.int 2)), (.dict [] []), (.bin .Add (.bin .Add (.v 4) (.list [(.bin .Add (.slice (.v 3) .none (.neg (.int 1)) .none) (.str " "))])) (.v 5)), (.bin .Mult (.list [(.bin .Mult (.str ".") (.call (.g 0) [(.v 3)]))]) (.call (.g 0) [(.v 0)]))])), .ret (.sub (.v 6) (.bin .Mod (.v 1) (.int 14)))]⟩
noncomputable def BadV (σ : Store) (v : AV) : Prop := (∃ t, tyA σ v = some t ∧ isT t .list = false) ∨ ∃ l, v = .list l ∧ l.length ≤ 1000 ∧ (∀ x ∈ l, Known σ x) ∧ rowsOk l = false
theorem bad_text {l : List AV} {x : AV} (hx : x ∈ l) (h : textOk x = false) : rowsOk l = false := by
  unfold rowsOk
  have : l.all textOk = false := by
    rw [Bool.eq_false_iff]; intro q
    have := List.all_eq_true.mp q x hx
    rw [h] at this; cases this
  rw [this]; simp
theorem bad_row {l : List AV} {x : AV} (hx : x ∈ l) (h : rowOk (lenOf (l.headD .none)) x = false) : rowsOk l = false := by
  unfold rowsOk
  have : l.all (rowOk (lenOf (l.headD .none))) = false := by
    rw [Bool.eq_false_iff]; intro q
    have := List.all_eq_true.mp q x hx
    rw [h] at this; cases this
  rw [this]; simp
theorem known_row {σ : Store} {rs : List Str} {wd : Nat} (g : Grid rs wd) {x : AV} (h : x ∈ rs.map AV.str) : Known σ x := by
  obtain ⟨r, hr, rfl⟩ := List.mem_map.mp h
  exact .inl ⟨r, rfl, g.ascii hr, by have := g.len r hr; have := g.wd6; omega⟩
theorem str_len (x : Str) : x.cps.toList.length = x.length := Array.length_toList
theorem known_str {σ : Store} {x : Str} (h : ∀ c ∈ x.cps.toList, c < 128) (hl : x.length ≤ 1000) : Known σ (.str x) :=
  .inl ⟨x, rfl, by rw [Array.all_eq_true_iff_forall_mem]; intro c hc; exact decide_eq_true (h c (Array.mem_toList_iff.mpr hc)), hl⟩
theorem b_mull {mu : Bool} {σ : Store} {Q : KV} {l : List AV} {x : Int} (h0 : 0 ≤ x) (h1 : l.length * x.toNat ≤ 1000000) (h2 : x < 1000000) (h : frs mu σ (.list (List.replicate x.toNat l).flatten) (.list (List.replicate x.toNat l).flatten) Q) : binV mu .Mult (.list l) (.int x) σ Q := .mull (dl_list _ _) h0 h1 h2 h
theorem k14 {k : Int} (h : 0 ≤ k ∧ k < 14) : k = 0 ∨ k = 1 ∨ k = 2 ∨ k = 3 ∨ k = 4 ∨ k = 5 ∨ k = 6 ∨ k = 7 ∨ k = 8 ∨ k = 9 ∨ k = 10 ∨ k = 11 ∨ k = 12 ∨ k = 13 := by
  obtain ⟨n, rfl⟩ := Int.eq_ofNat_of_zero_le h.1
  have all : ∀ n : Nat, n < 14 → ((n : Int) = 0 ∨ (n : Int) = 1 ∨ (n : Int) = 2 ∨ (n : Int) = 3 ∨ (n : Int) = 4 ∨ (n : Int) = 5 ∨ (n : Int) = 6 ∨ (n : Int) = 7 ∨ (n : Int) = 8 ∨ (n : Int) = 9 ∨ (n : Int) = 10 ∨ (n : Int) = 11 ∨ (n : Int) = 12 ∨ (n : Int) = 13) := by decide
  exact all n (Int.ofNat_lt.mp h.2)
set_option maxHeartbeats 8000000 in
theorem wrong_vc {Q : KV} {rs : List Str} {wd : Nat} {c : Int} {σ : Store} (G : Good S W) (hq : S.hx = Option.none) (g : Grid rs wd) (h : ∀ v, BadV σ v → Q v σ) : vcSs S W X [] c_wrong.body (argsM [.list (rs.map .str), .int c]) σ (RetK S Q) := by
  unfold c_wrong
  have hl : rs.length ≤ 6 := g.ht6
  have hl1 := g.ht1
  have hw := g.wd6
  have hw1 := g.wd1
  repeat k_caught0
  refine b_div (by decide) (by decide) ?_
  repeat k_caught0
  refine c_lenL (by rw [List.length_map]; unfold big; omega) ?_
  rw [List.length_map]
  repeat k_caught0
  refine b_mod (by omega) ?_
  have hm := fmod_pos (a := c.fdiv 14) (b := (rs.length : Int)) (by omega)
  generalize (c.fdiv 14).fmod (rs.length : Int) = i at hm
  obtain ⟨row, hrow⟩ : ∃ row, rs[i.toNat]? = some row := ⟨_, List.getElem?_eq_getElem (by omega : i.toNat < rs.length)⟩
  have hat : (rs.map AV.str)[i.toNat]? = some (.str row) := by rw [List.getElem?_map, hrow]; rfl
  have hmem : row ∈ rs := List.mem_of_getElem? hrow
  have hrl : row.length = wd := g.len row hmem
  obtain ⟨r0, rt, hr0⟩ : ∃ r0 rt, rs = r0 :: rt := by
    cases rs with
    | nil => simp at hl1
    | cons r0 rt => exact ⟨r0, rt, rfl⟩
  have hr0m : r0 ∈ rs := by rw [hr0]; simp
  have hr0l : r0.length = wd := g.len r0 hr0m
  repeat k_caught0
  refine u_list rfl (by omega) hat (by omega) ?_
  repeat k_caught0
  refine ⟨rs.map .str, (rs.map .str).take i.toNat, rfl, by simp; unfold big; omega, by simp [cut]; omega, ?_⟩
  repeat k_caught0
  refine ⟨rs.map .str, (rs.map .str).drop (i + 1).toNat, rfl, by simp; unfold big; omega, by simp [cut]; omega, ?_⟩
  repeat k_caught0
  refine .tupL (l := rs.map .str) rfl (by simp; unfold big; omega) ?_
  repeat k_caught0
  refine o_str ?_
  repeat k_caught0
  have hsum : ∀ l : List Str, (∀ r ∈ l, r.length = wd) → (l.map (·.length)).sum = l.length * wd := by
    intro l
    induction l with
    | nil => intro _; simp
    | cons r l ih => intro hh; rw [List.map_cons, List.sum_cons, ih fun r hr => hh r (.tail _ hr), hh r (.head _), List.length_cons, Nat.succ_mul]; omega
  have hnl : ("\n" : Str).length = 1 := by decide +kernel
  have hprod : rs.length * wd ≤ 36 := Nat.le_trans (Nat.mul_le_mul hl hw) (by decide)
  refine m_join (ys := rs) rfl (by rw [hsum rs g.len, hnl]; omega) ?_
  repeat k_caught0
  refine b_mull (by decide) (by simp; omega) (by decide) ?_
  repeat k_caught0
  first | refine s_assignC rfl ?_ | refine e_comp rfl ?_
  repeat k_caught0
  refine ⟨by simp; unfold big; omega, ?_⟩
  refine compV_ind (fun items ys σ' => σ = σ' ∧ ∃ dr rest : List Str, rs = dr ++ rest ∧ items = rest.map .str ∧ ys = dr.map (fun r => .str (Txt.mul r 7))) ?_ ?_ ⟨rfl, [], rs, rfl, rfl, rfl⟩
  rotate_left
  · rintro x r ys σ' ⟨rfl, dr, rest, hrs, hi, rfl⟩ C hC
    cases rest with
    | nil => simp at hi
    | cons ro rest =>
    simp only [List.map_cons, List.cons.injEq] at hi
    obtain ⟨rfl, rfl⟩ := hi
    repeat k_caught0
    refine b_muls (mul_ok (by have := g.len ro (by rw [hrs]; simp); omega) (by decide) (by decide)) ?_
    exact ⟨trivial, hC _ _ ⟨rfl, dr ++ [ro], rest, by rw [hrs]; simp, rfl, by simp⟩⟩
  rintro ys σ' ⟨rfl, dr, rest, hrs, hi, rfl⟩
  obtain rfl : rest = [] := by cases rest with | nil => rfl | cons _ _ => simp at hi
  rw [List.append_nil] at hrs
  subst hrs
  repeat k_caught0
  have hx1 : (Str.ofString "x") = ⟨#[120]⟩ := by decide +kernel
  have hsp : (Str.ofString " ") = ⟨#[32]⟩ := by decide +kernel
  have hem : (Str.ofString "") = ⟨#[]⟩ := by decide +kernel
  have l1c : ∀ d : Nat, (⟨#[d]⟩ : Str).length = 1 := fun zz => rfl
  have mlen : ∀ (d : Nat) (n : Int), (Txt.mul ⟨#[d]⟩ n).length = n.toNat := fun d n => by rw [← str_len, mul_one]; simp
  have hap : ∀ x ∈ (rs.map AV.str).take i.toNat, Known σ x := fun x hx => known_row g (List.mem_of_mem_take hx)
  have hbp : ∀ x ∈ (rs.map AV.str).drop (i + 1).toNat, Known σ x := fun x hx => known_row g (List.mem_of_mem_drop hx)
  refine b_addl rfl rfl (by simp; unfold big; omega) ?_
  repeat k_caught0
  refine b_addl rfl rfl (by simp; unfold big; omega) ?_
  repeat k_caught0
  refine u_list (x := .str r0) rfl (by decide) (by rw [hr0]; rfl) (by decide) ?_
  repeat k_caught0
  rw [s_hash]
  refine b_adds (by rw [hr0l, l1c]; unfold big; omega) ?_
  repeat k_caught0
  refine b_addl rfl rfl (by simp; unfold big; omega) ?_
  repeat k_caught0
  refine b_mull (by decide) (by simp) (by decide) ?_
  repeat k_caught0
  refine c_lenS (by unfold big; omega) ?_
  rw [hx1, hrl]
  refine b_muls (mul_ok (by rw [l1c]; decide) (by omega) (by omega)) ?_
  repeat k_caught0
  refine b_addl rfl rfl (by simp; unfold big; omega) ?_
  repeat k_caught0
  refine b_addl rfl rfl (by simp; unfold big; omega) ?_
  repeat k_caught0
  refine b_addl rfl rfl (Nat.le_of_ble_eq_true rfl) ?_
  repeat k_caught0
  refine .listS hq (by unfold big; omega) ?_
  repeat k_caught0
  refine b_mull (by decide) (by simp) (by decide) ?_
  repeat k_caught0
  refine ⟨_, by unfold big; omega, rfl, ?_⟩
  have es : (Txt.slice row Option.none (some (-1))).cps.toList = row.cps.toList.take (row.length - 1) := slice_last (by omega)
  have ls : (Txt.slice row Option.none (some (-1))).length = wd - 1 := by rw [← str_len, es, List.length_take, str_len]; omega
  repeat k_caught0
  rw [hsp]
  refine b_adds (by rw [ls, l1c]; unfold big; omega) ?_
  repeat k_caught0
  refine b_addl rfl rfl (by simp; unfold big; omega) ?_
  repeat k_caught0
  refine b_addl rfl rfl (by simp; unfold big; omega) ?_
  repeat k_caught0
  refine c_lenS (by unfold big; omega) ?_
  rw [s_dot, hrl]
  refine b_muls (mul_ok (by rw [l1c]; decide) (by omega) (by omega)) ?_
  repeat k_caught0
  refine c_lenL (by rw [List.length_map]; unfold big; omega) ?_
  rw [List.length_map]
  refine b_mull (by omega) (by simp; omega) (by omega) ?_
  repeat k_caught0
  refine b_addl rfl rfl (Nat.le_of_ble_eq_true rfl) ?_
  repeat k_caught0
  refine b_mod (by decide) ?_
  have h14 := fmod_pos (a := c) (b := 14) (by decide)
  generalize c.fmod 14 = k at h14
  have sgn : ∀ r ∈ rs, ∀ d ∈ r.cps.toList, d < 128 := fun r hr d hd => by rcases g.sg r hr d hd with rfl | rfl <;> decide
  have mid : ∀ {y : AV} (x : AV), x ∈ (rs.map AV.str).take i.toNat ++ [y] ++ (rs.map AV.str).drop (i + 1).toNat → Known σ y → Known σ x := fun {y} x hx hy => by
    simp only [List.mem_append, List.mem_singleton] at hx
    rcases hx with (q | q) | q
    · exact hap x q
    · rw [q]; exact hy
    · exact hbp x q
  have midl : ∀ y : AV, ((rs.map AV.str).take i.toNat ++ [y] ++ (rs.map AV.str).drop (i + 1).toNat).length ≤ 1000 := fun y => by simp; omega
  have kk : k = 0 ∨ k = 1 ∨ k = 2 ∨ k = 3 ∨ k = 4 ∨ k = 5 ∨ k = 6 ∨ k = 7 ∨ k = 8 ∨ k = 9 ∨ k = 10 ∨ k = 11 ∨ k = 12 ∨ k = 13 := k14 h14
  rcases kk with rfl | rfl | rfl | rfl | rfl | rfl | rfl | rfl | rfl | rfl | rfl | rfl | rfl | rfl <;> refine u_list rfl (by decide) rfl (by decide) (RetK.val (h _ ?_))
  · exact .inl ⟨_, rfl, rfl⟩
  · exact .inl ⟨_, rfl, rfl⟩
  · exact .inl ⟨_, rfl, rfl⟩
  · exact .inr ⟨_, rfl, by simp, by simp, rfl⟩
  · refine .inr ⟨_, rfl, by simp; omega, fun x hx => ?_, ?_⟩
    · simp only [List.mem_flatten, List.mem_replicate] at hx
      obtain ⟨l, ⟨_, rfl⟩, hx⟩ := hx
      exact known_row g hx
    · unfold rowsOk
      rw [decide_eq_false (by simp; omega)]; rfl
  · have l7 : ∀ r ∈ rs, (Txt.mul r 7).length = 7 * wd := fun r hr => by
      rw [← str_len, mul_toList]; simp; rw [show r.cps.size = r.length from rfl, g.len r hr]; omega
    refine .inr ⟨_, rfl, by simp; omega, fun x hx => ?_, bad_text (x := .str (Txt.mul r0 7)) (List.mem_map.mpr ⟨r0, hr0m, rfl⟩) ?_⟩
    · obtain ⟨r, hr, rfl⟩ := List.mem_map.mp hx
      refine known_str (fun d hd => ?_) (by rw [l7 r hr]; omega)
      rw [mul_toList] at hd
      simp only [List.mem_flatten, List.mem_replicate] at hd
      obtain ⟨l, ⟨_, rfl⟩, hd⟩ := hd
      exact sgn r hr d hd
    · simp only [textOk]; rw [l7 r0 hr0m]; simp; omega
  · exact .inr ⟨_, rfl, midl _, fun x hx => mid x hx (.inr ⟨_, rfl, by decide⟩), bad_text (x := .int 5) (by simp) rfl⟩
  · refine .inr ⟨_, rfl, by simp; omega, fun x hx => ?_, bad_row (x := .str (r0 ++ ⟨#[35]⟩)) (by simp) ?_⟩
    · simp only [List.mem_append, List.mem_singleton] at hx
      rcases hx with q | rfl
      · exact known_row g q
      · refine known_str (fun d hd => ?_) (by rw [app_len, hr0l, l1c]; omega)
        rw [app_toList] at hd
        rcases List.mem_append.mp hd with q | q
        · exact sgn r0 hr0m d q
        · simp at q; subst q; decide
    · have : lenOf ((rs.map AV.str ++ [AV.str (r0 ++ ⟨#[35]⟩)]).headD .none) = wd := by rw [hr0]; exact hr0l
      rw [this]
      simp only [rowOk, app_len, hr0l, l1c]
      rw [show (wd + 1 == wd) = false by simp]; rfl
  · refine .inr ⟨_, rfl, by simp, fun x hx => ?_, bad_text (x := .str (Str.ofString "")) (by simp) (by rw [hem]; rfl)⟩
    have : x = .str (Str.ofString "") := by simpa using hx
    rw [this, hem]
    exact known_str (by simp) (by decide)
  · refine .inr ⟨_, rfl, midl _, fun x hx => mid x hx (known_str (fun d hd => ?_) (by rw [mlen]; omega)), bad_row (x := .str (Txt.mul ⟨#[120]⟩ wd)) (by simp) ?_⟩
    · rw [mul_one] at hd
      have := List.eq_of_mem_replicate hd
      subst this; decide
    · simp only [rowOk, mul_one]
      have : (List.replicate ((wd : Int).toNat) 120).all signOk = false := by
        rw [Bool.eq_false_iff]; intro q
        have := List.all_eq_true.mp q 120 (by simp; omega)
        cases this
      rw [this]; simp
  · refine .inr ⟨_, rfl, by simp, fun x hx => ?_, bad_text (x := .list (signs row)) (by simp) rfl⟩
    have : x = .list (signs row) := by simpa using hx
    rw [this]
    exact .inr ⟨_, rfl, by decide⟩
  · exact .inl ⟨_, rfl, rfl⟩
  · refine .inr ⟨_, rfl, midl _, fun x hx => mid x hx (known_str (fun d hd => ?_) (by rw [app_len, ls, l1c]; omega)), bad_row (x := .str (Txt.slice row Option.none (some (-1)) ++ ⟨#[32]⟩)) (by simp) ?_⟩
    · rw [app_toList, es] at hd
      rcases List.mem_append.mp hd with q | q
      · exact sgn row hmem d (List.mem_of_mem_take q)
      · simp at q; subst q; decide
    · simp only [rowOk, app_toList]
      have : ((Txt.slice row Option.none (some (-1))).cps.toList ++ (⟨#[32]⟩ : Str).cps.toList).all signOk = false := by
        rw [Bool.eq_false_iff]; intro q
        have := List.all_eq_true.mp q 32 (by simp)
        cases this
      rw [this]; simp
  · have all : ∀ x ∈ (List.replicate ((rs.length : Int)).toNat [AV.str (Txt.mul ⟨#[46]⟩ wd)]).flatten, x = .str (Txt.mul ⟨#[46]⟩ wd) := fun x hx => by
      simp only [List.mem_flatten, List.mem_replicate] at hx
      obtain ⟨l, ⟨_, rfl⟩, hx⟩ := hx
      simpa using hx
    have rep : ∀ d ∈ (Txt.mul ⟨#[46]⟩ (wd : Int)).cps.toList, d = 46 := fun d hd => by rw [mul_one] at hd; exact List.eq_of_mem_replicate hd
    refine .inr ⟨_, rfl, by simp; omega, fun x hx => ?_, ?_⟩
    · rw [all x hx]
      exact known_str (fun d hd => by rw [rep d hd]; decide) (by rw [mlen]; omega)
    · unfold rowsOk
      have : ((List.replicate ((rs.length : Int)).toNat [AV.str (Txt.mul ⟨#[46]⟩ wd)]).flatten).any hasCell = false := by
        rw [Bool.eq_false_iff]; intro q
        obtain ⟨x, hx, hc⟩ := List.any_eq_true.mp q
        rw [all x hx] at hc
        simp only [hasCell] at hc
        obtain ⟨j, hj, hd⟩ := Array.any_eq_true.mp hc
        have := rep _ (Array.mem_toList_iff.mpr (Array.getElem_mem hj))
        rw [this] at hd; cases hd
      rw [this]; simp
end
section
open PySem PyProof.Rows PySem.W
variable {prog : Program} {w : World} {S : Sta prog w} {W : Wd} {X : KX}
noncomputable def c_marks : FnCore := ⟨[90233379350378998227153714054542338114227455176400177201248, 79248450939308422951359488504115116927624233569666205745248], 1, [.assign (.v 1) (.list [(.call (.g 1) [(.v 0), (.g 19)]), (.call (.g 1) [(.v 0), (.g 20)]), (.call (.g 1) [(.v 0), (.g 21)])]), .assign (.v 1) (.bin .Add (.v 1) (.list [(.call (.g 1) [(.v 0), (.g 22)]), (.call (.g 1) [(.v 0), (.g 23)]), (.call (.g 1) [(.v 0), (.g 24)])])), .assign (.v 1) (.bin .Add (.v 1) (.list [(.call (.g 1) [(.v 0), (.g 25)]), (.call (.g 1) [(.v 0), (.g 26)]), (.call (.g 1) [(.v 0), (.g 27)])])), .ret (.bin .Add (.v 1) (.list [(.call (.g 1) [(.v 0), (.g 18)]), (.call (.g 1) [(.v 0), (.g 17)])]))]⟩
noncomputable def c_alone : FnCore := ⟨[90233379350378998227153714054542338114227455176400177201248, 80033084540639579203529368251194428811096298434648411734112, 4381002331299926544718449986240608], 2, [.ret (.cmp .Eq (.call (.g 78) [(.v 0)]) (.comp (.or [(.cmp .Eq (.v 2) (.v 1)), (.cmp .Gt (.v 2) (.int 8))]) 2 (.call (.g 8) [(.int 11)]) []))]⟩
noncomputable def c_refusal : FnCore := ⟨[43400774030903411559313583009360306713791419551580256, 90233379350378998227153714054542338114227455176400177201248, 4381002331299926544718449986240608], 1, [.try_ [.ret (.list [(.int 3), (.meth (.call (.g 29) [(.v 0)]) 16 [])])] (.g 18) (some 1) [.ret (.bin .Add (.comp (.v 2) 2 (.call (.g 8) [(.int 3)]) [(.call (.g 79) [(.v 1), (.v 2)])]) (.list [(.str "refused")]))]]⟩
noncomputable def marksOf (c : Nat) : List AV := [19, 20, 21, 22, 23, 24, 25, 26, 27, 18, 17].map fun j => .bool (xsub c j)
theorem marks_vc {Q : KV} {c : Nat} {σ : Store} (G : Good S W) (hU : Uses W [17, 18, 19, 20, 21, 22, 23, 24, 25, 26, 27]) (h1 : 18 ≤ c ∧ c ≤ 27) (h2 : W.U c = true) (h : Q (.list (marksOf c)) σ) : vcSs S W X [] c_marks.body (argsM [.exc c]) σ (RetK S Q) := by
  unfold c_marks
  repeat k_caught0
  refine b_addl rfl rfl (Nat.le_of_ble_eq_true rfl) ?_
  repeat k_caught0
  refine b_addl rfl rfl (Nat.le_of_ble_eq_true rfl) ?_
  repeat k_caught0
  refine b_addl rfl rfl (Nat.le_of_ble_eq_true rfl) ?_
  repeat k_caught0
  exact RetK.val h
theorem alone_vc {Q : KV} {c p : Nat} {σ : Store} (G : Good S W) (u78 : W.U 78 = true) (hc : c = 19 ∨ c = 20 ∨ c = 21) (hp : p < 3)
    (hmarks : ∀ (σ : Store) (Q : KV), Q (.list (marksOf c)) σ → OwnT S W.k 78 [.exc c] σ Q X) (h : Q (.bool (c == 19 + p)) σ) : vcSs S W X [] c_alone.body (argsM [.exc c, .int p]) σ (RetK S Q) := by
  unfold c_alone
  repeat k_caught0
  refine hmarks _ _ ?_
  repeat k_caught0
  first | refine s_assignC rfl ?_ | refine e_comp rfl ?_
  repeat k_caught0
  refine i_rng (by decide) (by decide) (by decide) (by decide) ?_
  refine ⟨Nat.le_of_ble_eq_true rfl, ?_⟩
  refine compV_ind (fun items ys σ' => σ = σ' ∧ ∃ k n : Nat, items = intsA k n ∧ k + n = 11 ∧ ys = (List.range k).map (fun j : Nat => AV.bool (((j : Int) == (p : Int)) || decide ((8 : Int) < (j : Int))))) ?_ ?_ ⟨rfl, 0, 11, rfl, rfl, rfl⟩
  · rintro ys σ' ⟨rfl, k, n, hi, hkn, rfl⟩
    obtain rfl : n = 0 := by cases n with | zero => rfl | succ _ => simp [intsA] at hi
    obtain rfl : k = 11 := by omega
    repeat k_caught0
    have : p = 0 ∨ p = 1 ∨ p = 2 := by omega
    rcases hc with rfl | rfl | rfl <;> rcases this with rfl | rfl | rfl <;> exact .eq rfl rfl rfl rfl (RetK.val h)
  · rintro x r ys σ' ⟨rfl, k, n, hi, hkn, rfl⟩ C hC
    cases n with
    | zero => simp [intsA] at hi
    | succ n =>
    simp only [intsA, List.cons.injEq] at hi
    obtain ⟨rfl, rfl⟩ := hi
    repeat k_caught0
    have fin : ∀ b : Bool, b = (((k : Int) == (p : Int)) || decide ((8 : Int) < (k : Int))) → C (((List.range k).map (fun j : Nat => AV.bool (((j : Int) == (p : Int)) || decide ((8 : Int) < (j : Int))))) ++ [.bool b]) σ := fun b hb =>
      hC _ _ ⟨rfl, k + 1, n, by simp, by omega, by rw [List.range_succ]; simp [hb]⟩
    by_cases e : ((k : Int) == (p : Int)) = true
    · rw [e]
      repeat k_caught0
      exact ⟨trivial, fin _ (by rw [e]; rfl)⟩
    · rw [Bool.eq_false_iff.mpr e]
      repeat k_caught0
      exact ⟨trivial, fin _ (by rw [Bool.eq_false_iff.mpr e]; rfl)⟩
theorem IsFn.grow {f : Addr} {c : FnCore} {g' : Heap} {k : ∀ b o, S.g.get? b = some o → g'.get? b = some o} {x : Addr} {hx : ∃ o vs, g'.get? x = some o ∧ o.data = .fields vs ∧ vs[2]? = some Value.none} (h : IsFn S f c) : IsFn (S.grow g' k x hx) f c := by
  obtain ⟨o, fd, body, names, ho, hd, hb, hcl, hg, hbl, hk, hco, hgen, hcd, hnl, hbind, hnm, hnd, hcs⟩ := h.ex
  exact ⟨o, fd, body, names, k _ _ ho, hd, hb, hcl, hg, hbl, hk, hco, hgen, hcd.keeps k, hnl, hbind, hnm, hnd, hcs⟩
theorem Fn.grow {i : Nat} {c : FnCore} {g' : Heap} {k : ∀ b o, S.g.get? b = some o → g'.get? b = some o} {x : Addr} {hx : ∃ o vs, g'.get? x = some o ∧ o.data = .fields vs ∧ vs[2]? = some Value.none} (h : Fn S i c) : Fn (S.grow g' k x hx) i c := by
  obtain ⟨a, e, f⟩ := h
  exact ⟨a, e, f.grow⟩
theorem Good.grow {g' : Heap} {k : ∀ b o, S.g.get? b = some o → g'.get? b = some o} {x : Addr} {hx : ∃ o vs, g'.get? x = some o ∧ o.data = .fields vs ∧ vs[2]? = some Value.none} (G : Good S W) : Good (S.grow g' k x hx) W := by
  refine ⟨fun i hi => ⟨(G.glob i hi).at_⟩, G.bu, ?_, G.base, G.six, ⟨G.floor.cv, G.floor.get, G.floor.has, G.floor.setattr, G.floor.over, G.floor.make⟩, ⟨G.texts.find, G.texts.take⟩, ⟨G.cells.find, G.cells.take⟩, ?_, G.exk, G.sub, G.meth⟩
  · intro i hi h17 h28
    have := G.own i hi h17 h28
    exact fun h kk => this h fun b o e => kk b o (k b o e)
  · intro i h1 h2 hu
    obtain ⟨x, C, bm, nid, ini, hix, hcv, O, FB⟩ := G.exc i h1 h2 hu
    exact ⟨x, C, bm, nid, ini, hix, hcv, O.keeps k, FB⟩
end
section
open PySem PyProof.Rows PySem.W
variable {prog : Program} {w : World} {S : Sta prog w} {W : Wd} {X : KX}
theorem rowCells_nil {y : Int} : ∀ {l : List Nat} {x : Int}, rowCells y x l = [] ↔ ∀ c ∈ l, (c == 35) = false
  | [], _ => by simp [rowCells]
  | c :: r, x => by
    rw [rowCells_cons]
    by_cases h : (c == 35) = true
    · rw [if_pos h]; simp; intro q; simp at h; exact absurd h q
    · rw [if_neg h, rowCells_nil]; simp at h ⊢; intro _; exact h
theorem cellsFrom_nil : ∀ {rs : List Str} {y : Int}, cellsFrom' y rs = [] ↔ ∀ r ∈ rs, hasCell (.str r) = false
  | [], _ => by simp [cellsFrom']
  | r :: rs, y => by
    unfold cellsFrom'
    rw [List.append_eq_nil_iff, rowCells_nil, cellsFrom_nil]
    have : hasCell (.str r) = false ↔ ∀ c ∈ r.cps.toList, (c == 35) = false := by
      simp only [hasCell]
      rw [← Array.any_toList, List.any_eq_false]
      simp
    rw [← this]; simp
theorem grid_ok {rs : List Str} {wd : Nat} (g : Grid rs wd) : rowsOk (rs.map .str) = !(cellsOf rs).isEmpty := by
  unfold rowsOk
  have h1 : (rs.map AV.str).all textOk = true := List.all_eq_true.mpr fun x hx => by
    obtain ⟨r, hr, rfl⟩ := List.mem_map.mp hx
    simp only [textOk]; have := g.len r hr; have := g.wd1; have := g.wd6
    exact decide_eq_true (by omega)
  obtain ⟨r0, rt, hr0⟩ : ∃ r0 rt, rs = r0 :: rt := by
    cases rs with
    | nil => have := g.ht1; simp at this
    | cons r0 rt => exact ⟨r0, rt, rfl⟩
  have h2 : (rs.map AV.str).all (rowOk (lenOf ((rs.map AV.str).headD .none))) = true := List.all_eq_true.mpr fun x hx => by
    obtain ⟨r, hr, rfl⟩ := List.mem_map.mp hx
    have e : lenOf ((rs.map AV.str).headD .none) = wd := by rw [hr0]; exact g.len r0 (by rw [hr0]; simp)
    rw [e]
    simp only [rowOk, g.len r hr, beq_self_eq_true, Bool.true_and]
    refine List.all_eq_true.mpr fun c hc => ?_
    rcases g.sg r hr c hc with rfl | rfl <;> rfl
  rw [h1, h2, decide_eq_true (by rw [List.length_map]; exact ⟨g.ht1, g.ht6⟩)]
  simp only [Bool.true_and]
  by_cases q : cellsOf rs = []
  · rw [q]
    have := cellsFrom_nil.mp q
    rw [Bool.eq_iff_iff]; simp; intro r hr; exact this r hr
  · have : (cellsOf rs).isEmpty = false := by cases z : cellsOf rs with | nil => exact absurd z q | cons _ _ => rfl
    rw [this]
    cases z : (rs.map AV.str).any hasCell with
    | true => rfl
    | false =>
      exfalso; apply q
      refine cellsFrom_nil.mpr fun r hr => ?_
      rw [List.any_eq_false] at z
      have := z (.str r) (List.mem_map.mpr ⟨r, hr, rfl⟩)
      simpa using this
structure Proj (S : Sta prog w) (W : Wd) : Prop where
  G : Good S W
  us : Uses W [17, 18, 19, 20, 21, 22, 23, 24, 25, 26, 27, 28, 29, 34, 35, 36]
  near : Fn S 34 c_near
  spread : Fn S 35 c_spread
  rows : Fn S 36 c_arerows
  init : ∃ f, findIn S.K (.ref W.C) "__init__" = some (some (.ref f)) ∧ isFn S.K (.ref f) = true ∧ IsFn S f c_init
  around : ∃ f, W.M 13 = some f ∧ IsFn S f c_around
  cells : ∃ f, W.M 16 = some f ∧ IsFn S f c_fcells
theorem rows_own {k : Nat} {Q : KV} {σ : Store} {l : List AV} (P : Proj S W) (hq : S.hx = Option.none) (hl : l.length ≤ 1000) (hk : ∀ x ∈ l, Known σ x) (h : Q (.bool (rowsOk l)) σ) : OwnT S (k + 1) 36 [.list l] σ Q X :=
  P.rows.own P.G rfl (arerows_vc (P.G.at _) hq (P.us 28 (by decide)) hl hk h)
theorem BadV.rows {k : Nat} {Q : KV} {σ : Store} {v : AV} (P : Proj S W) (hq : S.hx = Option.none) (hb : BadV σ v) (h : Q (.bool false) σ) : OwnT S (k + 1) 36 [v] σ Q X := by
  rcases hb with ⟨t, h1, h2⟩ | ⟨l, rfl, h1, h2, h3⟩
  · exact P.rows.own P.G rfl (arerows_not (P.G.at _) h1 h2 h)
  · exact rows_own P hq h1 h2 (by rw [h3]; exact h)
theorem tyA_keep {σ σ' : Store} {v : AV} {t : Ty} (k : Keep σ σ') (h : tyA σ v = some t) : tyA σ' v = some t := by
  cases v with
  | loc a =>
    simp only [tyA] at h ⊢
    cases e : σ a with
    | none => rw [e] at h; cases h
    | some o => rw [k a (by unfold Dom; rw [e]; simp), e]; rw [e] at h; exact h
  | _ => exact h
theorem BadV.keep {σ σ' : Store} {v : AV} (k : Keep σ σ') (hb : BadV σ v) : BadV σ' v := by
  rcases hb with ⟨t, h1, h2⟩ | ⟨l, rfl, h1, h2, h3⟩
  · exact .inl ⟨t, tyA_keep k h1, h2⟩
  · refine .inr ⟨l, rfl, h1, fun x hx => ?_, h3⟩
    rcases h2 x hx with q | ⟨t, q, n⟩
    · exact .inl q
    · exact .inr ⟨t, tyA_keep k q, n⟩
theorem floor_bad {k : Nat} {Q : KV} {σ : Store} {v : AV} (P : Proj S W) (hq : S.hx = Option.none) (hb : BadV σ v) (hX : ∀ σ', Keep σ σ' → X 19 σ') : OwnT S (k + 4) 29 [v] σ Q X := by
  obtain ⟨fi, hi, hf, hfn⟩ := P.init
  intro F hk m
  rw [P.G.floor.cv]
  refine CT.make (k := k + 3) P.G.floor hi hf (by omega) fun x dx nx ndx ne => ?_
  have kp : Keep σ ((σ.set dx (.attrs [])).set x (.inst dx)) := ((Keep.refl σ).set ndx).set nx
  exact CallT.vc (W := W.at (k + 2)) (mus := []) (P.G.at _) hfn rfl (Nat.le_refl _) (init_bad (P.G.at _) hq (P.us 36 (by decide)) (P.us 19 (by decide)) (fun Q h => (hb.keep kp).rows P hq h) (hX _ kp))
theorem floor_good {k : Nat} {Q : KV} {σ : Store} {rs : List Str} {wd : Nat} {a : Spot} {P' : List Spot} (P : Proj S W) (hq : S.hx = Option.none) (g : Grid rs wd) (hP : cellsOf rs = a :: P')
    (h20 : ¬ Hangs (cellsOf rs) a → ∀ σ', Keep σ σ' → X 20 σ') (h21 : Hangs (cellsOf rs) a → ¬ Hangs (freeOf (cellsOf rs) wd rs.length) (-1, -1) → ∀ σ', Keep σ σ' → X 21 σ')
    (h3 : Hangs (cellsOf rs) a → Hangs (freeOf (cellsOf rs) wd rs.length) (-1, -1) → Q (floorV rs) σ) : OwnT S (k + 4) 29 [.list (rs.map .str)] σ Q X := by
  obtain ⟨fi, hi, hf, hfn⟩ := P.init
  obtain ⟨fa, hfa, ha⟩ := P.around
  intro F hk m
  rw [P.G.floor.cv]
  refine CT.make (k := k + 3) P.G.floor hi hf (by omega) fun x dx nx ndx ne => ?_
  have hl : (rs.map AV.str).length ≤ 1000 := by rw [List.length_map]; have := g.ht6; omega
  obtain ⟨r0, rt, hr0⟩ : ∃ r0 rt, rs = r0 :: rt := by
    cases rs with
    | nil => have := g.ht1; simp at this
    | cons r0 rt => exact ⟨r0, rt, rfl⟩
  have hr0l : r0.length = wd := g.len r0 (by rw [hr0]; simp)
  refine CallT.vc (W := W.at (k + 2)) (mus := []) (P.G.at _) hfn rfl (Nat.le_refl _) (init_vc (P.G.at _) hq (P.us 35 (by decide)) (P.us 36 (by decide)) (P.us 20 (by decide)) (P.us 21 (by decide)) g nx ndx ne hP
    (fun σ Q h => rows_own P hq hl (fun x hx => known_row g hx) (by rw [grid_ok g, hP]; exact h)) (fun a v Pd σ Q h1 h2 h3 => spread_own P.G hq (P.us 34 (by decide)) P.near P.spread h1 h2 h3) ?_ h20 h21 h3)
  intro σ Q t o sx sd st so h
  refine ⟨fa, hfa, MethT.fn (CallT.vc (W := W.at (k + 1)) (mus := [1]) (P.G.at _) ha rfl (Nat.le_refl _) (around_vc (fs := [("texts", .loc t), ("own", .loc o)]) (vt := .loc t) (vo := .loc o) (P := trues (cellsOf rs)) (l := rs.map .str) (r0 := r0) (P.G.at _) ?_ fget_texts fget_own rfl rfl ?_ ?_ ?_ ?_ ?_ ?_ ?_))⟩
  · simp only [attrsOf, sx, sd]
  · intro σ' kp
    exact Keep.dl kp (by simp only [dl, st])
  · simp only [dd, so]
  · intro σ' kp
    have e1 : σ' x = some (.inst dx) := by rw [kp x (by unfold Dom; rw [sx]; simp)]; exact sx
    have e2 : σ' dx = some (.attrs [("texts", .loc t), ("own", .loc o)]) := by rw [kp dx (by unfold Dom; rw [sd]; simp)]; exact sd
    simp only [attrsOf, e1, e2]
  · rw [hr0]; rfl
  · rw [List.length_map]; exact g.ht6
  · rw [hr0l]; exact g.wd6
  · rw [trues_keys, hr0l, List.length_map]; exact h
end
section
open PySem PyProof.Rows PySem.W
variable {prog : Program} {w : World} {S : Sta prog w} {W : Wd} {X : KX}
theorem trues_map (fs : List Spot) : (trues fs).map (fun p => sp p.1) = fs.map sp := by simp [trues, Function.comp_def]
theorem alone_own {S : Sta prog w} {k c p : Nat} {σ : Store} {Q : KV} (G : Good S W) (us : Uses W [17, 18, 19, 20, 21, 22, 23, 24, 25, 26, 27]) (u78 : W.U 78 = true) (f78 : Fn S 78 c_marks) (f79 : Fn S 79 c_alone) (hc : c = 19 ∨ c = 20 ∨ c = 21) (hp : p < 3) (h : Q (.bool (c == 19 + p)) σ) : OwnT S (k + 2) 79 [.exc c, .int p] σ Q X :=
  f79.own G rfl (alone_vc (W := W.at (k + 1)) (G.at _) u78 hc hp (fun σ Q h => f78.own G rfl (marks_vc (W := W.at k) (G.at _) us (by omega) (us c (by rcases hc with rfl | rfl | rfl <;> decide)) h)) h)
theorem handler_vc {S : Sta prog w} {S₀ : Sta prog w} {Q : KV} {σ σ' : Store} {c : Nat} {v : AV} (G : Good S W) (u79 : W.U 79 = true) (hc : c = 19 ∨ c = 20 ∨ c = 21) (kp : Keep σ σ')
    (halone : ∀ (p : Nat) (σ : Store) (Q : KV), p < 3 → Q (.bool (c == 19 + p)) σ → OwnT S W.k 79 [.exc c, .int p] σ Q noX) (h : Q (.list [.int ((c - 19 : Nat) : Int), .str "refused"]) σ) :
    vcSs S W noX [] [.ret (.bin .Add (.comp (.v 2) 2 (.call (.g 8) [(.int 3)]) [(.call (.g 79) [(.v 1), (.v 2)])]) (.list [(.str "refused")]))] (Vars.set (argsM [v]) 1 (.exc c)) σ' (fun fl m₂ σ₂ => RetK S₀ Q fl m₂ σ₂) := by
  repeat k_caught0
  first | refine s_assignC rfl ?_ | refine e_comp rfl ?_
  repeat k_caught0
  refine i_rng (by decide) (by decide) (by decide) (by decide) ?_
  refine ⟨Nat.le_of_ble_eq_true rfl, ?_⟩
  refine compV_ind (fun items ys σ₁ => σ' = σ₁ ∧ ∃ k n : Nat, items = intsA k n ∧ k + n = 3 ∧ ys = if c - 19 < k then [AV.int ((c - 19 : Nat) : Int)] else []) ?_ ?_ ⟨rfl, 0, 3, rfl, rfl, rfl⟩
  · rintro ys σ₁ ⟨rfl, k, n, hi, hkn, rfl⟩
    obtain rfl : n = 0 := by cases n with | zero => rfl | succ _ => simp [intsA] at hi
    rw [if_pos (by omega)]
    repeat k_caught0
    refine b_addl rfl rfl (Nat.le_of_ble_eq_true rfl) ?_
    repeat k_caught0
    exact RetK.back kp h
  · rintro x r ys σ₁ ⟨rfl, k, n, hi, hkn, rfl⟩ C hC
    cases n with
    | zero => simp [intsA] at hi
    | succ n =>
    simp only [intsA, List.cons.injEq] at hi
    obtain ⟨rfl, rfl⟩ := hi
    repeat k_caught0
    refine halone k _ _ (by omega) ?_
    repeat k_caught0
    by_cases e : (c == 19 + k) = true
    · rw [e]
      have e' : c = 19 + k := by simpa using e
      repeat k_caught0
      refine ⟨trivial, hC _ _ ⟨rfl, k + 1, n, by simp, by omega, ?_⟩⟩
      rw [if_neg (by omega), if_pos (by omega), show c - 19 = k by omega]; rfl
    · rw [Bool.eq_false_iff.mpr e]
      have e' : c ≠ 19 + k := by simpa using e
      repeat k_caught0
      refine ⟨trivial, hC _ _ ⟨rfl, k + 1, n, by simp, by omega, ?_⟩⟩
      by_cases q : c - 19 < k
      · rw [if_pos q, if_pos (by omega)]
      · rw [if_neg q, if_neg (by omega)]
theorem refusal_own {k : Nat} {Q : KV} {σ : Store} {v : AV} {R : Nat → Prop} {ok : List Str → Prop} (P : Proj S W) (u78 : W.U 78 = true) (u79 : W.U 79 = true) (hq : S.hx = Option.none) (f78 : Fn S 78 c_marks) (f79 : Fn S 79 c_alone) (f84 : Fn S 84 c_refusal) (hR : ∀ c, R c → c = 19 ∨ c = 20 ∨ c = 21)
    (hfl : ∀ Q' : KV, (∀ rs, ok rs → Q' (floorV rs) σ) → OwnT S (k + 4) 29 [v] σ Q' (fun c σ' => Keep σ σ' ∧ R c)) (hok : ∀ rs, ok rs → (cellsOf rs).length ≤ 1000 ∧ Q (.list [.int 3, .list ((cellsOf rs).map sp)]) σ)
    (hx : ∀ c, R c → Q (.list [.int ((c - 19 : Nat) : Int), .str "refused"]) σ) : OwnT S (k + 5) 84 [v] σ Q noX := by
  have us : Uses W [17, 18, 19, 20, 21, 22, 23, 24, 25, 26, 27] := P.us.sub (by decide)
  obtain ⟨a, e, f⟩ := f84
  obtain ⟨fc, hfc, hcf⟩ := P.cells
  refine OwnT.fn ?_
  rw [e]
  refine CallT.try_ (k := k + 4) (X := fun c σ' => Keep σ σ' ∧ R c) (e := .list [(.int 3), (.meth (.call (.g 29) [(.v 0)]) 16 [])]) (g := 18) (i := 1) (h0 := .ret (.bin .Add (.comp (.v 2) 2 (.call (.g 8) [(.int 3)]) [(.call (.g 79) [(.v 1), (.v 2)])]) (.list [(.str "refused")]))) (hr := []) f rfl rfl (P.G.glob 18 (P.us 18 (by decide))) ?_ ?_ ?_
  · rintro c σ' ⟨_, hc⟩
    have hc' := hR c hc
    have uc : W.U c = true := us c (by rcases hc' with rfl | rfl | rfl <;> decide)
    obtain ⟨x, C, bm, nid, ini, hix, hcv, O, FB⟩ := P.G.exc c (by omega) (by omega) uc
    refine ⟨?_, C, hcv⟩
    have := (P.G.sub c 18 (by omega) (by omega) uc (by decide) (by decide) (us 18 (by decide))).1
    rw [this]; rfl
  · intro F hF
    refine vcE.run (W := W.at (k + 4)) (mu := false) (P.G.at _) (by rw [hF]; exact Nat.le_refl _) ?_
    have u29 : (W.at (k + 4)).U 29 = true := P.us 29 (by decide)
    have hfl' : ∀ Q' : KV, (∀ rs, ok rs → Q' (floorV rs) σ) → OwnT S (W.at (k + 4)).k 29 [v] σ Q' (fun c σ' => Keep σ σ' ∧ R c) := hfl
    repeat k_caught0
    refine hfl' _ fun rs hrs => ?_
    refine o_own (fs := [("texts", .list (rs.map .str)), ("own", .dict (trues (cellsOf rs)))]) (by decide) (by show (W.M 16).isSome = true; rw [hfc]; rfl) rfl two_ok ?_
    repeat k_caught0
    refine m_own (by decide) ⟨fc, hfc, MethT.fn (CallT.vc (W := W.at (k + 3)) (mus := []) (P.G.at _) hcf rfl (Nat.le_refl _) (fcells_vc (vo := .none) (P.G.at _) hq rfl fget_own (by simp [trues]; exact (hok rs hrs).1) ?_))⟩
    rw [trues_map]
    repeat k_caught0
    exact RetK.val (hok rs hrs).2
  · rintro c σ' ⟨kp, hc⟩ g' kk x hx' F' hF
    refine (vcSs.run (S := S.grow g' kk x hx') (W := W.at (k + 4)) (mus := []) (X := noX) (Good.grow (P.G.at _)) (by rw [hF]; exact Nat.le_refl _) (handler_vc (Good.grow (P.G.at _)) u79 (hR c hc) kp (fun p σ Q hp h => ?_) (hx c hc))).monoX fun zz zz z => z.no
    exact alone_own (W := W) (k := k + 2) (Good.grow P.G) us u78 f78.grow f79.grow (hR c hc) hp h
end
section
open PySem PyProof.Rows PySem.W
variable {prog : Program} {w : World} {S : Sta prog w} {W : Wd} {X : KX}
noncomputable def c_law : FnCore := ⟨[192524121870682778597944489011036038917448218529394060437475033184, 43400774030903411559313583009360306713791419551580256, 40781761134340005352671968699721311000275178949181536, 4381002331299926544718449986240608, 166196040322526725043969524243678063596587590643091508768591052896, 738174965738473527829916566139979921837915706796791579820861742079853767688288, 79248450939308422951359488504115116927624233569666205745248], 1, [.assign (.v 1) (.call (.g 76) [(.v 0)]), .assign (.v 2) (.call (.g 72) [(.v 0), (.int 2)]), .ite (.cmp .Eq (.bin .Mod (.v 2) (.int 4)) (.int 1)) [.ret (.cmp .Eq (.call (.g 84) [(.call (.g 82) [(.v 1), (.call (.g 73) [(.v 2), (.int 1)])])]) (.list [(.int 0), (.str "refused")]))] [], .for_ (.v 3) (.call (.g 8) [(.bin .Mod (.v 2) (.int 4))]) [.assign (.v 1) (.call (.g 83) [(.v 1), (.call (.g 73) [(.bin .FloorDiv (.v 2) (.int 4)), (.v 3)])])], .assign (.v 4) (.call (.g 5) [(.v 1)]), .assign (.v 5) (.call (.g 81) [(.v 1)]), .assign (.v 6) (.call (.g 84) [(.v 4)]), .ite (.or [(.cmp .NotEq (.v 4) (.v 1)), (.cmp .NotEq (.sub (.v 6) (.int 0)) (.v 5))]) [.ret (.bool false)] [], .ret (.cmp .Eq (.sub (.v 6) (.int 1)) (.ite (.cmp .Eq (.v 5) (.int 3)) (.call (.g 77) [(.v 1)]) (.str "refused")))]⟩
theorem strs_eqv (rs : List Str) : PyData.eqvAll (rs.map .str) (rs.map .str) = true := by
  induction rs with
  | nil => rfl
  | cons r rs ih => rw [List.map_cons]; simp only [PyData.eqvAll, PyData.eqv, ih, beq_self_eq_true, Bool.and_true]
theorem toPyL_strs (rs : List Str) : toPyL (rs.map AV.str) = some (rs.map PyData.str) := by
  induction rs with
  | nil => rfl
  | cons r rs ih =>
    rw [List.map_cons, List.map_cons]
    show (toPy (AV.str r)).bind (fun d => (toPyL (rs.map AV.str)).map fun ds => d :: ds) = _
    rw [ih]; rfl
theorem strs_lay {rs : List Str} (h : ∀ r ∈ rs, r.cps.all (· < 128) = true) : PyData.canLayAll0 (rs.map .str) = true ∧ PyData.depthAll (rs.map .str) = 0 := by
  induction rs with
  | nil => exact ⟨rfl, rfl⟩
  | cons r rs ih =>
    obtain ⟨h1, h2⟩ := ih fun r hr => h r (.tail _ hr)
    rw [List.map_cons]
    refine ⟨?_, by simp only [PyData.depthAll, PyData.depth, h2]; rfl⟩
    simp only [PyData.canLayAll0, PyData.canLay0, PyData.strOk, h1, Bool.and_true]
    have := h r (.head _)
    rw [Array.all_eq_true_iff_forall_mem] at this ⊢
    intro c hc
    have := this c hc
    simp at this ⊢; omega
theorem k_neR {rs : List Str} {wd : Nat} {σ : Store} {B : KB} (g : Grid rs wd) (h : B false σ) : cmpV .NotEq (.list (rs.map .str)) (.list (rs.map .str)) σ B := by
  obtain ⟨h1, h2⟩ := strs_lay fun r hr => g.ascii hr
  have e : toPyS σ (.list (rs.map .str)) = some (.list (rs.map .str)) := by show (toPyL _).map _ = _; rw [toPyL_strs]; rfl
  have sh : SeqAt.shaped (.list (rs.map .str)) = true := by unfold SeqAt.shaped; simp only [PyData.canLay0, h1, PyData.depth, h2]; rfl
  refine .ne e e sh sh ?_
  simp only [PyData.eqv, strs_eqv]; exact h
theorem refused_ok : (PyData.str "refused").canLay0 = true := by decide +kernel
theorem k_eqX {i : Int} {σ : Store} {B : KB} (h : B true σ) : cmpV .Eq (.list [.int i, .str "refused"]) (.list [.int i, .str "refused"]) σ B := by
  have sh : SeqAt.shaped (.list [.int i, .str "refused"]) = true := by
    unfold SeqAt.shaped
    simp only [PyData.canLay0, PyData.canLayAll0]
    have := refused_ok
    simp only [PyData.canLay0] at this
    rw [this]; rfl
  refine .eq (da := .list [.int i, .str "refused"]) (db := .list [.int i, .str "refused"]) rfl rfl sh sh ?_
  simp only [PyData.eqv, PyData.eqvAll, beq_self_eq_true, Bool.and_true]; exact h
theorem k_eqS {σ : Store} {B : KB} (h : B true σ) : cmpV .Eq (.str "refused") (.str "refused") σ B := by
  have sh : SeqAt.shaped (.str "refused") = true := by unfold SeqAt.shaped; rw [refused_ok]; rfl
  refine .eq (da := .str "refused") (db := .str "refused") rfl rfl sh sh ?_
  simp only [PyData.eqv, beq_self_eq_true]; exact h
theorem law_vc {Q : KV} {l : List Int} {σ : Store} (G : Good S W) (hq : S.hx = Option.none) (us : Uses W [72, 73, 76, 77, 81, 82, 83, 84])
    (hany : ∀ (σ : Store) (Q : KV), (∀ rs wd, Grid rs wd → Q (.list (rs.map .str)) σ) → OwnT S W.k 76 [.nums l] σ Q X)
    (hat : ∀ (j : Nat) (σ : Store) (Q : KV), Q (.int (l.getD j 0)) σ → OwnT S W.k 72 [.nums l, .int j] σ Q X)
    (hmixed : ∀ (a b : Int) (σ : Store) (Q : KV) (X : KX), (∀ n : Int, Q (.int n) σ) → OwnT S W.k 73 [.int a, .int b] σ Q X)
    (hbent : ∀ (rs : List Str) (wd : Nat) (c : Int) (σ : Store) (Q : KV), Grid rs wd → (∀ rs', Grid rs' wd → Q (.list (rs'.map .str)) σ) → OwnT S W.k 83 [.list (rs.map .str), .int c] σ Q noX)
    (hwrong : ∀ (rs : List Str) (wd : Nat) (c : Int) (σ : Store) (Q : KV), Grid rs wd → (∀ v, BadV σ v → Q v σ) → OwnT S W.k 82 [.list (rs.map .str), .int c] σ Q X)
    (hbad : ∀ (v : AV) (σ : Store) (Q : KV), BadV σ v → Q (.list [.int 0, .str "refused"]) σ → OwnT S W.k 84 [v] σ Q X)
    (hgrid : ∀ (rs : List Str) (wd : Nat) (σ : Store), Grid rs wd → ∃ d : Int, (∀ Q : KV, Q (.int d) σ → OwnT S W.k 81 [.list (rs.map .str)] σ Q X) ∧ ∃ v : AV, (∀ Q : KV, Q (.list [.int d, v]) σ → OwnT S W.k 84 [.list (rs.map .str)] σ Q X) ∧ ((d = 3 ∧ v = .list ((cellsOf rs).map sp)) ∨ (d ≠ 3 ∧ v = .str "refused")))
    (hcells : ∀ (rs : List Str) (wd : Nat) (σ : Store) (Q : KV), Grid rs wd → Q (.list ((cellsOf rs).map sp)) σ → OwnT S W.k 77 [.list (rs.map .str)] σ Q X)
    (h : Q (.bool true) σ) : vcSs S W X [] c_law.body (argsM [.nums l]) σ (RetK S Q) := by
  unfold c_law
  repeat k_caught0
  refine hany _ _ fun rs wd g => ?_
  repeat k_caught0
  refine hat 2 _ _ ?_
  generalize l.getD 2 0 = c
  repeat k_caught0
  refine b_mod (by decide) ?_
  have h4 := fmod_pos (a := c) (b := 4) (by decide)
  repeat k_caught0
  by_cases h1 : (c.fmod 4 == 1) = true
  · rw [h1]
    repeat k_caught0
    refine hmixed _ _ _ _ _ fun n => ?_
    repeat k_caught0
    refine hwrong rs wd n _ _ g fun v hv => ?_
    repeat k_caught0
    refine hbad v _ _ hv ?_
    repeat k_caught0
    exact k_eqX (RetK.val h)
  · rw [Bool.eq_false_iff.mpr h1]
    repeat k_caught0
    refine b_mod (by decide) ?_
    repeat k_caught0
    refine i_rng (by decide) (by decide) (by omega) (by omega) ?_
    refine forV_ind (fun items m σ' => σ = σ' ∧ m 2 = some (.int c) ∧ (∃ y n, items = intsA y n) ∧ ∃ rs, Grid rs wd ∧ m 1 = some (.list (rs.map .str))) ?_ ?_ ⟨rfl, rfl, ⟨_, _, rfl⟩, rs, g, rfl⟩
    · rintro m σ' ⟨rfl, m2, _, rs, g, m1⟩
      have hl := g.ht6
      repeat k_caught0
      refine c_listG rfl (by rw [List.length_map]; unfold big; omega) ?_
      repeat k_caught0
      obtain ⟨d, hd, v, hv, hdv⟩ := hgrid rs wd σ g
      refine hd _ ?_
      repeat k_caught0
      refine hv _ ?_
      repeat k_caught0
      refine k_neR g ?_
      repeat k_caught0
      refine u_list (x := .int d) rfl (by decide) rfl (by decide) ?_
      repeat k_caught0
      rw [show (!(d == d)) = false by simp]
      repeat k_caught0
      refine u_list (x := v) rfl (by decide) rfl (by decide) ?_
      repeat k_caught0
      rcases hdv with ⟨rfl, rfl⟩ | ⟨hd3, rfl⟩
      · rw [show ((3 : Int) == 3) = true from rfl]
        repeat k_caught0
        refine hcells rs wd _ _ g ?_
        refine k_eqP (P := cellsOf rs) (R := cellsOf rs) rfl rfl ?_
        rw [decide_eq_true rfl]
        exact RetK.val h
      · rw [show (d == 3) = false by simp [hd3]]
        repeat k_caught0
        exact k_eqS (RetK.val h)
    · rintro x r m σ' ⟨rfl, m2, ⟨y, n, hi⟩, rs, g, m1⟩ C hC
      cases n with
      | zero => simp [intsA] at hi
      | succ n =>
      simp only [intsA, List.cons.injEq] at hi
      obtain ⟨rfl, rfl⟩ := hi
      have n1 : (m.set 3 (.int y)) 1 = some (.list (rs.map .str)) := m1
      have n2 : (m.set 3 (.int y)) 2 = some (.int c) := m2
      repeat k_caught0
      refine b_div (by decide) (by decide) ?_
      repeat k_caught0
      refine hmixed _ _ _ _ _ fun k => ?_
      repeat k_caught0
      refine hbent rs wd k _ _ g fun rs' g' => ?_
      repeat k_caught0
      exact ⟨trivial, hC _ _ ⟨rfl, m2, ⟨_, _, rfl⟩, rs', g', rfl⟩⟩
end
section
open PySem PyProof.Rows PySem.W
variable {prog : Program} {w : World} {S : Sta prog w} {W : Wd} {X : KX}
structure L02 (S : Sta prog w) (W : Wd) : Prop where
  P : Proj S W
  us : Uses W [72, 73, 74, 75, 76, 77, 78, 79, 80, 81, 82, 83, 84]
  at_ : Fn S 72 c_cell_at
  mixed : Fn S 73 c_mixed
  turned : Fn S 74 c_turned_rows
  by_ : Fn S 75 c_rows_by
  any : Fn S 76 c_any_rows
  cells : Fn S 77 c_cells
  marks : Fn S 78 c_marks
  alone : Fn S 79 c_alone
  hangs : Fn S 80 c_hangs
  due : Fn S 81 c_due
  wrong : Fn S 82 c_wrong
  bent : Fn S 83 c_bent
  refusal : Fn S 84 c_refusal
theorem OwnT.anyX {k i : Nat} {avs : List AV} {σ : Store} {Q : KV} (h : OwnT S k i avs σ Q noX) : OwnT S k i avs σ Q X := fun F hk m vals s hs rl => wpAny_mono (h F hk m vals s hs rl) (fun zz zz q => q) fun zz zz z => z.no.elim
theorem mixed_own {k : Nat} {Q : KV} {a b : Int} {σ : Store} (L : L02 S W) (h : ∀ n : Int, 0 ≤ n → n < 2147483647 → Q (.int n) σ) : OwnT S (k + 1) 73 [.int a, .int b] σ Q X := by
  have := fmod_pos (a := a * 48271 + 7919 * b + 11) (b := 2147483647) (by decide)
  exact L.mixed.own L.P.G rfl (mixed_vc (h _ this.1 this.2))
theorem at_own {k : Nat} {Q : KV} {l : List Int} {j : Nat} {σ : Store} (L : L02 S W) (hl : l.length ≤ 1000) (h : Q (.int (l.getD j 0)) σ) : OwnT S (k + 1) 72 [.nums l, .int j] σ Q X := L.at_.own L.P.G rfl (at_vc (L.P.G.at _) hl h)
theorem turned_own {k : Nat} {Q : KV} {rs : List Str} {wd : Nat} {σ : Store} (L : L02 S W) (hq : S.hx = Option.none) (g : Grid rs wd) (h : ∀ rs' wd', Grid rs' wd' → Q (.list (rs'.map .str)) σ) : OwnT S (k + 1) 74 [.list (rs.map .str)] σ Q X := L.turned.own L.P.G rfl (turned_vc (L.P.G.at _) hq g h)
theorem by_own {k : Nat} {Q : KV} {a b : Int} {σ : Store} (L : L02 S W) (hq : S.hx = Option.none) (h : ∀ rs wd, Grid rs wd → Q (.list (rs.map .str)) σ) : OwnT S (k + 2) 75 [.int a, .int b, .bool false] σ Q X :=
  L.by_.own L.P.G rfl (rowsby_vc (W := W.at (k + 1)) (L.P.G.at _) hq (L.us 73 (by decide)) (fun a b σ Q h => mixed_own L h) h)
theorem any_own {k : Nat} {Q : KV} {l : List Int} {σ : Store} (L : L02 S W) (hq : S.hx = Option.none) (hl : l.length ≤ 1000) (h : ∀ rs wd, Grid rs wd → Q (.list (rs.map .str)) σ) : OwnT S (k + 3) 76 [.nums l] σ Q X :=
  L.any.own L.P.G rfl (anyrows_vc (W := W.at (k + 2)) (L.P.G.at _) (L.us 72 (by decide)) (L.us 74 (by decide)) (L.us 75 (by decide)) (fun j σ Q h => at_own L hl h) (fun rs wd σ Q g h => turned_own L hq g h) (fun a b σ Q h => by_own L hq h) h)
theorem cells_own {k : Nat} {Q : KV} {rs : List Str} {wd : Nat} {σ : Store} (L : L02 S W) (g : Grid rs wd) (h : Q (.list ((cellsOf rs).map sp)) σ) : OwnT S (k + 1) 77 [.list (rs.map .str)] σ Q X := L.cells.own L.P.G rfl (cells_vc (L.P.G.at _) g h)
theorem hangs_own {k : Nat} {Q : KV} {a : Spot} {P' : List Spot} {σ : Store} (L : L02 S W) (hq : S.hx = Option.none) (hP : P'.length ≤ 1000) (h : ∀ fs, Comp (a :: P') a fs → Q (.bool (decide (fs.length = (a :: P').length))) σ) : OwnT S (k + 1) 80 [.list ((a :: P').map sp)] σ Q X :=
  L.hangs.own L.P.G rfl (hangs_vc (L.P.G.at _) hq hP h)
theorem due_own {k : Nat} {Q : KV} {rs : List Str} {wd : Nat} {σ : Store} (L : L02 S W) (hq : S.hx = Option.none) (g : Grid rs wd)
    (h0 : cellsOf rs = [] → Q (.int 0) σ) (h1 : ∀ a P', cellsOf rs = a :: P' → ¬ Hangs (cellsOf rs) a → Q (.int 1) σ)
    (h2 : ∀ a P', cellsOf rs = a :: P' → Hangs (cellsOf rs) a → ¬ Hangs (freeOf (cellsOf rs) wd rs.length) (-1, -1) → Q (.int 2) σ) (h3 : ∀ a P', cellsOf rs = a :: P' → Hangs (cellsOf rs) a → Hangs (freeOf (cellsOf rs) wd rs.length) (-1, -1) → Q (.int 3) σ) : OwnT S (k + 2) 81 [.list (rs.map .str)] σ Q X :=
  L.due.own L.P.G rfl (due_vc (W := W.at (k + 1)) (L.P.G.at _) (L.us 77 (by decide)) (L.us 80 (by decide)) g (fun σ Q h => cells_own L g h) (fun a P' σ Q hP h => hangs_own L hq hP h) h0 h1 h2 h3)
theorem refused_own {k : Nat} {Q : KV} {σ : Store} {v : AV} {R : Nat → Prop} {ok : List Str → Prop} (L : L02 S W) (hq : S.hx = Option.none) (hR : ∀ c, R c → c = 19 ∨ c = 20 ∨ c = 21)
    (hfl : ∀ Q' : KV, (∀ rs, ok rs → Q' (floorV rs) σ) → OwnT S (k + 4) 29 [v] σ Q' (fun c σ' => Keep σ σ' ∧ R c)) (hok : ∀ rs, ok rs → (cellsOf rs).length ≤ 1000 ∧ Q (.list [.int 3, .list ((cellsOf rs).map sp)]) σ)
    (hx : ∀ c, R c → Q (.list [.int ((c - 19 : Nat) : Int), .str "refused"]) σ) : OwnT S (k + 5) 84 [v] σ Q X :=
  OwnT.anyX (refusal_own L.P (L.us 78 (by decide)) (L.us 79 (by decide)) hq L.marks L.alone L.refusal hR hfl hok hx)
theorem bad_own {k : Nat} {Q : KV} {σ : Store} {v : AV} (L : L02 S W) (hq : S.hx = Option.none) (hb : BadV σ v) (h : Q (.list [.int 0, .str "refused"]) σ) : OwnT S (k + 5) 84 [v] σ Q X :=
  refused_own (R := fun c => c = 19) (ok := fun zz => False) L hq (fun c hc => .inl hc) (fun Q' zz => floor_bad L.P hq hb fun σ' kp => ⟨kp, rfl⟩) (fun zz h => h.elim) fun c hc => by subst hc; exact h
theorem grid_own {k : Nat} {rs : List Str} {wd : Nat} {σ : Store} (L : L02 S W) (hq : S.hx = Option.none) (g : Grid rs wd) :
    ∃ d : Int, (∀ Q : KV, Q (.int d) σ → OwnT S (k + 5) 81 [.list (rs.map .str)] σ Q X) ∧ ∃ v : AV, (∀ Q : KV, Q (.list [.int d, v]) σ → OwnT S (k + 5) 84 [.list (rs.map .str)] σ Q X) ∧ ((d = 3 ∧ v = .list ((cellsOf rs).map sp)) ∨ (d ≠ 3 ∧ v = .str "refused")) := by
  cases hP : cellsOf rs with
  | nil =>
    refine ⟨0, fun Q h => due_own (k := k + 3) L hq g (fun zz => h) ?_ ?_ ?_, .str "refused", fun Q h => ?_, .inr ⟨by decide, rfl⟩⟩
    · intro a P' e; rw [hP] at e; cases e
    · intro a P' e; rw [hP] at e; cases e
    · intro a P' e; rw [hP] at e; cases e
    · refine bad_own L hq (.inr ⟨_, rfl, by rw [List.length_map]; have := g.ht6; omega, fun x hx => known_row g hx, ?_⟩) h
      rw [grid_ok g, hP]; rfl
  | cons a P' =>
    have same : ∀ {b : Spot} {R' : List Spot}, cellsOf rs = b :: R' → b = a := fun e => by rw [hP] at e; exact (List.cons.inj e).1.symm
    by_cases hg : Hangs (cellsOf rs) a
    · by_cases hf : Hangs (freeOf (cellsOf rs) wd rs.length) (-1, -1)
      · refine ⟨3, fun Q h => due_own (k := k + 3) L hq g ?_ ?_ ?_ fun zz zz zz zz zz => h, .list ((a :: P').map sp), fun Q h => ?_, .inl ⟨rfl, rfl⟩⟩
        · intro e; rw [hP] at e; cases e
        · intro b R' e n; exact absurd (same e ▸ hg) n
        · intro b R' e _ n; exact absurd hf n
        · refine refused_own (R := fun zz => False) (ok := fun rs' => rs' = rs) L hq (fun c hc => hc.elim) (fun Q' hQ' => floor_good L.P hq g hP (fun n => absurd hg n) (fun zz n => absurd hf n) fun zz zz => hQ' rs rfl) (fun rs' e => ?_) fun c hc => hc.elim
          subst e
          exact ⟨by have := g.cells; omega, by rw [hP]; exact h⟩
      · refine ⟨2, fun Q h => due_own (k := k + 3) L hq g ?_ ?_ (fun zz zz zz zz zz => h) ?_, .str "refused", fun Q h => ?_, .inr ⟨by decide, rfl⟩⟩
        · intro e; rw [hP] at e; cases e
        · intro b R' e n; exact absurd (same e ▸ hg) n
        · intro b R' e _ n; exact absurd n hf
        · exact refused_own (R := fun c => c = 21) (ok := fun zz => False) L hq (fun c hc => .inr (.inr hc)) (fun Q' zz => floor_good L.P hq g hP (fun n => absurd hg n) (fun zz zz σ' kp => ⟨kp, rfl⟩) fun zz n => absurd n hf) (fun zz h => h.elim) fun c hc => by subst hc; exact h
    · refine ⟨1, fun Q h => due_own (k := k + 3) L hq g ?_ (fun zz zz zz zz => h) ?_ ?_, .str "refused", fun Q h => ?_, .inr ⟨by decide, rfl⟩⟩
      · intro e; rw [hP] at e; cases e
      · intro b R' e n; exact absurd (same e ▸ n) hg
      · intro b R' e n; exact absurd (same e ▸ n) hg
      · exact refused_own (R := fun c => c = 20) (ok := fun zz => False) L hq (fun c hc => .inr (.inl hc)) (fun Q' zz => floor_good L.P hq g hP (fun zz σ' kp => ⟨kp, rfl⟩) (fun n => absurd n hg) fun n => absurd n hg) (fun zz h => h.elim) fun c hc => by subst hc; exact h
theorem law_call {fa : Addr} {l : List Int} {σ : Store} (L : L02 S W) (hq : S.hx = Option.none) (f : IsFn S fa c_law) (hl : l.length ≤ 1000) : CallT S 6 (.ref fa) [.nums l] σ (fun av zz => av = .bool true) noX :=
  CallT.vc (W := W.at 5) (mus := []) (L.P.G.at _) f rfl (Nat.le_refl _) (law_vc (L.P.G.at _) hq (L.us.sub (by decide))
    (fun σ Q h => any_own (k := 2) L hq hl h) (fun j σ Q h => at_own (k := 4) L hl h) (fun a b σ Q X h => mixed_own (k := 4) L fun n zz zz => h n)
    (fun rs wd c σ Q g h => L.bent.own (k := 4) L.P.G rfl (bent_vc (L.P.G.at _) g h)) (fun rs wd c σ Q g h => L.wrong.own (k := 4) L.P.G rfl (wrong_vc (L.P.G.at _) hq g h))
    (fun v σ Q hb h => bad_own (k := 0) L hq hb h) (fun rs wd σ g => grid_own (k := 0) L hq g) (fun rs wd σ Q g h => cells_own (k := 4) L g h) rfl)
end
section
open PySem PyProof.Rows PySem.W
variable {prog : Program} {w : World} {S : Sta prog w} {W : Wd} {X : KX}
noncomputable def fnD (K : Frag) (a : Addr) : Option FuncData := match K.lookup a with
  | some ⟨_, _, .func fd, _⟩ => some fd
  | _ => Option.none
noncomputable def bodyD (fd : FuncData) : Option (List Stmt) := match fd.body with
  | .stmts b => some b
  | _ => Option.none
noncomputable def nmOk (tb : List Nat) (sc : Nms) (names : List Str) : Bool := (List.range names.length).all fun j => match names[j]? with
  | some x => ixS tb x == some j && (sc.lookup x == some .local || sc.lookup x == some .cell)
  | Option.none => true
noncomputable def fnOk (K : Frag) (c : FnCore) (names : List Str) (fd : FuncData) : Bool :=
  decide (fd.globals = mainGlobals) && (decide (fd.builtins = builtinsNs) && (fd.scope.kind == .function && (!fd.scope.isCoroutine && (!fd.scope.isGenerator && (codeIn K fd.code fd.qualname && (names.length == c.n && (nmOk c.tb fd.scope.names names && decide ((cellsFrom 0 fd.scope.names []).map (·.1)).Nodup)))))))
set_option tactic.hygienic true in
theorem IsFn.of {K : Frag} {a : Addr} {c : FnCore} (names : List Str) (hK : S.K = K) (h1 : (fnD K a).map (fun fd => (fnOk K c names fd, fd.closure)) = some (true, []))
    (h2 : (fnD K a).map (fun fd => (bodyD fd).map fun b => (cSs c.tb 60 fd.scope.names b).map (·.1)) = some (some (some c.body))) (h3 : ∀ vals : List Value, vals.length = c.n → (fnD K a).map (fun fd => bindArgs fd ⟨vals, []⟩) = some (pure (names.zip vals))) : IsFn S a c := by
  subst hK
  unfold fnD at h1 h2 h3
  split at h1
  · rename_i cl d fd sl hl
    simp only [hl] at h2 h3
    simp only [Option.map_some, Option.some.injEq, Prod.mk.injEq] at h1 h2 h3
    obtain ⟨h1, hcl⟩ := h1
    unfold fnOk at h1
    simp only [Bool.and_eq_true, decide_eq_true_eq, beq_iff_eq, Bool.not_eq_true'] at h1
    obtain ⟨g1, g2, g3, g4, g5, g6, g7, g8, g9⟩ := h1
    cases hb : bodyD fd with
    | none => rw [hb] at h2; cases h2
    | some b =>
      rw [hb] at h2
      simp only [Option.map_some, Option.some.injEq] at h2
      have hbody : fd.body = .stmts b := by
        unfold bodyD at hb
        split at hb
        · rename_i b' e; cases hb; exact e
        · cases hb
      refine ⟨_, fd, b, names, S.X _ _ hl, rfl, hbody, hcl, g1, g2, g3, g4, g5, codeRec_of S.X g6, g7, h3, fun j x hx => ?_, g9, cSs_sound h2⟩
      unfold nmOk at g8
      have hj : j < names.length := (List.getElem?_eq_some_iff.mp hx).1
      have := List.all_eq_true.mp g8 j (List.mem_range.mpr hj)
      rw [hx] at this
      simp only [Bool.and_eq_true, beq_iff_eq, Bool.or_eq_true] at this
      exact ⟨this.1, this.2⟩
  · cases h1
end
end Mine
section
open PySem PySem.W PyProof.Rows
namespace Mine
noncomputable def goT (nx : SharedT → Thread → Option (SharedT × Thread)) (ok : Thread → Bool) : Nat → SharedT → Thread → Option SharedT
  | 0, _, _ => Option.none
  | n + 1, s, t => match through t with
    | true => some s
    | false => match ok t with
      | false => Option.none
      | true => match nx s t with
        | some (s', t') => goT nx ok n s' t'
        | Option.none => Option.none
theorem goT_spec {tb : String → Option Builtin} {p : Program} {w : World} {n₀ : Nat} {ann : Option Value} : ∀ (n : Nat) (s r : SharedT) (t : Thread), goT (stepT (denote tb) p w) (stepOk n₀ ann) n s t = some r → topRun tb p w n₀ ann n s.abs t = some r.abs
  | 0, _, _, _, h => by cases h
  | n + 1, s, r, t, h => by
    unfold goT at h
    unfold topRun
    cases ht : through t with
    | true => rw [ht] at h; cases h; rfl
    | false =>
      rw [ht] at h
      cases hk : stepOk n₀ ann t with
      | false => rw [hk] at h; cases h
      | true =>
        rw [hk] at h
        cases hs : stepT (denote tb) p w s t with
        | none => rw [hs] at h; cases h
        | some x =>
          obtain ⟨s', t'⟩ := x
          rw [hs] at h
          rw [stepT_spec hs]
          exact goT_spec n s' r t' h
noncomputable def treeOf : List Obj → Nat → PySem.W.BT → PySem.W.BT
  | [], _, t => t
  | o :: l, n, t => treeOf l (n + 1) (t.ins n o)
noncomputable def bootT (P : Params) : PySem.W.BT := treeOf (boot_heap P).objs.toList 0 .nil
noncomputable def seenT {α : Type} (H₀ : Heap) (p q : Program) (Xt : Shared → Bool) (Yf : Shared → α) (s : Shared) :=
  ((staticsOk (importedModules p.main.body) H₀ s.heap && namesBound p s.heap && gensDone s && laidKept H₀ s.heap), openSeen q [] (importedModules p.main.body) Xt true s, Yf s)
theorem left_of {p q : Program} {Xt : Shared → Bool} {α : Type} {Yf : Shared → α} {Ya : World → α} {N : Nat} {n₀ : Nat} {life : Life} {ann : Option Value} (e : opening p = plainProg p.main.scope.names) (hN : Nat.ble 600 N = true) (f : ∀ s, fenceModules? p s = some s)
    (hT : ∀ P, absHeap (bootT P) n₀ life = boot_heap P) (size : ∀ P, ((boot_heap P).isNs mainGlobals, (boot_heap P).objs.size, (boot_heap P).nsMap mainGlobals "__annotations__") = (true, n₀, ann))
    (run : ∀ w : World, (fun os => (goT (stepT (denote treeTable) p w) (stepOk n₀ ann) N ⟨bootT w.params, n₀, life, Array.mk [], boot_drawn, boot_toks, os⟩ (topStub p)).map fun r => seenT (boot_heap w.params) p q Xt Yf r.abs) = fun zz => some (true, openGood q [], Ya w)) :
    LeftO p q [] Xt Yf Ya N true := fun w => by
  obtain ⟨⟨h, gs, d, k, os⟩, e1, e2⟩ := Option.map_eq_some_iff.mp (boot_open e hN f w)
  simp only [Prod.mk.injEq] at e2
  obtain ⟨rfl, rfl, rfl, rfl⟩ := e2
  have z := size w.params
  simp only [Prod.mk.injEq] at z
  obtain ⟨r, g, l⟩ := Option.map_eq_some_iff.mp (congrFun (run w) os)
  unfold seenT at l
  simp only [Prod.mk.injEq] at l
  have g' := goT_spec _ _ _ _ g
  have ea : SharedT.abs ⟨bootT w.params, n₀, life, Array.mk [], boot_drawn, boot_toks, os⟩ = ⟨boot_heap w.params, Array.mk [], boot_drawn, boot_toks, os⟩ := by
    show Shared.mk _ _ _ _ _ = _
    rw [hT]
  rw [ea] at g'
  have t : topFrom treeTable p w N ⟨boot_heap w.params, Array.mk [], boot_drawn, boot_toks, os⟩ = some r.abs := by
    unfold topFrom
    dsimp only
    rw [z.1, z.2.1, z.2.2, g']
    show (match _ && _ && _ && _ with | true => _ | false => _) = _
    rw [l.1]
  unfold openEnds
  rw [e1]
  show (topFrom treeTable p w N _).map _ = _
  rw [t]
  exact congrArg some (Prod.ext l.2.1 l.2.2)
noncomputable def fragOf (h : Heap) : Frag := (List.range h.objs.size).filterMap fun a => (h.get? a).map fun o => (a, o)
set_option tactic.hygienic true in
theorem lookup_mem {K : Frag} {a : Addr} {o : Obj} (h : K.lookup a = some o) : (a, o) ∈ K := by
  induction K with
  | nil => cases h
  | cons x K ih =>
    obtain ⟨b, o'⟩ := x
    rw [List.lookup_cons] at h
    split at h
    · rename_i e; cases h; rw [eq_of_beq e]; exact .head _
    · exact .tail _ (ih h)
theorem fragOf_in (h : Heap) : (fragOf h).In h := fun a o e => by
  obtain ⟨b, _, hb⟩ := List.mem_filterMap.mp (lookup_mem e)
  obtain ⟨o', h1, h2⟩ := Option.map_eq_some_iff.mp hb
  cases h2; exact h1
noncomputable def adr : Value → Addr
  | .ref a => a
  | _ => 0
noncomputable def ownV (K : Frag) (x : Str) : Value := match nsIn K mainGlobals x with
  | some (some v) => v
  | _ => .none
set_option genInjectivity false in
structure Ent where
  a : Addr
  c : FnCore
  nms : List Str
noncomputable def bodyAt (K : Frag) (x : Ent) := (fnD K x.a).map fun fd => (bodyD fd).map fun b => (cSs x.c.tb 60 fd.scope.names b).map (·.1)
noncomputable def bindAt (K : Frag) (x : Ent) (v u t : Value) := (fnD K x.a).map fun fd => bindArgs fd ⟨[v, u, t].take x.c.n, []⟩
noncomputable def bindIs (x : Ent) (v u t : Value) : Option (Sem (List (Str × Value))) := some (pure (x.nms.zip ([v, u, t].take x.c.n)))
noncomputable def entOk (K : Frag) (x : Ent) : Bool := decide (x.c.n ≤ 3) && (fnD K x.a).any fun fd => fnOk K x.c x.nms fd && fd.closure.isEmpty
theorem IsFn.ent {prog : Program} {w : World} {S : Sta prog w} {x : Ent} (h1 : entOk S.K x = true) (h2 : bodyAt S.K x = some (some (some x.c.body))) (h3 : bindAt S.K x = bindIs x) : IsFn S x.a x.c := by
  obtain ⟨hn, h1⟩ := Bool.and_eq_true_iff.mp h1
  obtain ⟨fd, h4, h5⟩ : ∃ fd, fnD S.K x.a = some fd ∧ (fnOk S.K x.c x.nms fd && fd.closure.isEmpty) = true := by
    cases e : fnD S.K x.a with
    | none => rw [e] at h1; cases h1
    | some fd => rw [e] at h1; exact ⟨fd, rfl, h1⟩
  obtain ⟨h5, h6⟩ := Bool.and_eq_true_iff.mp h5
  refine IsFn.of x.nms rfl (by rw [h4, Option.map_some, h5, List.isEmpty_iff.mp h6]) h2 fun vals hv => ?_
  have hn := of_decide_eq_true hn
  have key : ∀ v u t, [v, u, t].take x.c.n = vals → (fnD S.K x.a).map (fun fd => bindArgs fd ⟨vals, []⟩) = some (pure (x.nms.zip vals)) := fun v u t e => by
    have := congrFun (congrFun (congrFun h3 v) u) t
    unfold bindAt bindIs at this
    rw [e] at this
    exact this
  rw [← hv] at key hn
  match vals, hn with
  | [], _ => exact key .none .none .none rfl
  | [v], _ => exact key v .none .none rfl
  | [v, u], _ => exact key v u .none rfl
  | [v, u, t], _ => exact key v u t rfl
  | _ :: _ :: _ :: _ :: _, h => simp at h
end Mine
end
section
open PySem PySem.W PyProof.Rows
namespace Mine
noncomputable def nb02 : List (Nat × Str) := [(0, "len"), (1, "isinstance"), (2, "int"), (3, "bool"), (4, "tuple"), (5, "list"), (6, "str"), (7, "dict"), (8, "range"), (9, "enumerate"), (10, "sorted"), (11, "sum"), (12, "abs"), (13, "min"), (14, "max"), (15, "all"), (16, "any"), (17, "ValueError")]
noncomputable def ne02 : List (Nat × Str) := [(18, "FloorError"), (19, "BadFloor"), (20, "Parted"), (21, "Holed"), (22, "NoCell"), (23, "BadLaying"), (24, "NoLaying"), (25, "NoHeights"), (26, "NoTurn"), (27, "BadText")]
noncomputable def nf02 : List (Nat × Str) := [(29, "Floor"), (34, "near_to"), (35, "spread_from"), (36, "are_rows"), (72, "_law_cell_at"), (73, "_law_mixed"), (74, "_law_turned_rows"), (75, "_law_rows_by"), (76, "_law_any_rows"), (77, "_law_cells"), (78, "_law_marks"), (79, "_law_alone"), (80, "_law_hangs"), (81, "_law_due"), (82, "_law_wrong"), (83, "_law_bent"), (84, "_law_refusal")]
noncomputable def no02 : List (Nat × Str) := ne02 ++ nf02
noncomputable def cvK (K : Frag) (i : Nat) : Value := if i < 17 then bv i else if i = 17 then .type "ValueError" else match no02.lookup i with
  | some x => ownV K x
  | Option.none => ownV K "MOST_LONG"
noncomputable def clsK (K : Frag) : Addr := adr (ownV K "Floor")
noncomputable def methK (K : Frag) (x : Str) : Addr := match findIn K (.ref (clsK K)) x with
  | some (some v) => adr v
  | _ => 0
noncomputable def WK (K : Frag) : Wd where
  k := 0
  U := fun i => Nat.ble i 17 || (no02.lookup i).isSome || i == 28
  C := clsK K
  M := fun n => if n = 13 then some (methK K "around") else if n = 16 then some (methK K "cells") else Option.none
noncomputable def ents (K : Frag) : List Ent := [⟨adr (ownV K "near_to"), c_near, ["spot"]⟩, ⟨adr (ownV K "spread_from"), c_spread, ["first", "some"]⟩, ⟨adr (ownV K "are_rows"), c_arerows, ["rows"]⟩,
  ⟨adr (ownV K "_law_cell_at"), c_cell_at, ["_law_script", "_law_k"]⟩, ⟨adr (ownV K "_law_mixed"), c_mixed, ["_law_number", "_law_k"]⟩, ⟨adr (ownV K "_law_turned_rows"), c_turned_rows, ["_law_rows"]⟩, ⟨adr (ownV K "_law_rows_by"), c_rows_by, ["_law_cell", "_law_more", "_law_even"]⟩,
  ⟨adr (ownV K "_law_any_rows"), c_any_rows, ["_law_script"]⟩, ⟨adr (ownV K "_law_cells"), c_cells, ["_law_rows"]⟩, ⟨adr (ownV K "_law_marks"), c_marks, ["_law_error"]⟩, ⟨adr (ownV K "_law_alone"), c_alone, ["_law_error", "_law_place"]⟩, ⟨adr (ownV K "_law_hangs"), c_hangs, ["_law_places"]⟩,
  ⟨adr (ownV K "_law_due"), c_due, ["_law_rows"]⟩, ⟨adr (ownV K "_law_wrong"), c_wrong, ["_law_rows", "_law_cell"]⟩, ⟨adr (ownV K "_law_bent"), c_bent, ["_law_rows", "_law_cell"]⟩, ⟨adr (ownV K "_law_refusal"), c_refusal, ["_law_rows"]⟩, ⟨adr (ownV K "law"), c_law, ["_law_script"]⟩,
  ⟨methK K "__init__", c_init, ["self", "rows"]⟩, ⟨methK K "around", c_around, ["self"]⟩, ⟨methK K "cells", c_fcells, ["self"]⟩]
noncomputable def refK (K : Frag) (x : Str) : Bool := decide (nsIn K mainGlobals x = some (some (.ref (adr (ownV K x)))))
noncomputable def excB (K : Frag) (C : Addr) : Bool := decide (findIn K (.ref C) "__getattribute__" = some (some (.builtin "BaseException.__getattribute__"))) && (decide (findIn K (.ref C) "__getattr__" = some Option.none) && ((clsIn K C).isSome && (decide (findIn K (.ref C) "__class__" = some (some (.builtin "object.__class__"))) &&
  (decide (specialIn K (.builtin "object.__class__") "__get__" = some (some (.builtin "getset_descriptor.__get__"))) && (decide (takesIn K (.builtin "object.__class__") = some true) && (decide (mroIn K C (.type "object") = some true) && decide (subIn K (.ref C) (.type "BaseException") = some true)))))))
noncomputable def vBases : List Value := [.type "ValueError", .type "Exception", .type "BaseException", .type "object"]
noncomputable def floorB (K : Frag) (C : Addr) : Bool := plainGet K C "texts" && (hasDictIn K C && (decide (findIn K (.ref C) "__setattr__" = some (some (.builtin "object.__setattr__"))) && (plainOver K C && makesIn K C)))
noncomputable def fieldB (K : Frag) (C : Addr) (x : Str) : Bool := decide (findIn K (.ref C) x = some Option.none) && decide (takerIn K C x = some Option.none)
noncomputable def methB (K : Frag) (x : Str) : Bool := decide (findIn K (.ref (clsK K)) x = some (some (.ref (methK K x)))) && (isFn K (.ref (methK K x)) && keepIn K (.ref (methK K x)))
noncomputable def sixB (v : Value) : Bool := match v with
  | .int 6 _ => true
  | _ => false
structure Looks02 (K : Frag) : Prop where
  blt : ∀ p ∈ nb02, nsIn K mainGlobals p.2 = some Option.none
  own : ∀ p ∈ no02, nsIn K mainGlobals p.2 = some (some (.ref (adr (ownV K p.2)))) ∧ keepIn K (.ref (adr (ownV K p.2))) = true
  law : nsIn K mainGlobals "law" = some (some (.ref (adr (ownV K "law"))))
  six : nsIn K mainGlobals "MOST_LONG" = some (some (ownV K "MOST_LONG")) ∧ sixB (ownV K "MOST_LONG") = true
  exc : ∀ p ∈ ne02, excIn K (adr (ownV K p.2)) vBases "ValueError.__new__" = true ∧ excB K (adr (ownV K p.2)) = true
  sub : ∀ c ∈ List.range' 18 10, ∀ j ∈ List.range' 17 11, exmOne K (cvK K c) (cvK K j) = some (xsub c j) ∧ kitOne K (cvK K c) (cvK K j) = some (xsub c j)
  floor : floorB K (clsK K) = true
  texts : fieldB K (clsK K) "texts" = true
  cells : fieldB K (clsK K) "own" = true
  init : methB K "__init__" = true
  around : methB K "around" = true
  fcells : methB K "cells" = true
  ent : ∀ x ∈ ents K, entOk K x = true
noncomputable def looks02 (K : Frag) : List Bool := [nb02.all fun p => decide (nsIn K mainGlobals p.2 = some Option.none), no02.all fun p => refK K p.2 && keepIn K (.ref (adr (ownV K p.2))), refK K "law", decide (nsIn K mainGlobals "MOST_LONG" = some (some (ownV K "MOST_LONG"))), sixB (ownV K "MOST_LONG"),
  ne02.all fun p => excIn K (adr (ownV K p.2)) vBases "ValueError.__new__" && excB K (adr (ownV K p.2)), (List.range' 18 10).all fun c => (List.range' 17 11).all fun j => decide (exmOne K (cvK K c) (cvK K j) = some (xsub c j)) && decide (kitOne K (cvK K c) (cvK K j) = some (xsub c j)),
  floorB K (clsK K), fieldB K (clsK K) "texts", fieldB K (clsK K) "own", methB K "__init__", methB K "around", methB K "cells", (ents K).all (entOk K)]
theorem looks02_of {K : Frag} (h : looks02 K = List.replicate 14 true) : Looks02 K := by
  unfold looks02 at h
  simp only [List.replicate, List.cons.injEq, and_true, List.all_eq_true, Bool.and_eq_true, decide_eq_true_eq, refK] at h
  obtain ⟨h1, h2, h3, h4, h5, h6, h7, h8, h9, h10, h11, h12, h13, h14⟩ := h
  exact ⟨h1, h2, h3, ⟨h4, h5⟩, h6, h7, h8, h9, h10, h11, h12, h13, h14⟩
noncomputable def obsK (K : Frag) := (looks02 K, (ents K).map (bodyAt K), (ents K).map (bindAt K))
noncomputable def valK (K : Frag) : List Bool × List (Option (Option (Option (List Mine.S)))) × List (Value → Value → Value → Option (Sem (List (Str × Value)))) := (List.replicate 14 true, (ents []).map fun x => some (some (some x.c.body)), (ents []).map bindIs)
structure Start (K : Frag) : Prop where
  L : Looks02 K
  body : ∀ x ∈ ents K, bodyAt K x = some (some (some x.c.body))
  bind : ∀ x ∈ ents K, bindAt K x = bindIs x
theorem start_of {K : Frag} (h : obsK K = valK []) : Start K := by
  have e1 : (ents []).map (fun x => some (some (some x.c.body))) = (ents K).map fun x => some (some (some x.c.body)) := rfl
  have e2 : (ents []).map bindIs = (ents K).map bindIs := rfl
  unfold obsK valK at h
  rw [e1, e2] at h
  simp only [Prod.mk.injEq] at h
  exact ⟨looks02_of h.1, List.map_inj_left.mp h.2.1, List.map_inj_left.mp h.2.2⟩
noncomputable def hook02 : Hook := ⟨_, fun s => obsK (fragOf s.heap), fun zz => valK [], fun zz h => ∃ K : Frag, K.In h ∧ Start K, fun zz s e => ⟨_, fragOf_in _, start_of e⟩, fun _ _ _ ⟨K, X, s⟩ k => ⟨K, X.keeps k, s⟩⟩
section
variable {prog : Program} {w : World} {S : Sta prog w}
theorem Glob.own {nm : Str} {i : Nat} {v : Value} (hi : ixS GT nm = some i) (h : nsIn S.K mainGlobals nm = some (some v)) : Mine.Glob S i v := ⟨fun x hx => .inl (by rw [ixS_inj hx hi]; exact mg_of S.X S.ng h)⟩
theorem Glob.built {nm : Str} {i : Nat} {v : Value} (hi : ixS GT nm = some i) (h : nsIn S.K mainGlobals nm = some Option.none) (hb : S.mb nm = some v) : Mine.Glob S i v := ⟨fun x hx => .inr (by rw [ixS_inj hx hi]; exact ⟨mg_none_of S.X S.ng h, hb⟩)⟩
theorem names_ix : ∀ p ∈ nb02 ++ no02 ++ [(28, Str.ofString "MOST_LONG")], ixS GT p.2 = some p.1 := by decide +kernel
theorem names_blt : ∀ p ∈ nb02, bootBuiltins p.2 = some (cvK [] p.1) ∧ p.2 ≠ "__name__" := by decide +kernel
theorem Uses.of {W : Wd} {l : List Nat} (h : (l.all W.U) = true) : Uses W l := List.all_eq_true.mp h
set_option tactic.hygienic true in
theorem lookup_in {l : List (Nat × Str)} {i : Nat} {x : Str} (h : l.lookup i = some x) : (i, x) ∈ l := by
  induction l with
  | nil => cases h
  | cons y l ih =>
    obtain ⟨b, o'⟩ := y
    rw [List.lookup_cons] at h
    split at h
    · rename_i e; cases h; rw [eq_of_beq e]; exact .head _
    · exact .tail _ (ih h)
theorem cvK_own {K : Frag} {i : Nat} {x : Str} (h : no02.lookup i = some x) : cvK K i = ownV K x := by
  have hi : ∀ p ∈ no02, ¬ p.1 < 17 ∧ ¬ p.1 = 17 := by decide +kernel
  obtain ⟨h1, h2⟩ := hi _ (lookup_in h)
  unfold cvK
  rw [if_neg h1, if_neg h2, h]
theorem cvK_blt {K : Frag} {i : Nat} (h : i ≤ 17) : cvK K i = cvK [] i := by
  unfold cvK
  by_cases h1 : i < 17
  · rw [if_pos h1, if_pos h1]
  · have : i = 17 := Nat.le_antisymm h (Nat.le_of_not_lt h1)
    rw [if_neg h1, if_neg h1, if_pos this, if_pos this]
theorem us02 {K : Frag} {i : Nat} (h : (WK K).U i = true) : i ≤ 17 ∨ (∃ x, no02.lookup i = some x) ∨ i = 28 := by
  simp only [WK, Bool.or_eq_true, beq_iff_eq, Option.isSome_iff_exists] at h
  rcases h with (h | h) | h
  · exact .inl (Nat.le_of_ble_eq_true h)
  · exact .inr (.inl h)
  · exact .inr (.inr h)
theorem blt_at : ∀ i, i ≤ 17 → ∃ x, (i, x) ∈ nb02 := fun i hi => by
  have : ∀ i, i < 18 → (nb02.lookup i).isSome = true := by decide +kernel
  obtain ⟨x, hx⟩ := Option.isSome_iff_exists.mp (this i (Nat.lt_succ_of_le hi))
  exact ⟨x, lookup_in hx⟩
theorem exc_at : ∀ i, 18 ≤ i → i ≤ 27 → ∃ x, (i, x) ∈ ne02 ∧ no02.lookup i = some x := fun i h1 h2 => by
  have : ∀ i, i < 28 → i < 18 ∨ ((ne02.lookup i).isSome = true ∧ no02.lookup i = ne02.lookup i) := by decide +kernel
  rcases this i (Nat.lt_succ_of_le h2) with h | ⟨h, e⟩
  · exact absurd h (Nat.not_lt.mpr h1)
  · obtain ⟨x, hx⟩ := Option.isSome_iff_exists.mp h
    exact ⟨x, lookup_in hx, e.trans hx⟩
theorem own_in {p : Nat × Str} (h : p ∈ ne02) : p ∈ no02 := List.mem_append_left _ h
theorem cv28 {K : Frag} : cvK K 28 = ownV K "MOST_LONG" := rfl
theorem ExcK.of {K : Frag} {C : Addr} (h : excB K C = true) : ExcK K C := by
  simp only [excB, Bool.and_eq_true, decide_eq_true_eq] at h
  obtain ⟨h1, h2, h3, h4, h5, h6, h7, h8⟩ := h
  exact ⟨h1, h2, h3, h4, h5, h6, h7, h8⟩
theorem Field.of {C : Addr} {x : Str} (h : fieldB S.K C x = true) : Field S C x := by
  simp only [fieldB, Bool.and_eq_true, decide_eq_true_eq] at h
  exact ⟨h.1, h.2⟩
theorem ownV_of {K : Frag} {x : Str} {v : Value} (h : nsIn K mainGlobals x = some (some v)) : ownV K x = v := by unfold ownV; rw [h]
theorem glob02 (L : Looks02 S.K) (hmb : ∀ x : Str, x ≠ "__name__" → S.mb x = bootBuiltins x) {i : Nat} (h : (WK S.K).U i = true) : Mine.Glob S i (cvK S.K i) := by
  rcases us02 h with h | ⟨x, h⟩ | rfl
  · obtain ⟨x, hx⟩ := blt_at i h
    have hb := names_blt _ hx
    exact Glob.built (names_ix (i, x) (List.mem_append_left _ (List.mem_append_left _ hx))) (L.blt _ hx) (by rw [hmb x hb.2, hb.1, cvK_blt (K := S.K) h])
  · have hx := lookup_in h
    rw [cvK_own h]
    have := (L.own _ hx).1
    exact Glob.own (names_ix (i, x) (List.mem_append_left _ (List.mem_append_right _ hx))) (this.trans (congrArg (fun v => some (some v)) (ownV_of this).symm))
  · exact Glob.own (names_ix (28, _) (List.mem_append_right _ (.head _))) L.six.1
theorem own02 (L : Looks02 S.K) {i : Nat} (h : (WK S.K).U i = true) (h28 : i ≠ 28) (h17 : 17 ≤ i) : Callable S (cvK S.K i) := by
  rcases us02 h with h | ⟨x, h⟩ | rfl
  · have : i = 17 := Nat.le_antisymm h h17
    subst this
    exact Callable.type _
  · rw [cvK_own h]
    have := L.own _ (lookup_in h)
    refine Callable.own ?_
    unfold ownV
    rw [this.1]
    exact this.2
  · exact absurd rfl h28
theorem ref02 {K : Frag} (L : Looks02 K) {i : Nat} {x : Str} (h : no02.lookup i = some x) : cvK K i = .ref (adr (ownV K x)) := by
  rw [cvK_own h]
  exact ownV_of (L.own _ (lookup_in h)).1
set_option tactic.hygienic true in
theorem good02 {p : Program} {loose : List Str} (L : Looks02 S.K) (hcv : S.cv = cvK S.K) (T : TopRead p loose S.mg S.mb S.g) : Good S (WK S.K) where
  glob := fun i hi => by rw [hcv]; exact glob02 L T.builtins hi
  bu := fun i hi => by
    show (_ || _ || _) = true
    rw [Nat.ble_eq_true_of_le (Nat.le_of_lt hi)]; rfl
  own := fun i hi h17 h28 => by rw [hcv]; exact own02 L hi h28 h17
  base := fun i hi => by rw [hcv]; exact if_pos hi
  six := by
    rw [hcv, cv28]
    have := L.six.2
    revert this
    cases ownV S.K "MOST_LONG" with
    | int n t =>
      intro h
      unfold sixB at h
      split at h
      · rename_i u e; exact ⟨u, e⟩
      · cases h
    | _ => intro h; cases h
  floor := by
    have h := L.floor
    simp only [floorB, Bool.and_eq_true, decide_eq_true_eq] at h
    obtain ⟨h1, h2, h3, h4, h5⟩ := h
    exact ⟨by rw [hcv]; exact ref02 L (i := 29) (x := "Floor") (by decide +kernel), h1, h2, h3, h4, h5⟩
  texts := Field.of L.texts
  cells := Field.of L.cells
  exc := fun i h1 h2 zz => by
    obtain ⟨x, hx, hl⟩ := exc_at i h1 h2
    rw [hcv]
    exact ⟨x, adr (ownV S.K x), _, _, _, names_ix (i, x) (List.mem_append_left _ (List.mem_append_right _ (own_in hx))), ref02 L hl, own_of_in S.X T (L.own _ (own_in hx)).1 (L.exc _ hx).1, PySem.F.excBase_ValueError⟩
  exk := fun i C h1 h2 zz hC => by
    obtain ⟨x, hx, hl⟩ := exc_at i h1 h2
    rw [hcv, ref02 L hl] at hC
    cases hC
    exact ExcK.of (L.exc _ hx).2
  sub := fun c j h1 h2 zz h3 h4 zz => by
    rw [hcv]
    exact L.sub c (List.mem_range'_1.mpr ⟨h1, Nat.lt_of_le_of_lt h2 (by decide)⟩) j (List.mem_range'_1.mpr ⟨h3, Nat.lt_of_le_of_lt h4 (by decide)⟩)
  meth := fun n f hn => by
    have key : ∀ x : Str, ixS AT x = some n → x ≠ "texts" → x ≠ "own" → methB S.K x = true → methK S.K x = f → ∃ nm, ixS AT nm = some n ∧ nm ≠ "texts" ∧ nm ≠ "own" ∧ findIn S.K (.ref (WK S.K).C) nm = some (some (.ref f)) ∧ isFn S.K (.ref f) = true ∧ keepIn S.K (.ref f) = true := by
      rintro x a b c d rfl
      simp only [methB, Bool.and_eq_true, decide_eq_true_eq] at d
      exact ⟨x, a, b, c, d⟩
    simp only [WK] at hn
    split at hn
    · rename_i e; subst e; exact key "around" (by decide +kernel) (by decide +kernel) (by decide +kernel) L.around (Option.some.inj hn)
    · split at hn
      · rename_i e; subst e; exact key "cells" (by decide +kernel) (by decide +kernel) (by decide +kernel) L.fcells (Option.some.inj hn)
      · cases hn
theorem l02 {p : Program} {loose : List Str} (st : Start S.K) (hcv : S.cv = cvK S.K) (T : TopRead p loose S.mg S.mb S.g) : L02 S (WK S.K) := by
  have L := st.L
  have fe : ∀ (k : Nat) (x : Ent), (ents S.K)[k]? = some x → IsFn S x.a x.c := fun k x h => by
    have hx := List.mem_of_getElem? h
    exact IsFn.ent (L.ent x hx) (st.body x hx) (st.bind x hx)
  have fn : ∀ {i : Nat} {x : Str} {c : FnCore}, no02.lookup i = some x → IsFn S (adr (ownV S.K x)) c → Fn S i c := fun e h => ⟨_, by rw [hcv]; exact ref02 L e, h⟩
  have hi := L.init
  simp only [methB, Bool.and_eq_true, decide_eq_true_eq] at hi
  exact ⟨⟨good02 L hcv T, Uses.of (by kernel_rfl), fn (x := "near_to") (by decide +kernel) (fe 0 _ rfl), fn (x := "spread_from") (by decide +kernel) (fe 1 _ rfl), fn (x := "are_rows") (by decide +kernel) (fe 2 _ rfl), ⟨_, hi.1, hi.2.1, fe 17 _ rfl⟩, ⟨_, rfl, fe 18 _ rfl⟩, ⟨_, rfl, fe 19 _ rfl⟩⟩,
    Uses.of (by kernel_rfl), fn (x := "_law_cell_at") (by decide +kernel) (fe 3 _ rfl), fn (x := "_law_mixed") (by decide +kernel) (fe 4 _ rfl), fn (x := "_law_turned_rows") (by decide +kernel) (fe 5 _ rfl), fn (x := "_law_rows_by") (by decide +kernel) (fe 6 _ rfl), fn (x := "_law_any_rows") (by decide +kernel) (fe 7 _ rfl), fn (x := "_law_cells") (by decide +kernel) (fe 8 _ rfl), fn (x := "_law_marks") (by decide +kernel) (fe 9 _ rfl), fn (x := "_law_alone") (by decide +kernel) (fe 10 _ rfl), fn (x := "_law_hangs") (by decide +kernel) (fe 11 _ rfl), fn (x := "_law_due") (by decide +kernel) (fe 12 _ rfl), fn (x := "_law_wrong") (by decide +kernel) (fe 13 _ rfl), fn (x := "_law_bent") (by decide +kernel) (fe 14 _ rfl), fn (x := "_law_refusal") (by decide +kernel) (fe 15 _ rfl)⟩
theorem isc_law (st : Start S.K) : IsFn S (adr (ownV S.K "law")) c_law := by
  have h : (ents S.K)[16]? = some ⟨adr (ownV S.K "law"), c_law, ["_law_script"]⟩ := rfl
  have hx := List.mem_of_getElem? h
  exact IsFn.ent (st.L.ent _ hx) (st.body _ hx) (st.bind _ hx)
end
end Mine
end
section
open PySem PySem.W PyProof.Rows
namespace Mine
noncomputable def keep02 : List Nat := [0, 2, 3, 4, 5, 6, 7, 8, 9, 10, 11, 13, 14, 15, 16, 17, 18, 19, 21, 22, 23, 24, 25, 26, 27, 28, 29, 30, 31, 32, 33, 34]
noncomputable abbrev p02 : Program := PySem.Challenge.pw_uf010026_02
noncomputable def q02 : Program := view PySem.Challenge.pw_uf010026_02 keep02
noncomputable def Xt02 (s : Shared) : Bool := xlAt q02 [] s && recOk (RowW.records (OpenRow.toRowW (OpenLaw.row PySem.Challenge.rw_uf010026_02))) s
theorem opens : opening p02 = plainProg p02.main.scope.names := by kernel_rfl
theorem fence : ∀ s, fenceModules? p02 s = some s := fun s => by kernel_rfl
theorem boots : ∀ P, absHeap (bootT P) 11 {} = boot_heap P := fun P => by kernel_rfl
theorem sizes : ∀ P, ((boot_heap P).isNs mainGlobals, (boot_heap P).objs.size, (boot_heap P).nsMap mainGlobals "__annotations__") = (true, 11, some (.ref 6)) := fun P => by kernel_rfl
noncomputable def run02 (w : World) (os : OsState) : Option SharedT := goT (stepT (denote treeTable) p02 w) (stepOk 11 (some (.ref 6))) 6498 ⟨bootT w.params, 11, {}, Array.mk [], boot_drawn, boot_toks, os⟩ (topStub p02)
theorem ranA : ∀ w : World, (fun os => (run02 w os).map fun r => (staticsOk (importedModules p02.main.body) (boot_heap w.params) r.abs.heap && namesBound p02 r.abs.heap && gensDone r.abs && laidKept (boot_heap w.params) r.abs.heap)) = fun zz => some true := fun w => by
  unfold run02
  rw [PySem.W.Fast.te10156331382660048174, PySem.W.Fast.te11892475500146522536, PySem.W.Fast.te14364793385576792824, PySem.W.Fast.te6613529449190102663, PySem.W.Fast.te5923862056798008813]
  kernel_rfl
theorem ranB : ∀ w : World, (fun os => (run02 w os).map fun r => openSeen q02 [] (importedModules p02.main.body) Xt02 true r.abs) = fun zz => some (openGood q02 []) := fun w => by
  unfold run02
  rw [PySem.W.Fast.te10156331382660048174, PySem.W.Fast.te11892475500146522536, PySem.W.Fast.te14364793385576792824, PySem.W.Fast.te6613529449190102663, PySem.W.Fast.te4187177175401517315, PySem.W.Fast.te5923862056798008813]
  kernel_rfl
theorem ranC : ∀ w : World, (fun os => (run02 w os).map fun r => looks02 (fragOf r.abs.heap)) = fun zz => some (List.replicate 14 true) := fun w => by
  unfold run02
  rw [PySem.W.Fast.te10156331382660048174, PySem.W.Fast.te11892475500146522536, PySem.W.Fast.te14364793385576792824, PySem.W.Fast.te6613529449190102663]
  kernel_rfl
theorem ranD : ∀ w : World, (fun os => (run02 w os).map fun r => (ents (fragOf r.abs.heap)).map (bodyAt (fragOf r.abs.heap))) = fun zz => some ((ents []).map fun x => some (some (some x.c.body))) := fun w => by
  unfold run02
  rw [PySem.W.Fast.te10156331382660048174, PySem.W.Fast.te11892475500146522536, PySem.W.Fast.te14364793385576792824, PySem.W.Fast.te6613529449190102663]
  kernel_rfl
theorem ranE : ∀ w : World, (fun os => (run02 w os).map fun r => (ents (fragOf r.abs.heap)).map (bindAt (fragOf r.abs.heap))) = fun zz => some ((ents []).map bindIs) := fun w => by
  unfold run02
  rw [PySem.W.Fast.te10156331382660048174, PySem.W.Fast.te11892475500146522536, PySem.W.Fast.te14364793385576792824, PySem.W.Fast.te6613529449190102663]
  kernel_rfl
theorem map_pair {α β γ : Type} {o : Option α} {f : α → β} {g : α → γ} {a : β} {b : γ} (h1 : o.map f = some a) (h2 : o.map g = some b) : (o.map fun r => (f r, g r)) = some (a, b) := by
  cases o with
  | none => exact (no_some rfl h1).elim
  | some x => rw [← Option.some.inj h1, ← Option.some.inj h2]; rfl
theorem ran : ∀ w : World, (fun os => (goT (stepT (denote treeTable) p02 w) (stepOk 11 (some (.ref 6))) 6498 ⟨bootT w.params, 11, {}, Array.mk [], boot_drawn, boot_toks, os⟩ (topStub p02)).map fun r => seenT (boot_heap w.params) p02 q02 Xt02 hook02.obs r.abs) = fun zz => some (true, openGood q02 [], hook02.val w) :=
  fun w => funext fun os => map_pair (congrFun (ranA w) os) (map_pair (congrFun (ranB w) os) (map_pair (congrFun (ranC w) os) (map_pair (congrFun (ranD w) os) (congrFun (ranE w) os))))
noncomputable abbrev r02 : OpenRow := OpenLaw.row PySem.Challenge.rw_uf010026_02
theorem said02 : PySem.Challenge.rw_uf010026_02.wellSaid = true := by rw [PySem.W.Fast.te9446332074065402090]; kernel_rfl
theorem def02 : (defOf q02 r02.name).isSome = true := by kernel_rfl
noncomputable def d02 : DefRec × List (Str × Expr) := (defOf q02 r02.name).get def02
theorem fits : (chainsOk q02 && opensWell r02.prog && (frees r02.toRowW && r02.within.isEmpty)) = true := by kernel_rfl
end Mine
end
section
open PySem PySem.W PyProof.Rows
namespace Mine
theorem left02 : LeftO r02.prog q02 [] Xt02 hook02.obs hook02.val 6498 := left_of (p := p02) opens rfl fence boots sizes ran
theorem head02 (call : WalkO q02 [] (XL q02 []) hook02.says r02.toRowW d02.1 d02.2 fun f vs => PySem.call f vs) : PySem.Challenge.rw_uf010026_02.Holds :=
  holds_law said02 fun said => holds_open (q := q02) (loose := []) (Xt := Xt02) (XP := XL q02 []) (YP := hook02.says) (N := 6498) left02 hook02.of hook02.keeps (fun s e => xl_of s (Bool.and_eq_true_iff.mp e).1) XL.keeps (Option.some_get def02).symm (by kernel_rfl) (by kernel_rfl)
    (fun s e => recFacts_of (Bool.and_eq_true_iff.mp e).2) (by kernel_rfl) said fits ⟨rfl, rfl, rfl, rfl, rfl, by decide +kernel⟩ (by w_witness2) call
theorem room_caller {prog : Program} {w : World} {S : Sta prog w} (hq : S.hx = Option.none) : Room S (fun zz => False) 6 callerA :=
  ⟨by rw [hq]; rfl, ⟨[], rfl, fun e he => by cases he⟩, by decide +kernel, by decide +kernel⟩
theorem inv_start {prog : Program} {w : World} {S : Sta prog w} {s : Shared} (h1 : S.g = s.heap) (h2 : S.gens = s.gens) (h3 : S.drawn = s.drawn) (h4 : S.os = s.os) : Inv S (fun zz => False) (fun zz => Option.none) s :=
  ⟨fun b o e => by rw [h1] at e; exact e, h2.symm, h3.symm, h4.symm, fun a d => absurd rfl d, fun a d => absurd rfl d, fun a h => h.elim, fun a o e => by cases e⟩
theorem rep_script {cv : Nat → Value} {h : Heap} {D : Addr → Prop} {a : Addr} {vs : List Value} {ns : List Int} (hL : h.IsList a vs.toArray) (hI : IntsAre vs ns) (hD : ¬ D a) : Rep cv h D (.nums ns) (.ref a) := by
  obtain ⟨o, e, c, n, f⟩ := hL
  refine .nums e c f hD ?_
  clear e c f hD
  induction hI with
  | nil => exact ⟨rfl, fun i x h => by simp at h⟩
  | @cons m t vs ns _ ih =>
    refine ⟨by simp [ih.1], fun i x h => ?_⟩
    cases i with
    | zero => simp at h; subst h; exact ⟨t, rfl⟩
    | succ i => simp at h; simpa using ih.2 i x h
end Mine
set_option tactic.hygienic true in
theorem PySem.Challenge.cw_uf010026_02_holds : PySem.Challenge.rw_uf010026_02.Holds :=
  Mine.head02 (by
  intro w s₀ s₁ mg mb G Y fa o pm cd doc dV kV ho hd' hcd hD hmg hg args vals as hpre hlay hrd hwl hlo
  obtain ⟨K, KX, st⟩ := Y
  refine Ground.open G ?_
  intro T B D TE TW
  have hfa : fa = Mine.adr (Mine.ownV K "law") := by
    have e := mg_of KX T.g st.L.law
    have e' : mg "law" = some (.ref fa) := hmg
    rw [e] at e'; cases e'; rfl
  subst hfa
  clear hD hcd hd' ho hmg B D TE TW G
  wrow_args hpre hlay hrd hwl hlo
  rename_i ns _ _ _ _ _ _ _ a vs _ hL _ _ _ hI _ hlen _
  have hsm : ∃ o, s₁.heap.get? sysModules = some o := by
    obtain ⟨mm, ⟨o, es, ep, e, _⟩, _⟩ := (T.seer (by decide +kernel)).mods
    exact ⟨o, e⟩
  let S : Mine.Sta PySem.Challenge.rw_uf010026_02.row.prog w := ⟨Mine.cvK K, s₁.heap, K, KX, s₁.gens, s₁.drawn, s₁.os, mg, mb, T.g, T.b, T.nolimit, hsm, Option.none, fun x e => by cases e⟩
  have L : Mine.L02 S (Mine.WK K) := Mine.l02 (S := S) st rfl (topRead_of T)
  have C := Mine.law_call (S := S) (σ := fun zz => Option.none) (l := ns) L rfl (Mine.isc_law (S := S) st) (by omega)
  refine enter_call (codeAny_mono (C (fun zz => False) callerA [.ref a] s₁ (Mine.room_caller rfl) (Mine.inv_start rfl rfl rfl rfl) (.cons (Mine.rep_script hL hI fun d => d.elim (fun d => absurd rfl d) id) .nil)) fun r s' z => ?_)
  cases r with
  | error e => obtain ⟨_, _, _, _, _, _, _, _, h⟩ := z; exact h.elim
  | ok fl =>
    cases fl with
    | ret v =>
      obtain ⟨av, σ', st, i, r, rfl⟩ := z
      cases r
      refine ⟨.inl ⟨.bool true, .bool true, [], rfl, fun cls => ?_, .bool true, ?_, fun zz => ⟨by simp, by simp⟩⟩, .of_keep i.keep, i.os, .of_eq (i.gens.trans hg)⟩
      · first | exact raisesW_false (by wrow_none_raised) cls | rfl
      · first | wrow_post | rfl
    | _ => exact z.elim)
end
