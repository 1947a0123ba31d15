import PyProof.Rows.All
import Wide.All
import OpenK.AllK
import Wide.FinOn
import PySem.Challenge.RW_pb0100_01
open PySem PySem.W PyProof.Rows
set_option Elab.async false
set_option rowWalk.seconds 3000
set_option compiler.extract_closed false

-- name_quick is the kit's own command. The 245 lines below take ahead the names of the twins that the opening of the head would make of its constants,
-- so that it makes none of them: their proofs alone would be some 21 MB of the compiled file. The head and its proof are the kit's own.
namespace Mine
theorem off2 : True := by w_top off; trivial
def c0 : Str := Str.ofString "a"
theorem e0 : c0 = c0 := rfl
end Mine
name_quick tw16018607276475445134 for Mine.c0 by Mine.e0
name_quick tw9948023125614773506 for Mine.c0 by Mine.e0
name_quick tw6589095468515690095 for Mine.c0 by Mine.e0
name_quick tw8537084889766193716 for Mine.c0 by Mine.e0
name_quick tw13512673800721320934 for Mine.c0 by Mine.e0
name_quick tw18211773271919218964 for Mine.c0 by Mine.e0
name_quick tw17532718790514356516 for Mine.c0 by Mine.e0
name_quick tw13607416678640721797 for Mine.c0 by Mine.e0
name_quick tw11939915149646268982 for Mine.c0 by Mine.e0
name_quick tw14884601019740666482 for Mine.c0 by Mine.e0
name_quick tw5200128776193632040 for Mine.c0 by Mine.e0
name_quick tw13106232238108311548 for Mine.c0 by Mine.e0
name_quick tw14433975572909055671 for Mine.c0 by Mine.e0
name_quick tw16916688483869632129 for Mine.c0 by Mine.e0
name_quick tw5268983451555188008 for Mine.c0 by Mine.e0
name_quick tw282004115355043989 for Mine.c0 by Mine.e0
name_quick tw10029231156530900338 for Mine.c0 by Mine.e0
name_quick tw5706481520468235054 for Mine.c0 by Mine.e0
name_quick tw6122645084068987007 for Mine.c0 by Mine.e0
name_quick tw10010936943081839664 for Mine.c0 by Mine.e0
name_quick tw4549333791460862111 for Mine.c0 by Mine.e0
name_quick tw17018628822417861297 for Mine.c0 by Mine.e0
name_quick tw4558998842232669794 for Mine.c0 by Mine.e0
name_quick tw3976722010076183465 for Mine.c0 by Mine.e0
name_quick tw14714103240675001986 for Mine.c0 by Mine.e0
name_quick tw10887116778572429059 for Mine.c0 by Mine.e0
name_quick tw13254397897704925713 for Mine.c0 by Mine.e0
name_quick tw9407582987413476825 for Mine.c0 by Mine.e0
name_quick tw8603108125212654177 for Mine.c0 by Mine.e0
name_quick tw11445135464325071761 for Mine.c0 by Mine.e0
name_quick tw470574548607681690 for Mine.c0 by Mine.e0
name_quick tw3658093133387280835 for Mine.c0 by Mine.e0
name_quick tw13317431791736044220 for Mine.c0 by Mine.e0
name_quick tw9136488742655976645 for Mine.c0 by Mine.e0
name_quick tw2664551874359636763 for Mine.c0 by Mine.e0
name_quick tw1291980286583624508 for Mine.c0 by Mine.e0
name_quick tw3891137856419664920 for Mine.c0 by Mine.e0
name_quick tw6434138532213402376 for Mine.c0 by Mine.e0
name_quick tw14326252917377295143 for Mine.c0 by Mine.e0
name_quick tw16548257151911338427 for Mine.c0 by Mine.e0
name_quick tw9011979029575296479 for Mine.c0 by Mine.e0
name_quick tw16817318245366136608 for Mine.c0 by Mine.e0
name_quick tw6448080314894763839 for Mine.c0 by Mine.e0
name_quick tw14223099787259518943 for Mine.c0 by Mine.e0
name_quick tw11729385059970357855 for Mine.c0 by Mine.e0
name_quick tw2039238271031011813 for Mine.c0 by Mine.e0
name_quick tw7392212959928792091 for Mine.c0 by Mine.e0
name_quick tw16643706677886111943 for Mine.c0 by Mine.e0
name_quick tw1218959903707654005 for Mine.c0 by Mine.e0
name_quick tw3282434896037501709 for Mine.c0 by Mine.e0
name_quick tw13559156169165276386 for Mine.c0 by Mine.e0
name_quick tw15168306246750427876 for Mine.c0 by Mine.e0
name_quick tw9908251947323293946 for Mine.c0 by Mine.e0
name_quick tw14311459727803291754 for Mine.c0 by Mine.e0
name_quick tw1962928258387122110 for Mine.c0 by Mine.e0
name_quick tw117213463901210413 for Mine.c0 by Mine.e0
name_quick tw6004533443673955352 for Mine.c0 by Mine.e0
name_quick tw8860024209350480642 for Mine.c0 by Mine.e0
name_quick tw13145125596335152023 for Mine.c0 by Mine.e0
name_quick tw11277716924127702174 for Mine.c0 by Mine.e0
name_quick tw10833955939284561965 for Mine.c0 by Mine.e0
name_quick tw16846860572762119324 for Mine.c0 by Mine.e0
name_quick tw1377046205977697930 for Mine.c0 by Mine.e0
name_quick tw4292500188555128830 for Mine.c0 by Mine.e0
name_quick tw13381251411439493676 for Mine.c0 by Mine.e0
name_quick tw3105397867545767578 for Mine.c0 by Mine.e0
name_quick tw10227693086864044499 for Mine.c0 by Mine.e0
name_quick tw17730428716208468724 for Mine.c0 by Mine.e0
name_quick tw16531745337717519161 for Mine.c0 by Mine.e0
name_quick tw18220123701641295943 for Mine.c0 by Mine.e0
name_quick tw10938465397075749097 for Mine.c0 by Mine.e0
name_quick tw136631920214876835 for Mine.c0 by Mine.e0
name_quick tw15236012663528867214 for Mine.c0 by Mine.e0
name_quick tw392140993173905013 for Mine.c0 by Mine.e0
name_quick tw17964007177503468958 for Mine.c0 by Mine.e0
name_quick tw12268644228514654432 for Mine.c0 by Mine.e0
name_quick tw4302124980754421698 for Mine.c0 by Mine.e0
name_quick tw9225554623484653252 for Mine.c0 by Mine.e0
name_quick tw15278061642289888581 for Mine.c0 by Mine.e0
name_quick tw4527066259768149269 for Mine.c0 by Mine.e0
name_quick tw4978915544186085027 for Mine.c0 by Mine.e0
name_quick tw5902227825499142635 for Mine.c0 by Mine.e0
name_quick tw16350708796919097252 for Mine.c0 by Mine.e0
name_quick tw16049961110935095269 for Mine.c0 by Mine.e0
name_quick tw460243522976405022 for Mine.c0 by Mine.e0
name_quick tw18260038339965228139 for Mine.c0 by Mine.e0
name_quick tw2283851925072248500 for Mine.c0 by Mine.e0
name_quick tw14979626087600564940 for Mine.c0 by Mine.e0
name_quick tw8703263022893421829 for Mine.c0 by Mine.e0
name_quick tw5032809538720368765 for Mine.c0 by Mine.e0
name_quick tw8119918657739134586 for Mine.c0 by Mine.e0
name_quick tw505943868828395459 for Mine.c0 by Mine.e0
name_quick tw14108194823987119177 for Mine.c0 by Mine.e0
name_quick tw6683783046931543321 for Mine.c0 by Mine.e0
name_quick tw7745614565497352828 for Mine.c0 by Mine.e0
name_quick tw17164873540382356111 for Mine.c0 by Mine.e0
name_quick tw1702518465993881591 for Mine.c0 by Mine.e0
name_quick tw1620339239838986703 for Mine.c0 by Mine.e0
name_quick tw11566699232636054958 for Mine.c0 by Mine.e0
name_quick tw18340240734955500558 for Mine.c0 by Mine.e0
name_quick tw387338674003428930 for Mine.c0 by Mine.e0
name_quick tw15066959818950650227 for Mine.c0 by Mine.e0
name_quick tw15755039735206942576 for Mine.c0 by Mine.e0
name_quick tw6654550962395885724 for Mine.c0 by Mine.e0
name_quick tw6792406925840432001 for Mine.c0 by Mine.e0
name_quick tw8206430501311747189 for Mine.c0 by Mine.e0
name_quick tw10202173193311334889 for Mine.c0 by Mine.e0
name_quick tw14537914154153760125 for Mine.c0 by Mine.e0
name_quick tw3619232141914619222 for Mine.c0 by Mine.e0
name_quick tw5111356299099525756 for Mine.c0 by Mine.e0
name_quick tw18345786424863182364 for Mine.c0 by Mine.e0
name_quick tw14834023430324568649 for Mine.c0 by Mine.e0
name_quick tw1829445100760108279 for Mine.c0 by Mine.e0
name_quick tw13335737130258781183 for Mine.c0 by Mine.e0
name_quick tw3778451253796500701 for Mine.c0 by Mine.e0
name_quick tw12290603225136948437 for Mine.c0 by Mine.e0
name_quick tw13180171748994924942 for Mine.c0 by Mine.e0
name_quick tw17100903815162463580 for Mine.c0 by Mine.e0
name_quick tw43969757491396457 for Mine.c0 by Mine.e0
name_quick tw4340361742893363024 for Mine.c0 by Mine.e0
name_quick tw15742981410569661332 for Mine.c0 by Mine.e0
name_quick tw4090926877573551719 for Mine.c0 by Mine.e0
name_quick tw17828083071136270317 for Mine.c0 by Mine.e0
name_quick tw17111948838632640456 for Mine.c0 by Mine.e0
name_quick tw17988542015724977305 for Mine.c0 by Mine.e0
name_quick tw7568327977191467087 for Mine.c0 by Mine.e0
name_quick tw10996506086634736982 for Mine.c0 by Mine.e0
name_quick tw11186114360453789277 for Mine.c0 by Mine.e0
name_quick tw11543547407058413889 for Mine.c0 by Mine.e0
name_quick tw15112985482279097393 for Mine.c0 by Mine.e0
name_quick tw1258717718454355964 for Mine.c0 by Mine.e0
name_quick tw11853533878840232495 for Mine.c0 by Mine.e0
name_quick tw12635297910168745909 for Mine.c0 by Mine.e0
name_quick tw17354465474357448390 for Mine.c0 by Mine.e0
name_quick tw12945451867199242903 for Mine.c0 by Mine.e0
name_quick tw1402947280878808549 for Mine.c0 by Mine.e0
name_quick tw8075568018651887793 for Mine.c0 by Mine.e0
name_quick tw8693227569615203950 for Mine.c0 by Mine.e0
name_quick tw13900631225919944168 for Mine.c0 by Mine.e0
name_quick tw2478078296215019888 for Mine.c0 by Mine.e0
name_quick tw2997306320072185856 for Mine.c0 by Mine.e0
name_quick tw17975652961387846372 for Mine.c0 by Mine.e0
name_quick tw12150249912526168084 for Mine.c0 by Mine.e0
name_quick tw4071324889030633612 for Mine.c0 by Mine.e0
name_quick tw15894407043143930727 for Mine.c0 by Mine.e0
name_quick tw11130039905162102590 for Mine.c0 by Mine.e0
name_quick tw5349121933718820234 for Mine.c0 by Mine.e0
name_quick tw12659028871203227004 for Mine.c0 by Mine.e0
name_quick tw13236226663087606529 for Mine.c0 by Mine.e0
name_quick tw14386061602966655976 for Mine.c0 by Mine.e0
name_quick tw12233582284571471492 for Mine.c0 by Mine.e0
name_quick tw3152983702415266003 for Mine.c0 by Mine.e0
name_quick tw9759809726879904816 for Mine.c0 by Mine.e0
name_quick tw900395245841561262 for Mine.c0 by Mine.e0
name_quick tw17000155066101142889 for Mine.c0 by Mine.e0
name_quick tw2408619945344806742 for Mine.c0 by Mine.e0
name_quick tw161092056333428459 for Mine.c0 by Mine.e0
name_quick tw9501820088010722379 for Mine.c0 by Mine.e0
name_quick tw8595292554425487202 for Mine.c0 by Mine.e0
name_quick tw7892128664451923741 for Mine.c0 by Mine.e0
name_quick tw4775785305629353868 for Mine.c0 by Mine.e0
name_quick tw15480198773659482676 for Mine.c0 by Mine.e0
name_quick tw3560238982266916124 for Mine.c0 by Mine.e0
name_quick tw9315938663221665524 for Mine.c0 by Mine.e0
name_quick tw11270796479367742343 for Mine.c0 by Mine.e0
name_quick tw3764465048917985505 for Mine.c0 by Mine.e0
name_quick tw17532440430192770315 for Mine.c0 by Mine.e0
name_quick tw10942035263794033107 for Mine.c0 by Mine.e0
name_quick tw1333364371103165705 for Mine.c0 by Mine.e0
name_quick tw15490439104401381959 for Mine.c0 by Mine.e0
name_quick tw1503297043503765363 for Mine.c0 by Mine.e0
name_quick tw4636218855388986860 for Mine.c0 by Mine.e0
name_quick tw2862820112641550484 for Mine.c0 by Mine.e0
name_quick tw17888162413812561239 for Mine.c0 by Mine.e0
name_quick tw4016919884179927283 for Mine.c0 by Mine.e0
name_quick tw4933834842325187142 for Mine.c0 by Mine.e0
name_quick tw18350330562280901221 for Mine.c0 by Mine.e0
name_quick tw3830411482411394332 for Mine.c0 by Mine.e0
name_quick tw6929956602132211858 for Mine.c0 by Mine.e0
name_quick tw3766158894648301139 for Mine.c0 by Mine.e0
name_quick tw16593013826814733010 for Mine.c0 by Mine.e0
name_quick tw4679858250743294509 for Mine.c0 by Mine.e0
name_quick tw17069979004554194336 for Mine.c0 by Mine.e0
name_quick tw10424941004445345732 for Mine.c0 by Mine.e0
name_quick tw7269565832213808900 for Mine.c0 by Mine.e0
name_quick tw4829060927144295115 for Mine.c0 by Mine.e0
name_quick tw13759679279233594173 for Mine.c0 by Mine.e0
name_quick tw11985326045990495214 for Mine.c0 by Mine.e0
name_quick tw9467589175468403638 for Mine.c0 by Mine.e0
name_quick tw951843321253372498 for Mine.c0 by Mine.e0
name_quick tw13981391230805400906 for Mine.c0 by Mine.e0
name_quick tw8727135674562949291 for Mine.c0 by Mine.e0
name_quick tw8753696776887207221 for Mine.c0 by Mine.e0
name_quick tw662354867322794072 for Mine.c0 by Mine.e0
name_quick tw14530364306720264245 for Mine.c0 by Mine.e0
name_quick tw1092655722715705105 for Mine.c0 by Mine.e0
name_quick tw13215998728584607739 for Mine.c0 by Mine.e0
name_quick tw13789449189825218787 for Mine.c0 by Mine.e0
name_quick tw8424611434330503625 for Mine.c0 by Mine.e0
name_quick tw5529568453561195837 for Mine.c0 by Mine.e0
name_quick tw3972328310683599613 for Mine.c0 by Mine.e0
name_quick tw7299303143086499733 for Mine.c0 by Mine.e0
name_quick tw14126943448341045398 for Mine.c0 by Mine.e0
name_quick tw2611137233208623240 for Mine.c0 by Mine.e0
name_quick tw16145008321745377990 for Mine.c0 by Mine.e0
name_quick tw14333388528381170442 for Mine.c0 by Mine.e0
name_quick tw13678640442995254988 for Mine.c0 by Mine.e0
name_quick tw5978237884098788730 for Mine.c0 by Mine.e0
name_quick tw11333186260410459676 for Mine.c0 by Mine.e0
name_quick tw16643379632663270332 for Mine.c0 by Mine.e0
name_quick tw9763268239775435451 for Mine.c0 by Mine.e0
name_quick tw15007238320947547705 for Mine.c0 by Mine.e0
name_quick tw8579058602437062094 for Mine.c0 by Mine.e0
name_quick tw7232422423428716515 for Mine.c0 by Mine.e0
name_quick tw932993149863042379 for Mine.c0 by Mine.e0
name_quick tw3131671291697673992 for Mine.c0 by Mine.e0
name_quick tw11588390666370768167 for Mine.c0 by Mine.e0
name_quick tw4980102563643897964 for Mine.c0 by Mine.e0
name_quick tw4011157648589011858 for Mine.c0 by Mine.e0
name_quick tw4552823106982906706 for Mine.c0 by Mine.e0
name_quick tw17730448691065144110 for Mine.c0 by Mine.e0
name_quick tw4280405083889116848 for Mine.c0 by Mine.e0
name_quick tw1414301608579184545 for Mine.c0 by Mine.e0
name_quick tw4797165386629745026 for Mine.c0 by Mine.e0
name_quick tw15980859228951719591 for Mine.c0 by Mine.e0
name_quick tw7275051467321613617 for Mine.c0 by Mine.e0
name_quick tw10948738476641704880 for Mine.c0 by Mine.e0
name_quick tw7323676302269181137 for Mine.c0 by Mine.e0
name_quick tw17476080006546285661 for Mine.c0 by Mine.e0
name_quick tw17279654841073493023 for Mine.c0 by Mine.e0
name_quick tw6245536207120538393 for Mine.c0 by Mine.e0
name_quick tw682011567655089306 for Mine.c0 by Mine.e0
name_quick tw8376441433122354887 for Mine.c0 by Mine.e0
name_quick tw16349804527192203551 for Mine.c0 by Mine.e0
name_quick tw2719445374943340272 for Mine.c0 by Mine.e0
name_quick tw9564595351457756722 for Mine.c0 by Mine.e0
name_quick tw13016732220969518872 for Mine.c0 by Mine.e0
name_quick tw14821650378409806113 for Mine.c0 by Mine.e0
name_quick tw1537898542681612871 for Mine.c0 by Mine.e0
name_quick tw704327219915372674 for Mine.c0 by Mine.e0
name_quick tw18056578402003937789 for Mine.c0 by Mine.e0
name_quick tw8789221427942488352 for Mine.c0 by Mine.e0
name_quick tw15263041282635125899 for Mine.c0 by Mine.e0

namespace Mine
set_option maxRecDepth 100000 in
set_option maxHeartbeats 8000000 in
open_top hd for PySem.Challenge.rw_pb0100_01
end Mine

set_option maxRecDepth 100000

namespace Mine
theorem off5 : True := by w_top off; trivial
open PySem.Sem (wp)

/-- an object turned softly: class, dict, the third field stay -/
def Soft (o o' : Obj) : Prop :=
  o'.cls = o.cls ∧ o'.dict = o.dict ∧ o'.isFreed = o.isFreed ∧ ∀ vs, o.data = .fields vs → ∃ vs', o'.data = .fields vs' ∧ vs'[2]? = vs[2]?
theorem Soft.refl (o : Obj) : Soft o o := ⟨rfl, rfl, rfl, fun vs e => ⟨vs, e, rfl⟩⟩
theorem Soft.trans {a b c : Obj} (x : Soft a b) (y : Soft b c) : Soft a c :=
  ⟨y.1.trans x.1, y.2.1.trans x.2.1, y.2.2.1.trans x.2.2.1, fun vs e => by
    obtain ⟨v1, e1, q1⟩ := x.2.2.2 vs e
    obtain ⟨v2, e2, q2⟩ := y.2.2.2 v1 e1
    exact ⟨v2, e2, q2.trans q1⟩⟩
/-- every object of h stands in h', turned softly at most -/
def GK (h h' : Heap) : Prop := ∀ a o, h.get? a = some o → ∃ o', h'.get? a = some o' ∧ Soft o o'
theorem GK.refl (h : Heap) : GK h h := fun _ o e => ⟨o, e, Soft.refl o⟩
theorem GK.trans {a b c : Heap} (x : GK a b) (y : GK b c) : GK a c := fun p o e => by
  obtain ⟨o1, e1, s1⟩ := x p o e
  obtain ⟨o2, e2, s2⟩ := y p o1 e1
  exact ⟨o2, e2, s1.trans s2⟩
theorem GK.of_keeps {h h' : Heap} (k : ∀ b o, h.get? b = some o → h'.get? b = some o) : GK h h' := fun a o e => ⟨o, k a o e, Soft.refl o⟩
theorem GK.push (h : Heap) (o : Obj) : GK h (h.push o) := GK.of_keeps fun _ _ e => Heap.get?_push_of_some o e
theorem GK.update (h : Heap) (a : Addr) (f : Obj → Obj) (hf : ∀ o, Soft o (f o)) : GK h (h.update a f) := fun b o e => by
  by_cases q : a = b
  · subst q
    refine ⟨f o, Heap.get?_update_self f e ?_, hf o⟩
    rw [(hf o).2.2.1]
    exact (Heap.get?_some_iff.mp e).2
  · exact ⟨o, (Heap.get?_update_other h f q).trans e, Soft.refl o⟩

/-- a tree that calls nothing and turns objects softly alone -/
def Gentle {α : Type} : Sem α → Prop
  | .pure _ => True
  | .raise _ => True
  | .unsupported _ => True
  | .finish _ => True
  | .rule _ k => Gentle (k ())
  | .at _ k => Gentle (k ())
  | .load _ _ k => ∀ o, Gentle (k o)
  | .update _ _ f k => (∀ o, Soft o (f o)) ∧ Gentle (k ())
  | .loadIfAlive _ k => ∀ o, Gentle (k o)
  | .point _ k => Gentle (k ())
  | .alloc _ k => ∀ a, Gentle (k a)
  | .fresh k => ∀ t, Gentle (k t)
  | .ask k => ∀ s, Gentle (k s)
  | .handled _ k => ∀ h, Gentle (k h)
  | .stack k => ∀ l, Gentle (k l)
  | _ => False

theorem Gentle.keeps {α : Type} {M : Model} {Γ : Ctx} {t : Sem α} : Gentle t → ∀ {Q : α → Pos → Shared → Prop} {E : Value → Pos → Shared → Prop} {p : Pos} {s : Shared},
    wp M Γ t Q E p s → wp M Γ t (fun a p' s' => Q a p' s' ∧ GK s.heap s'.heap) (fun e p' s' => E e p' s' ∧ GK s.heap s'.heap) p s := by
  induction t with
  | pure a => intro _ Q E p s h; exact ⟨h, GK.refl _⟩
  | raise a => intro _ Q E p s h; exact ⟨h, GK.refl _⟩
  | unsupported => intro _ Q E p s h; exact h
  | finish => intro _ Q E p s h; exact h
  | rule _ k ih => intro g Q E p s h; exact ih () g h
  | «at» _ k ih => intro g Q E p s h; exact ih () g h
  | load _ _ k ih => intro g Q E p s h; obtain ⟨o, ho, h⟩ := h; exact ⟨o, ho, ih o (g o) h⟩
  | update a _ f k ih =>
    intro g Q E p s h
    obtain ⟨ho, h⟩ := h
    have tr := GK.update s.heap a f g.1
    refine ⟨ho, Sem.wp_mono M Γ _ (fun x p' s' z => ⟨z.1, tr.trans z.2⟩) (fun x p' s' z => ⟨z.1, tr.trans z.2⟩) _ _ (ih () g.2 h)⟩
  | loadIfAlive _ k ih => intro g Q E p s h; exact ih _ (g _) h
  | point _ k ih => intro g Q E p s h; exact ih () g h
  | alloc o k ih =>
    intro g Q E p s h
    have tr := GK.push s.heap o
    exact Sem.wp_mono M Γ _ (fun x p' s' z => ⟨z.1, tr.trans z.2⟩) (fun x p' s' z => ⟨z.1, tr.trans z.2⟩) _ _ (ih _ (g _) h)
  | fresh k ih => intro g Q E p s h; exact ih _ (g _) h
  | ask k ih => intro g Q E p s h; exact ih _ (g _) h
  | handled _ k ih => intro g Q E p s h; exact ih _ (g _) h
  | stack k ih => intro g Q E p s h; exact ih _ (g _) h
  | _ => intro g; exact g.elim

theorem Gentle.any {α : Type} {M : Model} {A : Around} {t : Sem α} {Q : α → Shared → Prop} {E : Value → Shared → Prop} {s : Shared} (g : Gentle t) (h : wpAny M A t Q E s) :
    wpAny M A t (fun a s' => Q a s' ∧ GK s.heap s'.heap) (fun e s' => E e s' ∧ GK s.heap s'.heap) s := fun Γ p hΓ => g.keeps (h Γ p hΓ)

theorem Gentle.bind {α β : Type} {t : Sem α} {f : α → Sem β} (g : Gentle t) (k : ∀ a, Gentle (f a)) : Gentle (t >>= f) := by
  show Gentle (Sem.bind t f)
  induction t with
  | pure a => exact k a
  | raise => exact trivial
  | unsupported => exact trivial
  | finish => exact trivial
  | rule _ _ ih => exact ih () g
  | «at» _ _ ih => exact ih () g
  | load _ _ _ ih => exact fun o => ih o (g o)
  | update _ _ _ _ ih => exact ⟨g.1, ih () g.2⟩
  | loadIfAlive _ _ ih => exact fun o => ih o (g o)
  | point _ _ ih => exact ih () g
  | alloc _ _ ih => exact fun o => ih o (g o)
  | fresh _ ih => exact fun o => ih o (g o)
  | ask _ ih => exact fun o => ih o (g o)
  | handled _ _ ih => exact fun o => ih o (g o)
  | stack _ ih => exact fun o => ih o (g o)
  | _ => exact g.elim
theorem Gentle.pure {α : Type} (a : α) : Gentle (Pure.pure a : Sem α) := trivial
theorem Gentle.unsup {α : Type} (a : String) : Gentle (unsupported a : Sem α) := trivial
theorem Gentle.stack_ : Gentle stack := fun _ => trivial
theorem Gentle.load_ (a : Addr) : Gentle (load a) := fun _ => trivial
theorem Gentle.update_ (a : Addr) (f : Obj → Obj) (h : ∀ o, Soft o (f o)) : Gentle (update a f) := ⟨h, trivial⟩
theorem Gentle.alloc_ (o : Obj) : Gentle (alloc o) := fun _ => trivial

theorem gentle_fieldsOf (v : Value) : Gentle (fieldsOf v) := by
  unfold fieldsOf
  cases v <;> first | exact trivial | skip
  refine Gentle.bind (Gentle.load_ _) fun o => ?_
  cases o.data <;> exact trivial
theorem gentle_field (v : Value) (i : Nat) : Gentle (field v i) := by
  unfold field
  refine Gentle.bind (gentle_fieldsOf _) fun vs => ?_
  cases vs[i]? <;> exact trivial
theorem soft_setField (i : Nat) (hi : i ≠ 2) (v : Value) (o : Obj) : Soft o (Obj.mapFields (·.setIfInBounds i v) o) := by
  obtain ⟨c, d, dt, sl⟩ := o
  cases dt <;> first | exact Soft.refl _ | skip
  rename_i vs
  refine ⟨rfl, rfl, rfl, fun ws e => ⟨_, rfl, ?_⟩⟩
  cases e
  rw [Array.getElem?_setIfInBounds_ne hi]
theorem gentle_setField (v : Value) (i : Nat) (hi : i ≠ 2) (x : Value) : Gentle (setField v i x) := by
  unfold setField
  cases v <;> first | exact trivial | skip
  unfold updateField
  refine Gentle.bind (Gentle.load_ _) fun o => ?_
  cases o.data <;> first | exact trivial | skip
  dsimp only
  split
  · exact Gentle.update_ _ _ (soft_setField i hi x)
  · exact trivial
theorem gentle_setFlight (e : Value) (f : Option Addr) : Gentle (setFlight e f) := by
  unfold setFlight
  refine Gentle.bind (gentle_field _ _) fun tb => ?_
  split
  · exact gentle_setField _ _ (by decide) _
  · exact trivial
theorem gentle_under : Gentle underTheClaimsCaller := by
  unfold underTheClaimsCaller
  exact Gentle.bind Gentle.stack_ fun _ => trivial
theorem gentle_keptBack (env : Env) (i : Bool) (l : List Env) : Gentle (keptBack env i l) := by
  cases l with
  | nil =>
    delta keptBack
    dsimp only
    split
    · exact Gentle.pure _
    · exact Gentle.bind gentle_under fun b => by cases b <;> exact Gentle.pure _
  | cons c r => exact Gentle.pure _
theorem gentle_behind (env : Env) (l : List Env) : Gentle (behindIsImport env l) := by
  unfold behindIsImport
  repeat (first | exact Gentle.pure _ | exact gentle_field _ _ | refine Gentle.bind ?_ fun _ => ?_ | split)
theorem gentle_ready : ∀ l : List Env, Gentle (readyFrames l)
  | [] => trivial
  | env :: outer => by
    have ih := gentle_ready outer
    unfold readyFrames
    have up : ∀ (f : Addr) (b : Value), Gentle (update f fun o => { o with slots := #[some env.code, some (.ref env.globals), o.slots.getD 2 none, some b, o.slots.getD 4 none, env.func.map Value.ref, some (.ref env.builtins)] ++ (env.cells.map fun c => some (.ref c.2)).toArray }) := fun f b =>
      Gentle.update_ _ _ fun o => ⟨rfl, rfl, by obtain ⟨_, _, dt, _⟩ := o; cases dt <;> rfl, fun vs e => ⟨vs, e, rfl⟩⟩
    cases env.frame with
    | none => exact trivial
    | some f =>
      dsimp only
      repeat (first | exact up _ _ | exact ih | exact Gentle.pure _ | exact Gentle.load_ _ | exact gentle_behind _ _ | exact gentle_keptBack _ _ _ | refine Gentle.bind ?_ fun _ => ?_ | split)
theorem gentle_frameOf (env : Env) : Gentle (PySem.frameOf env) := by
  unfold PySem.frameOf frameEnvs
  refine Gentle.bind (Gentle.bind Gentle.stack_ fun _ => Gentle.pure _) fun l => ?_
  refine Gentle.bind ?_ fun r => by cases r <;> exact trivial
  generalize List.dropWhile _ l = q
  cases q with
  | nil => exact trivial
  | cons e r =>
    unfold frameObject
    exact Gentle.bind (gentle_ready _) fun _ => Gentle.pure _
theorem gentle_place (f : Addr) (b : Bool) : Gentle (entryPlaceOf f b) := by
  unfold entryPlaceOf
  refine Gentle.bind Gentle.stack_ fun l => ?_
  dsimp only
  split <;> exact trivial
theorem gentle_newEntry (a b c d e : Value) (l : List Value) : Gentle (EntryCells.newEntry a b c d e l) := by
  unfold EntryCells.newEntry newFields newObj newObjAsIs
  dsimp only
  repeat (first | exact Gentle.pure _ | exact Gentle.unsup _ | exact Gentle.alloc_ _ | refine Gentle.bind ?_ fun _ => ?_ | split)
theorem gentle_noteFrame (e : Value) (env : Env) : Gentle (noteFrame e env) := by
  unfold noteFrame
  cases env.frame with
  | none => exact trivial
  | some f =>
    repeat (first | exact Gentle.pure _ | exact gentle_field _ _ | exact gentle_setField _ _ (by decide) _ | exact gentle_frameOf _ | exact gentle_place _ _ | exact gentle_newEntry _ _ _ _ _ _ | refine Gentle.bind ?_ fun _ => ?_ | split)
theorem gentle_leaving (env : Env) (e : Value) : Gentle (leaving env e) := by
  unfold leaving
  exact Gentle.bind (gentle_noteFrame _ _) fun _ => gentle_setFlight _ _
end Mine

namespace Mine
theorem off6 : True := by w_top off; trivial
open PySem.Calls

abbrev tupO (vs : List Value) : Obj := { cls := .type "tuple", data := .seq vs.toArray }
abbrev excO (C t : Addr) (d : Option Addr) : Obj := { cls := .ref C, dict := d, data := .fields #[.ref t, .none, .none, .none, .bool false, .none] }

/-- only own classes ahead of Exception's own road -/
def onlyExc : List Value → Bool
  | .ref _ :: r => onlyExc r
  | l => l == [.type "Exception", .type "BaseException", .type "object"]
theorem onlyExc_passes (self : Value) : ∀ {l : List Value}, onlyExc l = true → refuseLoop self "__setattr__" l = pure ()
  | .ref c :: r, e => by
    rw [refuseLoop_ref]
    exact onlyExc_passes self (l := r) (by unfold onlyExc at e; exact e)
  | [], e => by cases e
  | .none :: _, e => by cases e
  | .ellipsis :: _, e => by cases e
  | .notImplemented :: _, e => by cases e
  | .bool _ :: _, e => by unfold onlyExc at e; rw [beq_iff_eq] at e; cases e
  | .int _ _ :: _, e => by unfold onlyExc at e; rw [beq_iff_eq] at e; cases e
  | .float _ _ :: _, e => by unfold onlyExc at e; rw [beq_iff_eq] at e; cases e
  | .str _ _ :: _, e => by unfold onlyExc at e; rw [beq_iff_eq] at e; cases e
  | .bytes _ _ :: _, e => by unfold onlyExc at e; rw [beq_iff_eq] at e; cases e
  | .builtin _ :: _, e => by unfold onlyExc at e; rw [beq_iff_eq] at e; cases e
  | .type n :: r, e => by
    unfold onlyExc at e
    rw [beq_iff_eq] at e
    rw [e]
    exact PySem.F.store_Exception.passes self

/-- the facts of an own exception class that the written part tells -/
def excMk (K : Frag) (C : Addr) : Bool := match K.lookup C with
  | some ⟨.type "type", _, .cls cd, sl⟩ => (match cd.mro, sl.toList with
    | .ref C' :: bm, [_, _, _, _, some (.builtin n), _] => C' == C && n == "Exception.__new__" && !cd.hasDel && cd.hasDict && bm.contains (.type "Exception") && bm.contains (.type "BaseException") &&
        bm.contains (.type "object") && !bm.contains (.type "AttributeError") && !bm.contains (.type "NameError") && onlyExc bm && specialIn K (.ref C) "__call__" == some (some (.builtin "type.__call__")) && instIn K (.ref C) (.type "type") == some true
    | _, _ => false)
  | _ => false

structure IsExc (K : Frag) (C : Addr) (bm : List Value) : Prop where
  obj : ∃ nm q N bs sn sub ab col dd k0 k1 k2 k3 k5, K.lookup C = some (excClassObj nm q C N bs bm true sn sub ab col dd k0 k1 k2 k3 k5 "Exception.__new__")
  e1 : bm.contains (.type "Exception") = true
  e2 : bm.contains (.type "BaseException") = true
  e3 : bm.contains (.type "object") = true
  e4 : bm.contains (.type "AttributeError") = false
  e5 : bm.contains (.type "NameError") = false
  e0 : onlyExc bm = true
  e6 : specialIn K (.ref C) "__call__" = some (some (.builtin "type.__call__"))
  e7 : instIn K (.ref C) (.type "type") = some true

theorem isExc_of {K : Frag} {C : Addr} (q : excMk K C = true) : ∃ bm, IsExc K C bm := by
  unfold excMk at q
  split at q
  · rename_i dd cd sl ho
    split at q
    · rename_i C' bm k0 k1 k2 k3 n k5 hm hs
      simp only [Bool.and_eq_true, beq_iff_eq, Bool.not_eq_true'] at q
      obtain ⟨⟨⟨⟨⟨⟨⟨⟨⟨⟨⟨rfl, rfl⟩, hdel⟩, hdict⟩, h1⟩, h2⟩, h3⟩, h4⟩, h5⟩, h0⟩, h6⟩, h7⟩ := q
      obtain ⟨nm, bs, mro, ns, qn, hd, sn, sub, ab, col, del⟩ := cd
      dsimp only at hm hdel hdict
      subst hm hdel hdict
      have hsl : sl = #[k0, k1, k2, k3, some (.builtin "Exception.__new__"), k5] := by
        obtain ⟨l⟩ := sl
        simp only at hs
        rw [hs]
      subst hsl
      exact ⟨bm, ⟨nm, qn, ns, bs, sn, sub, ab, col, dd, k0, k1, k2, k3, k5, ho⟩, h1, h2, h3, h4, h5, h0, h6, h7⟩
    · cases q
  · cases q

section
variable {prog : Program} {w : World} {A : Around} {E : Value → Shared → Prop} {R : Result → Shared → Prop} {h : Heap} {g : Array GenState} {d : Drawn} {t : Nat} {os : OsState} {K : Frag} {C : Addr} {bm : List Value}

/-- the making of the bare object: BaseException.__new__ under the name that the class keeps -/
theorem exc_new (Y : IsExc K C bm) (X : K.In h) {rest : List Value} (hrest : rest.length ≤ sizeLine)
    (hq : R (.ok (.ret (.ref (h.objs.size + 1)))) ⟨(h.push (tupO rest)).push (excO C h.objs.size none), g, d, t, os⟩) :
    codeAny (model prog w) A (.call (.builtin "Exception.__new__") ⟨.ref C :: rest, []⟩) R ⟨h, g, d, t, os⟩ := by
  obtain ⟨nm, q, N, bs, sn, sub, ab, col, dd, k0, k1, k2, k3, k5, hK⟩ := Y.obj
  have hC := X _ _ hK
  have Fn := PySem.F.excBase_Exception
  have hends := Fn.ends
  have hcB : (Value.ref C :: bm).contains (.type "Exception") = true := by rw [List.contains_cons, Y.e1, Bool.or_true]
  have hcA : (Value.ref C :: bm).contains (.type "AttributeError") = false := by rw [List.contains_cons, Y.e4]; rfl
  have hcN : (Value.ref C :: bm).contains (.type "NameError") = false := by rw [List.contains_cons, Y.e5]; rfl
  refine codeAny_call_builtin_code (Code.quiet_builtin _ Fn.quiet) (wpAny_check_new_subU (bmB := bm) Fn Y.e1 OwnTail.base hC ?_)
  refine codeAny_builtinAt Fn.entry ?_
  unfold Builtin.«BaseException.__new__»
  refine PySem.wpAt_bind ?_
  show PySem.wpAt _ _ _ (stack >>= _) _ _ _
  refine PySem.wpAt_bind (PySem.wpAt_stack fun p below => PySem.wpAt_of_wpAny ?_)
  wp_walk
  refine PySem.wpAt_of_wpAny ?_
  rw [Fn.owner]
  repeat (first | with_reducible refine wpAny_madeHere_exc Fn.canon hC ?_ | with_reducible refine wpAny_loadPart_at hC ?_ | (with_reducible refine wpAny_isSubtype_exc hC ?_; first | rw [hcB] | rw [hcA] | rw [hcN]) | wp_step)
  show R _ _
  rw [Heap.size_push]
  exact hq

theorem exc_core (Y : IsExc K C bm) (X : K.In h) {rest : List Value} {init : Value} (hrest : rest.length ≤ sizeLine)
    (hi : Looks (model prog w) h (typeLookup (.ref C) "__init__") (some init)) (hb : ∀ self, Looks (model prog w) h (bindSpecial init self) (init, [self]))
    (hq : codeAny (model prog w) (A.under (.builtin "type.__call__" ⟨.ref C :: rest, []⟩)) (.call init ⟨.ref (h.objs.size + 1) :: rest, []⟩) (InitBack (h.objs.size + 1) R) ⟨(h.push (tupO rest)).push (excO C h.objs.size none), g, d, t, os⟩) :
    codeAny (model prog w) A (.call (.ref C) ⟨rest, []⟩) R ⟨h, g, d, t, os⟩ := by
  obtain ⟨nm, q, N, bs, sn, sub, ab, col, dd, k0, k1, k2, k3, k5, hK⟩ := Y.obj
  have hC := X _ _ hK
  have call := looks_specialIn (M := model prog w) X Y.e6
  have typ := looks_instIn (M := model prog w) X Y.e7
  refine codeAny_of_tree ?_
  show wpAny _ _ (callAny (.ref C) _) _ _ _
  refine nd_load hC ?_
  show wpAny _ _ (callAny.viaDunder (.ref C) _) _ _ _
  unfold callAny.viaDunder
  refine wpAny_bind (call.at ?_)
  dsimp only
  rw [tc_bind]
  refine wpAny_bind (wpAny_pure (wpAny_bind (wpAny_pure ?_)))
  refine wpAny_pure (a := Fin.again (.call (.builtin "type.__call__") ⟨.ref C :: rest, []⟩)) (And.intro rfl ?_)
  refine codeAny_call_builtin_at (Code.quiet_builtin _ (by decide +kernel)) entry_typeCall (check_slot tc_kind tc_split typ (tc_args _ _ _) ?_)
  unfold Builtin.«type.__call__»
  have made : Looks (model prog w) h (Bind.madeBy (.ref C)) (some "Exception.__new__") := fun A Q E s k q' => by
    obtain ⟨hp, g', d', t', os'⟩ := s
    exact wpAny_madeBy_exc (k _ _ hC) q'
  have hm : Looks (model prog w) h (mroOf (.ref C)) (.ref C :: bm) := fun A Q E s k q' => by
    obtain ⟨hp, g', d', t', os'⟩ := s
    exact wpAny_mroOf_exc (k _ _ hC) q'
  have hself : Looks (model prog w) h (isSubtype (.ref C) (.ref C)) true := fun A Q E s k q' => by
    obtain ⟨hp, g', d', t', os'⟩ := s
    refine wpAny_isSubtype_exc (k _ _ hC) ?_
    rw [show (Value.ref C :: bm).contains (.ref C) = true by simp]
    exact q'
  repeat (first | simp only [List.isEmpty_cons, Bool.false_eq_true, if_false] | with_reducible refine wpAny_call ?_ | lk)
  refine exc_new Y X hrest ?_
  have k : ∀ b o, h.get? b = some o → ((h.push (tupO rest)).push (excO C h.objs.size none)).get? b = some o := fun b o e => Heap.get?_push_of_some _ (Heap.get?_push_of_some _ e)
  have hx : ((h.push (tupO rest)).push (excO C h.objs.size none)).get? (h.objs.size + 1) = some (excO C h.objs.size none) := by heap_get
  have t1 : Looks (model prog w) ((h.push (tupO rest)).push (excO C h.objs.size none)) (typeOf (.ref (h.objs.size + 1))) (.ref C) := (Looks.ld hx).andThen .now
  have s1 := hself.keeps k
  have i1 := hi.keeps k
  have b1 := (hb (.ref (h.objs.size + 1))).keeps k
  unfold isInstance callSpecial? specialOf
  repeat (first | with_reducible refine wpAny_call ?_ | lk)
  refine codeAny_mono hq fun r s' z => ?_
  rcases r with e | (v | _ | _ | _) <;> first | exact z | exact z.elim | skip
  obtain ⟨rfl, z⟩ := z
  exact wpAny_pure (wpAny_pure z)
end

section
variable {prog : Program} {w : World} {A : Around} {K : Frag} {C : Addr} {s : Shared} {h₀ : Heap} {L : Addr} {m : Str → Option Value} {news : List (Addr × Obj)} {R : Result → Shared → Prop}
theorem exc_K {rest : List Value} {fI : Addr} (F : Fr h₀ L s.heap m) (N : News h₀ L s.heap news) (X : K.In h₀) (hm : excMk K C = true)
    (hi : findIn K (.ref C) "__init__" = some (some (.ref fI))) (hf : typeIn K (.ref fI) = some (.type "function")) (hrest : rest.length ≤ sizeLine)
    (h : ∀ e t h', Fr h₀ L h' m → News h₀ L h' ((e, excO C t none) :: (t, tupO rest) :: news) → (∀ p ∈ news, p.1 < t) → t < e →
      codeAny (model prog w) (A.under (.builtin "type.__call__" ⟨.ref C :: rest, []⟩)) (.call (.ref fI) ⟨.ref e :: rest, []⟩) (InitBack e R) { s with heap := h' }) :
    codeAny (model prog w) A (.call (.ref C) ⟨rest, []⟩) R s := by
  obtain ⟨hh, g, d, t, os⟩ := s
  obtain ⟨bm, Y⟩ := isExc_of hm
  have X' : K.In hh := X.keeps F.keep
  refine exc_core Y X' hrest (looks_findIn X' hi) (fun self => bind_fn X' self hf) (h _ hh.objs.size _ ((F.push _).push _) ?_ (fun p hp => Heap.lt_size (N p hp).1) (Nat.lt_succ_self _))
  have := (N.push F (tupO rest)).push (F.push _) (excO C hh.objs.size none)
  rwa [Heap.size_push] at this

open Builtin Builtin.ObjectAttr in
/-- the first attribute of a new exception: its dict is made -/
theorem exc_set {E : Value → Shared → Prop} {e t : Addr} {name : Str} {v : Value} {Q : Unit → Shared → Prop} (F : Fr h₀ L s.heap m) (X₀ : K.In h₀) (N : News h₀ L s.heap ((e, excO C t none) :: news)) (hm : excMk K C = true)
    (hs : findIn K (.ref C) "__setattr__" = some (some (.builtin "object.__setattr__"))) (ht : takerIn K C name = some none) (h1 : ∀ p ∈ news, p.1 ≠ e)
    (h : ∀ d h' tk, Fr h₀ L h' m → News h₀ L h' ((e, excO C t (some d)) :: (d, dictOf [⟨PyData.keyHash w.params name, .str name (s.toks + 1), v⟩] 1) :: news) → (∀ p ∈ ((e, excO C t none) :: news), p.1 < d) → Q () { s with heap := h', toks := tk }) :
    wpAny (model prog w) A (setAttr (.ref e) name v) Q E s := by
  obtain ⟨bm, Y⟩ := isExc_of hm
  have X : K.In s.heap := X₀.keeps F.keep
  have I : PySem.W.InstAt s.heap e (excO C t none) C none := ⟨(N _ (.head _)).1, rfl, rfl, trivial⟩
  refine set_plain X I hs ?_
  have SF := PySem.F.store_object
  obtain ⟨nm, q, Nn, bs, sn, sub, ab, col, dd, k0, k1, k2, k3, k5, hK⟩ := Y.obj
  obtain ⟨cd, hc, hcm, hcd⟩ : ∃ cd, clsIn K C = some cd ∧ cd.mro = .ref C :: bm ∧ cd.hasDict = true := ⟨_, by unfold clsIn; rw [hK], rfl, rfl⟩
  have hmro : Looks (model prog w) s.heap (mroOf (.ref C)) (.ref C :: bm) := hcm ▸ (looks_clsIn X hc).andThen .now
  have sub1 : Looks (model prog w) s.heap (isInstance (.ref e) (.type "object")) true := I.type.andThen (looks_mroIn X (by
    unfold mroIn; rw [hc, Option.bind_some, hcm]
    simp only [List.isEmpty_cons, Bool.false_eq_true, if_false, List.contains_cons, Y.e3, Bool.or_true]))
  refine codeAny_call_builtin SF.slot.plain SF.entry (@check_slot (model prog w) _ _ { s with toks := s.toks + 1 } "object.__setattr__" "object" "__setattr__" (.ref e) [.str name s.toks, v] [] _ SF.kind SF.split sub1 (SF.args (.ref e) (.str name s.toks) v) ?_)
  obtain ⟨attr, ha, hr⟩ := Option.bind_eq_some_iff.mp ht
  have L3 : Looks (model prog w) s.heap (storeTaker? attr) none := by
    cases attr with
    | none => exact .now
    | some a =>
      obtain ⟨b, hb, e2⟩ := Option.map_eq_some_iff.mp hr
      refine (looks_takesIn X hb).andThen ?_
      cases b
      · exact .now
      · cases e2
  rw [osa_eq, refuse_eq]
  refine wpAny_bind (wpAny_bind (I.type.at (wpAny_bind (hmro.at ?_))))
  rw [refuseLoop_ref, onlyExc_passes (.ref e) Y.e0]
  refine wpAny_pure (wpAny_bind (I.type.at (wpAny_bind ((looks_findIn X ha).at (wpAny_bind (L3.at ?_))))))
  have hx := I.at_
  show wpAny _ _ (storeInOwnDict (.ref e) (.ref C) (.str name s.toks) name v attr.isSome) _ _ _
  unfold storeInOwnDict ownDictForStores instanceDict
  refine wpAny_bind (wpAny_pure (wpAny_bind (wpAny_bind (wpAny_loadPart hx (wpAny_bind ((looks_clsIn X hc).at ?_))))))
  simp only [hcd, Bool.not_true, Bool.false_eq_true, if_false]
  show wpAny _ _ (alloc emptyDict >>= fun d => update e (fun o => { o with dict := some d }) >>= fun _ => pure (some d)) _ _ _
  refine wpAny_bind (wpAny_alloc ?_)
  have F1 := F.push emptyDict
  have N1 := N.push F emptyDict
  have hx1 := (N1 (e, excO C t none) (.tail _ (.head _))).1
  have hlt : ∀ p ∈ ((e, excO C t none) :: news), p.1 < s.heap.objs.size := fun p hp => Heap.lt_size (N p hp).1
  refine wpAny_bind (wpAny_update hx1 (wpAny_pure ?_))
  obtain ⟨F2, N2⟩ := news_upd (pre := [(s.heap.objs.size, emptyDict)]) (post := news) (f := fun o => { o with dict := some s.heap.objs.size }) F1 N1
    (fun p hp => by rw [List.mem_singleton.mp hp]; exact Nat.ne_of_gt (hlt (e, excO C t none) (.head _))) h1 (o' := excO C t (some s.heap.objs.size)) rfl rfl
  show wpAny _ _ (storeInDict s.heap.objs.size (.str name s.toks) name v) _ _ _
  unfold storeInDict newKeyGuard nsSet
  refine wpAny_bind (wpAny_pure (wpAny_bind (wpAny_bind (wpAny_bind (wpAny_askSetting (wpAny_pure ?_))))))
  refine wpAny_bind (wpAny_mkText (wpAny_bind (wpAny_loadPart (N2 (s.heap.objs.size, emptyDict) (.head _)).1 ?_)))
  dsimp only
  rw [aRefKeyMayBeTheName_at]
  rw [if_neg (by simp)]
  refine wpAny_updatePart (N2 (s.heap.objs.size, emptyDict) (.head _)).1 ?_
  obtain ⟨F3, N3⟩ := news_upd (pre := []) (post := (e, excO C t (some s.heap.objs.size)) :: news) (f := Obj.putName name (PyData.keyHash w.params name) (.str name (s.toks + 1)) v) F2 N2
    (fun p hp => nomatch hp) (fun p hp => by
      rcases List.mem_cons.mp hp with rfl | hp
      · exact Nat.ne_of_lt (hlt (e, excO C t none) (.head _))
      · exact Nat.ne_of_lt (hlt p (.tail _ hp))) (o' := dictOf [⟨PyData.keyHash w.params name, .str name (s.toks + 1), v⟩] 1) (putName_dict name _ _ v [] 0) rfl
  refine wpAny_bind (wpAny_lookBehind (N3 _ (.head _)).1 (pastItsLine_dict (by simp [sizeLine_eq])) ?_)
  exact wpAny_pure (h _ _ _ F3 (fun p hp => N3 p (by
    rcases List.mem_cons.mp hp with rfl | hp
    · exact .tail _ (.head _)
    rcases List.mem_cons.mp hp with rfl | hp
    · exact .head _
    · exact .tail _ (.tail _ hp))) hlt)
end
end Mine

namespace Mine
theorem off7 : True := by w_top off; trivial
open PySem.Calls

/-- what a raised own exception needs at the statement's end -/
def RaisableO (E : Value → Shared → Prop) (v : Value) (s₁ : Shared) : Prop :=
  ∃ a ob vs C, v = .ref a ∧ s₁.heap.get? a = some ob ∧ ob.cls = .ref C ∧ ob.data = .fields vs ∧ vs[1]? = some .none ∧ (∃ K, Frag.In K s₁.heap ∧ excMk K C = true) ∧ E (.ref a) s₁

section
variable {M : Model} {A : Around} {E : Value → Shared → Prop} {s : Shared} {env : Env}
/-- up to the raising itself -/
theorem raise_core {e : Expr} {pos : Pos} {Q : Flow → Shared → Prop} {E' : Value → Shared → Prop}
    (h : wpAny M A (eval e env) (RaisableO E') E s) (hr : ∀ a s₁, E' (.ref a) s₁ → wpAny M A (raiseNew (.ref a) : Sem Flow) Q E s₁) : wpAny M A (exec (.Raise (some e) none pos) env) Q E s := by
  show wpAny M A (do standAt pos; raiseStmt env (some (do let v ← eval e env; standAt pos; pure v)) none) Q E s
  refine wpAny_bind (wpAny_standAt ?_)
  unfold raiseStmt
  dsimp only
  refine wpAny_bind (wpAny_bind (wpAny_mono h (fun v s₁ h₁ => wpAny_bind (wpAny_standAt (wpAny_pure ?_))) fun _ _ x => x))
  obtain ⟨a, ob, vs, C, rfl, ha, hcls, hd, h1, ⟨K, X, hm⟩, hE⟩ := h₁
  obtain ⟨bm, Y⟩ := isExc_of hm
  obtain ⟨nm, q, N, bs, sn, sub, ab, col, dd, k0, k1, k2, k3, k5, hK⟩ := Y.obj
  have hC := X _ _ hK
  have hnt : ∀ {Q' : Bool → Shared → Prop}, Q' false s₁ → wpAny M A (isType (.ref a)) Q' E s₁ := by
    intro Q' hq
    simp only [isType, loadHead]
    refine wpAny_bind (wpAny_loadPart ha ?_)
    rw [hd]; exact wpAny_pure hq
  have hto : ∀ {Q' : Value → Shared → Prop}, Q' (.ref C) s₁ → wpAny M A (typeOf (.ref a)) Q' E s₁ := by
    intro Q' hq
    exact wpAny_bind (wpAny_loadPart ha (wpAny_pure (hcls ▸ hq)))
  refine wpAny_bind (wpAny_pure ?_)
  dsimp only
  refine wpAny_bind (wpAny_holding ?_)
  unfold excFromValue isExcClass
  refine wpAny_bind (wpAny_bind (hnt ?_))
  simp only [Bool.false_eq_true, if_false]
  refine wpAny_pure ?_
  simp only [Bool.false_eq_true, if_false]
  unfold isInstance
  refine wpAny_bind (wpAny_bind (hto ?_))
  obtain ⟨hp, g, d, tk, os⟩ := s₁
  refine wpAny_isSubtype_exc hC ?_
  rw [show (Value.ref C :: bm).contains (.type "BaseException") = true from by rw [List.contains_cons, Y.e2, Bool.or_true]]
  simp only [if_true]
  refine wpAny_pure ?_
  refine wpAny_bind (hnt ?_)
  simp only [Bool.false_eq_true, if_false]
  unfold raisedInstance
  refine wpAny_bind (wpAny_bind (hto (wpAny_bind (wpAny_bind (wpAny_loadPart hC (wpAny_pure ?_))))))
  simp only [beq_self_eq_true, if_true]
  refine wpAny_pure ?_
  unfold setFlight
  refine wpAny_bind (wpAny_bind (wpAny_field ha hd h1 ?_))
  rw [if_neg (by decide)]
  exact wpAny_pure (hr a _ hE)

theorem raise_own {e : Expr} {pos : Pos} {Q : Flow → Shared → Prop} (hh : A.handled = none)
    (h : wpAny M A (eval e env) (RaisableO E) E s) : wpAny M A (exec (.Raise (some e) none pos) env) Q E s := by
  refine raise_core h fun a s₁ hE => ?_
  unfold raiseNew
  refine wpAny_bind (wpAny_handled ?_)
  rw [hh]
  first
    | exact wpAny_throw hE
    | exact wpAny_bind (wpAny_pure (wpAny_throw hE))
end

section
variable {prog : Program} {w : World} {A : Around} {E : Value → Shared → Prop} {s : Shared} {env : Env}
/-- raised where another one is held: it is noted as the context -/
def Chained (x : Addr) (E : Value → Shared → Prop) (v : Value) (s₁ : Shared) : Prop :=
  ∃ a ox vx oe ve, v = .ref a ∧ a ≠ x ∧ s₁.heap.get? x = some ox ∧ ox.data = .fields vx ∧ vx[2]? = some .none ∧ s₁.heap.get? a = some oe ∧ oe.data = .fields ve ∧ 2 < ve.size ∧
    E (.ref a) { s₁ with heap := s₁.heap.update a (Obj.mapFields (·.setIfInBounds 2 (.ref x))) }
theorem entry_unchain : entryFor table "proto.unchain" = some Builtin.«proto.unchain» := entryFor_of_tree (by kernel_rfl)
theorem raise_ctx {e : Expr} {pos : Pos} {Q : Flow → Shared → Prop} {x : Addr} (hh : A.handled = some (.ref x))
    (h : wpAny (model prog w) A (eval e env) (RaisableO (Chained x E)) E s) : wpAny (model prog w) A (exec (.Raise (some e) none pos) env) Q E s := by
  refine raise_core h fun a s₁ hE => ?_
  obtain ⟨a', ox, vx, oe, ve, e1, hne, hx, hxd, hx2, ha, had, hsz, hE⟩ := hE
  cases e1
  unfold raiseNew
  refine wpAny_bind (wpAny_handled ?_)
  rw [hh]
  have hb : ((Value.ref x != Value.ref a) = true) := by simp [Ne.symm hne]
  dsimp only
  rw [if_pos hb]
  refine wpAny_bind (wpAny_holding (wpAny_runValue (codeAny_builtin entry_unchain ?_)))
  unfold Builtin.«proto.unchain»
  refine wpAny_bind (wpAny_field hx hxd hx2 ?_)
  rw [if_pos (by decide)]
  refine wpAny_bind (wpAny_pure (wpAny_pure ?_))
  refine wpAny_bind ?_
  show wpAny _ _ (setField (.ref a) 2 (.ref x)) _ _ _
  exact wpAny_setField ha had hsz (wpAny_throw hE)
end

/-- an own exception in flight: its class, its dict, its context -/
def Flown (base G : Heap) (l : List Env) (e C d : Addr) (c : Value) (news : List (Addr × Obj)) (h : Heap) : Prop :=
  RaisedSN base G l e (.ref C) news h ∧ ∃ oe vs, h.get? e = some oe ∧ oe.dict = some d ∧ oe.data = .fields vs ∧ vs[2]? = some c
def Tied (e d : Addr) (c : Value) (h : Heap) : Prop := ∃ oe vs, h.get? e = some oe ∧ oe.dict = some d ∧ oe.data = .fields vs ∧ vs[2]? = some c
theorem Tied.soft {e d : Addr} {c : Value} {h h' : Heap} (x : Tied e d c h) (k : GK h h') : Tied e d c h' := by
  obtain ⟨oe, vs, h1, h2, h3, h4⟩ := x
  obtain ⟨o', e1, s1, s2, s3, s4⟩ := k e oe h1
  obtain ⟨vs', e3, e4⟩ := s4 vs h3
  exact ⟨o', vs', e1, s2.trans h2, e3, e4.trans h4⟩

section
variable {M : Model} {A : Around} {E : Value → Shared → Prop} {s' : Shared} {base g g₂ h : Heap} {outer : List Env} {L a e C d : Addr} {m : Str → Option Value} {name : Str} {scope : Scope} {cd : Value} {Q : Unit → Shared → Prop} {news : List (Addr × Obj)} {oe : Obj} {vs : Array Value} {a0 c : Value}
/-- a new own exception leaves the frame that raised it -/
theorem leave_first (K : Below A base outer g) (F : Fr g L s'.heap m) (N : News g L s'.heap ((e, oe) :: news)) (hcls : oe.cls = .ref C) (hdict : oe.dict = some d) (hdata : oe.data = .fields vs)
    (h0 : vs[0]? = some a0) (h1 : vs[1]? = some .none) (h2 : vs[2]? = some c) (hne : ∀ p ∈ news, p.1 ≠ e)
    (hQ : ∀ h', Flown base g outer e C d c news h' → g.UpToSlots h' → Q () { s' with heap := h' }) (hk : scope.kind = .function) :
    wpAny M (A.deeper (envOf name scope L a cd)) (leaving (envOf name scope L a cd) (.ref e)) Q E s' := by
  have K' := K.push (name := name) (a := a) (cd := cd) F hk
  have he := (N _ (.head _)).1
  have hfr : ∀ b, b ∈ (envOf name scope L a cd :: outer).filterMap (·.frame) → b ≠ e := fun b hb q => by
    subst q
    obtain ⟨_, o, ho, hnf⟩ := K'.frames.mem hb
    rw [he] at ho
    cases ho
    exact hnf vs hdata
  have hin : ∀ env ∈ (envOf name scope L a cd :: outer), ∀ b, env.frame = some b → b ∈ e :: (envOf name scope L a cd :: outer).filterMap (·.frame) := fun env he b hb => .tail _ (List.mem_filterMap.mpr ⟨env, he, hb⟩)
  have hbe : base.get? e = none := fresh_of_stays K.stays (N _ (.head _)).2.2
  have st : base.StaysIn (hideAll s'.heap (e :: (envOf name scope L a cd :: outer).filterMap (·.frame))) := fun b o q => hideAll_get _ (K'.stays b o q) fun hm => by
    rcases List.mem_cons.mp hm with rfl | hm
    · rw [hbe] at q; cases q
    · rw [(K'.frames.mem hm).1] at q; cases q
  have sg : ∀ b o, g.get? b = some o → b ∉ outer.filterMap (·.frame) → (hideAll s'.heap (e :: (envOf name scope L a cd :: outer).filterMap (·.frame))).get? b = some o := fun b o q nm => hideAll_get _ (F.keep b o q) fun hm => by
    rcases List.mem_cons.mp hm with rfl | hm
    · rw [(N _ (.head _)).2.2] at q; cases q
    · rcases kts_mem hm with z | z
      · rw [z, kts_self F] at q
        cases q
      · exact nm z
  have hl : ∀ q ∈ news, (hideAll s'.heap (e :: (envOf name scope L a cd :: outer).filterMap (·.frame))).get? q.1 = some q.2 ∧ g.get? q.1 = none ∧ base.get? q.1 = none := fun q hq => by
    have Nq := N q (.tail _ hq)
    refine ⟨hideAll_get _ Nq.1 fun hm => ?_, Nq.2.2, fresh_of_stays K.stays Nq.2.2⟩
    rcases List.mem_cons.mp hm with z | hm
    · exact hne q hq z
    obtain ⟨env, he, hf⟩ := List.mem_filterMap.mp hm
    rcases List.mem_cons.mp he with rfl | he
    · exact Nq.2.1 (Option.some.inj hf).symm
    · obtain ⟨o, ho, _⟩ := (K.frames.mem (List.mem_filterMap.mpr ⟨env, he, hf⟩)).2
      rw [Nq.2.2] at ho; cases ho
  have hen : (hideAll s'.heap (e :: (envOf name scope L a cd :: outer).filterMap (·.frame))).get? e = none := hideAll_none _ (.head _)
  have T0 : Tied e d c s'.heap := ⟨oe, vs, he, hdict, hdata, h2⟩
  have step := wpAny_leaving_firstW (M := M) (A := A.deeper (envOf name scope L a cd)) (E := E) (s := s') (a0 := a0) (Q := fun _ s'' => ∃ h', s'' = { s' with heap := h' } ∧ Heap.LeftW (hideAll s'.heap (e :: (envOf name scope L a cd :: outer).filterMap (·.frame))) (envOf name scope L a cd :: outer) e oe.cls a0 s'.heap h')
    K'.stack (funFrames_hide K'.frames hin) rfl he (fun b o hb => of_hideAll _ hb) hen hdata h1 h0 (fun h' hL => ⟨h', rfl, hL⟩)
  refine wpAny_mono ((gentle_leaving _ _).any step) (fun u s'' z => ?_) fun _ _ z => z.1
  obtain ⟨⟨h', rfl, hL⟩, gk⟩ := z
  obtain ⟨k1, ⟨_, _, k2⟩, k3, k4⟩ := hL
  exact hQ h' ⟨⟨_, a0, st, sg, hl, k1, hen, k2, hcls ▸ k3⟩, T0.soft gk⟩ ((Heap.UpToSlots.of_keeps F.keep).trans k4)
end

section
variable {prog : Program} {w : World} {A₀ : Around} {E : Value → Shared → Prop} {s' : Shared} {base g g₀ G : Heap} {outer : List Env} {L a e C d : Addr} {c : Value} {m : Str → Option Value} {name : Str} {scope : Scope} {cd : Value}
  {n : Str} {b₀ : Stmt} {suite : List Stmt} {pos np : Pos} {rest hs : List ExceptHandler} {Q : Flow → Shared → Prop} {news : List (Addr × Obj)} {KF : Frag}
  {p : Program} {loose : List Str} {mean : ExcName → Option Value} {mg mb : Str → Option Value} {x : Str} {tt : PySem.Expr}

theorem look_X (R : Flown base G (envOf name scope L a cd :: outer) e C d c news s'.heap) (K : Below A₀ base outer g) (hsm : G.UpToSlots s'.heap)
    (k : ∀ h', Flown base G (envOf name scope L a cd :: outer) e C d c news h' → G.UpToSlots h' → wpAny (model prog w) (A₀.deeper (envOf name scope L a cd)) (handleBy (.ref e) (envOf name scope L a cd) hs) Q E { s' with heap := h' }) :
    wpAny (model prog w) (A₀.deeper (envOf name scope L a cd)) (noteFrame (.ref e) (envOf name scope L a cd))
      (fun _ s₂ => wpAny (model prog w) (A₀.deeper (envOf name scope L a cd)) (setFlight (.ref e) none) (fun _ s₃ =>
        wpAny (model prog w) (A₀.deeper (envOf name scope L a cd)) (handleBy (.ref e) (envOf name scope L a cd) hs) Q E s₃) E s₂) E s' := by
  obtain ⟨⟨B, a0, hB, hBG, hl, hfl⟩, T0⟩ := R
  have step1 := wpAny_looks_onW (M := model prog w) (A := A₀.deeper (envOf name scope L a cd)) (E := E) (s := s') (Q := fun _ s'' => ∃ h', s'' = { s' with heap := h' } ∧ Heap.HeldW B (envOf name scope L a cd :: outer) e (.ref C) a0 L h' ∧ s'.heap.UpToSlots h')
    (Around.frames_deeper K.stack) rfl hfl (fun h' x y => ⟨h', rfl, x, y⟩)
  refine wpAny_mono ((gentle_noteFrame _ _).any step1) (fun u s'' z => ?_) fun _ _ z => z.1
  obtain ⟨⟨h₄, rfl, hheld₄, hsm₄⟩, gk₄⟩ := z
  have step2 := wpAny_landsW (M := model prog w) (A := A₀.deeper (envOf name scope L a cd)) (E := E) (s := { s' with heap := h₄ }) (Q := fun _ s'' => ∃ h', s'' = { s' with heap := h' } ∧ Heap.FlyingW B (envOf name scope L a cd :: outer) e (.ref C) a0 h' ∧ h₄.UpToSlots h')
    hheld₄ (fun h' x y => ⟨h', rfl, x, y⟩)
  refine wpAny_mono ((gentle_setFlight _ _).any step2) (fun u s'' z => ?_) fun _ _ z => z.1
  obtain ⟨⟨h₅, rfl, hheld, hsm₅⟩, gk₅⟩ := z
  exact k h₅ ⟨⟨B, a0, hB, hBG, hl, hheld⟩, Tied.soft (Tied.soft T0 gk₄) gk₅⟩ (hsm.trans (hsm₄.trans hsm₅))

/-- what stands behind the test of a clause that takes it -/
theorem hit_core (R : Flown base G (envOf name scope L a cd :: outer) e C d c news s'.heap) (F : Fr g L G m) (K : Below A₀ base outer g) (hsm : G.UpToSlots s'.heap) (XB : KF.In base) (TB : Top p loose mean mg mb base)
    (D : KtsDicts (outer.filterMap (·.frame)) g) (T0 : KtsTurn (outer.filterMap (·.frame)) g₀ g) :
    ∃ g' oe vs, KtsTurn (outer.filterMap (·.frame)) g₀ g' ∧ Fr g' L s'.heap m ∧ News g' L s'.heap ((e, oe) :: news) ∧ oe.cls = .ref C ∧ oe.dict = some d ∧ oe.data = .fields vs ∧ vs[2]? = some c ∧
      Below A₀ base outer g' ∧ KF.In g' ∧ Top p loose mean mg mb g' ∧ KtsDicts (outer.filterMap (·.frame)) g' := by
  obtain ⟨⟨B, a0, hB, hBG, hl, hfl⟩, oe, vs, hoe, hod, hoed, hv⟩ := R
  have hL : B.get? L = none := by
    obtain ⟨_, ⟨L', _, hf, hn', _⟩, _⟩ := hfl.2.2.1
    obtain rfl : L = L' := Option.some.inj hf
    exact hn'
  obtain ⟨g₆, T₆, F₆, K₆⟩ := kts_ground K F hBG hfl.1 hsm
  have hcls : oe.cls = .ref C := by
    obtain ⟨ob, hob, hc⟩ := hfl.there
    rw [hoe] at hob; cases hob; exact hc
  have ne₆ : g₆.get? e = none := T₆.none_ _ (kts_fresh F hBG hfl.2.1 fun o ho m => by
    obtain ⟨_, o', ho', hd⟩ := K.frames.mem m
    rw [ho] at ho'
    cases ho'
    obtain ⟨sl, hs⟩ := hsm _ _ (F.keep _ _ ho) hd
    rw [hoe] at hs
    cases hs
    exact hd _ hoed)
  have N₆ := News.more F₆ News.nil hoe (fun es n q => by rw [hoed] at q; cases q) ne₆
  refine ⟨g₆, oe, vs, T0.trans T₆, F₆, fun q hq => ?_, hcls, hod, hoed, hv, K₆, XB.keeps K₆.stays, TB.keeps K₆.stays, D.turn T₆⟩
  rcases List.mem_cons.mp hq with rfl | hq
  · exact N₆ _ (.head _)
  · exact ⟨hfl.1 _ _ (hl q hq).1, (fun z => by have := (hl q hq).1; rw [z, hL] at this; cases this), T₆.none_ _ (kts_none F.keep (hl q hq).2.1)⟩

theorem Flown.keeps {l : List Env} {h h' : Heap} (R : Flown base G l e C d c news h) (k : ∀ b o, h.get? b = some o → h'.get? b = some o) : Flown base G l e C d c news h' :=
  ⟨R.1.keeps k, Tied.soft R.2 (GK.of_keeps k)⟩

/-- a clause without a name -/
theorem hit_X0 (R : Flown base G (envOf name scope L a cd :: outer) e C d c news s'.heap) (F : Fr g L G m) (K : Below A₀ base outer g) (hsm : G.UpToSlots s'.heap) (XB : KF.In base) (TB : Top p loose mean mg mb base)
    (D : KtsDicts (outer.filterMap (·.frame)) g) (T0 : KtsTurn (outer.filterMap (·.frame)) g₀ g) (T : KtsTest prog w KF p loose mg mb name scope L a cd (.ref C) tt true)
    (k : ∀ h' g' oe vs, KtsTurn (outer.filterMap (·.frame)) g₀ g' → Fr g' L h' m → News g' L h' ((e, oe) :: news) → oe.cls = .ref C → oe.dict = some d → oe.data = .fields vs → vs[2]? = some c → Below A₀ base outer g' → KF.In g' → Top p loose mean mg mb g' → KtsDicts (outer.filterMap (·.frame)) g' →
      wpAny (model prog w) ((A₀.deeper (envOf name scope L a cd)).mark (some (.ref e))) (execs (b₀ :: suite) (envOf name scope L a cd)) Q E { s' with heap := h' })
    (hE : PassesOwnAt (model prog w) ((A₀.deeper (envOf name scope L a cd)).mark (some (.ref e))) (A₀.deeper (envOf name scope L a cd)) (envOf name scope L a cd) E) :
    wpAny (model prog w) (A₀.deeper (envOf name scope L a cd)) (handleBy (.ref e) (envOf name scope L a cd) (.ExceptHandler (some tt) none (b₀ :: suite) pos :: rest)) Q E s' := by
  have R' := R.1
  obtain ⟨B₁, a1, _, hBG₁, _, hfl₁⟩ := R'
  obtain ⟨g₅, T₅, F₅, K₅⟩ := kts_ground K F hBG₁ hfl₁.1 hsm
  refine wpAny_handleBy_cons (codeAny_handlers_test (T _ _ _ _ g₅ e m F₅ (XB.keeps K₅.stays) (topRead_of (TB.keeps K₅.stays)) R.1.ty fun h₅ kp => ?_)) (by intro q; cases q)
  have hsm₅ : G.UpToSlots h₅ := hsm.trans (Heap.UpToSlots.of_keeps kp)
  obtain ⟨⟨B, a0, hB, hBG, hl, hheld⟩, T5⟩ := R.keeps kp
  refine codeAny_handlers_suite ?_
  have step := lands_againW (M := model prog w) (A := (A₀.deeper (envOf name scope L a cd)).mark (some (.ref e))) (s := { s' with heap := h₅ })
    (E := notedBy (model prog w) ((A₀.deeper (envOf name scope L a cd)).mark (some (.ref e))) (envOf name scope L a cd) (cameBackBy (model prog w) (A₀.deeper (envOf name scope L a cd)) (envOf name scope L a cd) E))
    (Q := fun _ s'' => ∃ h', s'' = { s' with heap := h' } ∧ Heap.FlyingW B (envOf name scope L a cd :: outer) e (.ref C) a0 h' ∧ h₅.UpToSlots h') hheld (fun h' x y => ⟨h', rfl, x, y⟩)
  refine wpAny_mono ((gentle_setFlight _ _).any step) (fun u s'' z => ?_) fun _ _ z => z.1
  obtain ⟨⟨h₆, rfl, hfl₆, hsm₆⟩, gk⟩ := z
  obtain ⟨g₆, oe, vs, q1, q2, q3, q4, q5, q6, q7, q8, q9, q10, q11⟩ := hit_core (s' := { s' with heap := h₆ }) ⟨⟨B, a0, hB, hBG, hl, hfl₆⟩, Tied.soft T5 gk⟩ F K (hsm₅.trans hsm₆) XB TB D T0
  exact wpAny_passesOwnAt hE (k h₆ g₆ oe vs q1 q2 q3 q4 q5 q6 q7 q8 q9 q10 q11)

/-- a clause with a name -/
theorem hit_XB (R : Flown base G (envOf name scope L a cd :: outer) e C d c news s'.heap) (F : Fr g L G m) (K : Below A₀ base outer g) (hsm : G.UpToSlots s'.heap) (XB : KF.In base) (TB : Top p loose mean mg mb base)
    (D : KtsDicts (outer.filterMap (·.frame)) g) (T0 : KtsTurn (outer.filterMap (·.frame)) g₀ g) (T : KtsTest prog w KF p loose mg mb name scope L a cd (.ref C) tt true)
    (k : ∀ h' g' oe vs tk, KtsTurn (outer.filterMap (·.frame)) g₀ g' → Fr g' L h' (fun y => if y = n then some (.ref e) else m y) → News g' L h' ((e, oe) :: news) → oe.cls = .ref C → oe.dict = some d → oe.data = .fields vs → vs[2]? = some c → Below A₀ base outer g' → KF.In g' → Top p loose mean mg mb g' → KtsDicts (outer.filterMap (·.frame)) g' →
      wpAny (model prog w) ((A₀.deeper (envOf name scope L a cd)).mark (some (.ref e))) (execs (b₀ :: suite) (envOf name scope L a cd))
        (fun f s₄ => wpAny (model prog w) (A₀.deeper (envOf name scope L a cd)) (do bindName (envOf name scope L a cd) n .none; unbindBehindTheSuite (envOf name scope L a cd) n pos) (fun _ s₅ => Q f s₅) E s₄)
        (AsSuiteRaised (model prog w) ((A₀.deeper (envOf name scope L a cd)).mark (some (.ref e))) (envOf name scope L a cd) n pos (notedBy (model prog w) ((A₀.deeper (envOf name scope L a cd)).mark (some (.ref e))) (envOf name scope L a cd) (cameBackBy (model prog w) (A₀.deeper (envOf name scope L a cd)) (envOf name scope L a cd) E)))
        { s' with heap := h', toks := tk })
    (hk : scope.kind = .function) (hlo : (envOf name scope L a cd).kindOf n = some .local) :
    wpAny (model prog w) (A₀.deeper (envOf name scope L a cd)) (handleBy (.ref e) (envOf name scope L a cd) (.ExceptHandler (some tt) (some n) (b₀ :: suite) pos :: rest)) Q E s' := by
  have R' := R.1
  obtain ⟨B₁, a1, _, hBG₁, _, hfl₁⟩ := R'
  obtain ⟨g₅, T₅, F₅, K₅⟩ := kts_ground K F hBG₁ hfl₁.1 hsm
  refine wpAny_handleBy_cons (codeAny_handlers_test (T _ _ _ _ g₅ e m F₅ (XB.keeps K₅.stays) (topRead_of (TB.keeps K₅.stays)) R.1.ty fun h₅ kp => ?_)) (by intro q; cases q)
  have hsm₅ : G.UpToSlots h₅ := hsm.trans (Heap.UpToSlots.of_keeps kp)
  obtain ⟨⟨B, a0, hB, hBG, hl, hheld⟩, T5⟩ := R.keeps kp
  refine codeAny_handlers_suite_as ?_
  have step := lands_againW (M := model prog w) (A := (A₀.deeper (envOf name scope L a cd)).mark (some (.ref e))) (s := { s' with heap := h₅ })
    (E := notedBy (model prog w) ((A₀.deeper (envOf name scope L a cd)).mark (some (.ref e))) (envOf name scope L a cd) (cameBackBy (model prog w) (A₀.deeper (envOf name scope L a cd)) (envOf name scope L a cd) E))
    (Q := fun _ s'' => ∃ h', s'' = { s' with heap := h' } ∧ Heap.FlyingW B (envOf name scope L a cd :: outer) e (.ref C) a0 h' ∧ h₅.UpToSlots h') hheld (fun h' x y => ⟨h', rfl, x, y⟩)
  refine wpAny_mono ((gentle_setFlight _ _).any step) (fun u s'' z => ?_) fun _ _ z => z.1
  obtain ⟨⟨h₆, rfl, hfl₆, hsm₆⟩, gk⟩ := z
  obtain ⟨g₆, oe, vs, q1, q2, q3, q4, q5, q6, q7, q8, q9, q10, q11⟩ := hit_core (s' := { s' with heap := h₆ }) ⟨⟨B, a0, hB, hBG, hl, hfl₆⟩, Tied.soft T5 gk⟩ F K (hsm₅.trans hsm₆) XB TB D T0
  refine stN q2 q3 (fun h₇ F₇ N₇ => ?_) hk hlo
  exact k h₇ g₆ oe vs _ q1 F₇ N₇ q4 q5 q6 q7 q8 q9 q10 q11
end
end Mine

namespace Mine
theorem off8 : True := by w_top off; trivial
open PySem.Calls

theorem exc45 (P : Params) : excMk (hd.heap_39 P) 45 = true := by kernel_rfl
theorem exc57 (P : Params) : excMk (hd.heap_39 P) 57 = true := by kernel_rfl
theorem exc69 (P : Params) : excMk (hd.heap_39 P) 69 = true := by kernel_rfl

noncomputable abbrev VW : Program := hd.view_39
noncomputable abbrev LS : List Str := looseW hd.view_39 [Str.ofString "GitError", Str.ofString "NUMBER_KINDS"]

local macro_rules | `(tactic| walk_at "setAttr ref") => `(tactic| (k_here; k_dflt (refine' exc_set ?k1 ?k2 ?k3 ?k4 ?k5 ?k6 ?k7 ?_; (case k1 => k_asm); (case k2 => k_asm); (case k3 => k_asm); (case k4 => assumption); (case k5 => assumption); (case k6 => assumption); (case k7 => assumption); k_whole); intro d9 h9 tk9 F9 N9 l9; (try k_sweep)))

set_option maxHeartbeats 8000000 in
theorem exc_made {w : World} {A A₀ : Around} {env : Env} {outer : List Env} {E Q : Value → Shared → Prop} {s : Shared} {base h₀ : Heap} {L C : Addr} {m mg mb : Str → Option Value} {mean : ExcName → Option Value} {news : List (Addr × Obj)} {x : Str} {tk₀ : Tok}
    (B : Below A₀ base outer h₀) (F : Fr h₀ L s.heap m) (X : (hd.heap_39 w.params).In h₀) (N : News h₀ L s.heap news) (T : Top VW LS mean mg mb h₀) (hA : A.frames = some (env :: outer)) (hf : env.frame = some L) (hke : env.scope.kind = .function) (hroom : A.depth + 3 < recursionLimit)
    (hm : excMk (hd.heap_39 w.params) C = true) (hi : findIn (hd.heap_39 w.params) (.ref C) "__init__" = some (some (.ref 29))) (hsa : findIn (hd.heap_39 w.params) (.ref C) "__setattr__" = some (some (.builtin "object.__setattr__"))) (htk : takerIn (hd.heap_39 w.params) C "told" = some none)
    (h : ∀ e t d k1 tk h', Fr h₀ L h' m → News h₀ L h' ((e, excO C t (some d)) :: (d, dictOf [⟨PyData.keyHash w.params "told", .str "told" k1, .str x tk₀⟩] 1) :: (t, tupO [.str x tk₀]) :: news) → (∀ p ∈ news, p.1 < t) → t < e → e < d → Q (.ref e) { s with heap := h', toks := tk }) :
    wpAny (model PySem.Challenge.rw_pb0100_01.row.prog w) A (call (.ref C) [.str x tk₀]) Q E s := by
  revert X
  k_fill
  intro X
  refine wpAny_call (exc_K F N X hm hi (by k_is) (by simp [sizeLine_eq]) fun e t h1 F1 N1 l1 l2 => ?_)
  refine' code_def B F1 X N1 T ?hA hf hke ?k6 ?k7 ?k8 ?k9 ?kB ?_ ?c2 ?c3 ?c4 ?c5
  case hA => exact hA
  case k6 => k_is
  case k7 => k_is
  case k8 => rw [depth_under_make]; omega
  case k9 => first | exact BindsTo.of_eq rfl | exact binds_K (by k_in) rfl (by k_is) rfl rfl rfl
  case kB => exact locs rfl
  case c2 => exact rfl
  case c3 => exact rfl
  case c4 => exact rfl
  case c5 => decide
  intro g' L' h' FG' F' N' B' X' T'
  have hne : ∀ p ∈ ((t, tupO [.str x tk₀]) :: news), p.1 ≠ e := fun p hp => by
    rcases List.mem_cons.mp hp with rfl | hp
    · exact Nat.ne_of_lt l2
    · exact Nat.ne_of_lt (Nat.lt_trans (l1 p hp) l2)
  try dsimp only
  try k_fold
  k_steps
  rename_i l9 _ _ _ _
  exact h _ _ _ _ _ _ (by assumption) (by assumption) l1 l2 (l9 _ (.head _))
end Mine

namespace Mine
theorem off9 : True := by w_top off; trivial
open PySem.Calls
open Builtin Builtin.ObjectAttr in
/-- an own exception's own attribute is read -/
theorem exc_get {prog : Program} {w : World} {A : Around} {E : Value → Shared → Prop} {s : Shared} {K : Frag} {e C : Addr} {ox : Obj} {od : Obj} {name : Str} {expr : Bool} {Q : Value → Shared → Prop} {v : Value}
    (X : K.In s.heap) (hm : excMk K C = true) (I : PySem.W.InstAt s.heap e ox C (some od)) (hga : findIn K (.ref C) "__getattribute__" = some (some (.builtin "BaseException.__getattribute__"))) (hgh : findIn K (.ref C) "__getattr__" = some none)
    (hf : findObj K C (some od) name = some (.value v)) (hh : handedIn v = true) (h : Q v { s with toks := s.toks + 1 }) : wpAny (model prog w) A (getAttr (.ref e) name expr) Q E s := by
  obtain ⟨bm, Y⟩ := isExc_of hm
  obtain ⟨nm, q, Nn, bs, sn, sub, ab, col, dd, k0, k1, k2, k3, k5, hK⟩ := Y.obj
  obtain ⟨hp, g, d, t, os⟩ := s
  have L0 := I.type (M := model prog w)
  have L1 := looks_findIn (M := model prog w) X hga
  have L2 := looks_findIn (M := model prog w) X hgh
  have L3 := looks_find (M := model prog w) X I hf
  have hne : (Value.builtin "BaseException.__getattribute__" == Value.builtin "object.__getattribute__") = false := by decide +kernel
  unfold getAttr getAttrBy
  refine wpAny_bind (wpAny_mkText (wpAny_holding (wpAny_bind (L0.at (wpAny_bind (L1.at ?_))))))
  dsimp only
  rw [hne, Bool.and_false, if_neg (by decide)]
  unfold getAttrByItsOwn hookBefore
  rw [if_pos (show onTheHeap (Value.ref C) = true from rfl)]
  refine wpAny_bind (L2.at (wpAny_bind (wpAny_attempt (wpAny_holding ?_))))
  unfold callGetattribute
  rw [show (expr && onTheHeap (Value.builtin "BaseException.__getattribute__")) = false from by cases expr <;> rfl, if_neg (by decide)]
  unfold boundAndCalled
  have FB := PySem.F.attr_Exception
  rw [FB.ga.bind]
  refine wpAny_bind (wpAny_pure (wpAny_call ?_))
  obtain ⟨cd, hc, hcm⟩ : ∃ cd, clsIn K C = some cd ∧ cd.mro = .ref C :: bm := ⟨_, by unfold clsIn; rw [hK], rfl⟩
  have sub1 : Looks (model prog w) hp (isInstance (.ref e) (.type "BaseException")) true := L0.andThen (looks_mroIn X (by
    unfold mroIn; rw [hc, Option.bind_some, hcm]
    simp only [List.isEmpty_cons, Bool.false_eq_true, if_false, List.contains_cons, Y.e2, Bool.or_true]))
  refine codeAny_call_builtin FB.ga.plain PySem.F.entry_bexc_ga (@check_slot (model prog w) _ _ ⟨hp, g, d, t + 1, os⟩ "BaseException.__getattribute__" "BaseException" "__getattribute__" (.ref e) [.str name t] [] _ (by decide +kernel) (by decide +kernel) sub1 (PySem.F.args_bexc_ga (.ref e) (.str name t)) ?_)
  refine wpAny_bind (wpAny_pure (wpAny_bind (wpAny_pure (wpAny_bind (L0.at (wpAny_bind (L3.at ?_)))))))
  refine wpAny_pure ?_
  show wpAny _ _ (handedOut v) _ _ _
  rw [handedOut_of hh]
  exact wpAny_pure h
end Mine

namespace Mine
theorem off10 : True := by w_top off; trivial
/-! ## bits -/
theorem or_shl {x b k : Nat} (hb : b < 2 ^ k) : Builtin.bitOr ((x : Int) * 2 ^ k) (b : Int) = ((x * 2 ^ k + b : Nat) : Int) := by
  rw [bitOr_and]
  have e : ((x : Int) * 2 ^ k) = ((x * 2 ^ k : Nat) : Int) := by push_cast; rfl
  rw [e, bitAnd_pp (Int.natCast_nonneg _) (Int.natCast_nonneg _), Int.toNat_natCast, Int.toNat_natCast]
  have h1 := nat_or_add_and (x * 2 ^ k) b
  have h2 := Nat.two_pow_add_eq_or_of_lt hb x
  rw [Nat.mul_comm] at h2
  omega
theorem or_low {x b k : Nat} (hb : b < 2 ^ k) : Builtin.bitOr (b : Int) ((x : Int) * 2 ^ k) = ((b + x * 2 ^ k : Nat) : Int) := by
  rw [bitOr_comm, or_shl hb, Nat.add_comm]
theorem and127 (o : Nat) : Builtin.bitAnd (o : Int) 127 = ((o % 128 : Nat) : Int) := by
  rw [bitAnd_m7]; omega
theorem bits_of {a : Nat} {k n : Nat} (h : a < 2 ^ k) (hk : k + n ≤ 134217728) : (Builtin.Int.intBits (a : Int) : Int) + (n : Int) ≤ 2 ^ 27 := by
  have := intBits_le (a := (a : Int)) (k := k) (by simpa using h)
  have e : (2 : Int) ^ 27 = 134217728 := by decide
  omega

/-! ## an offset: the code's own reading -/
def offP : List UInt8 → Nat → Nat → Option (Nat × Nat)
  | [], _, _ => none
  | o :: r, a, k => if o.toNat < 128 then some (a * 128 + o.toNat % 128, k + 1) else offP r (a * 128 + o.toNat % 128 + 1) (k + 1)
theorem drop_get {l : List UInt8} {k : Nat} (h : k < l.length) : l.drop k = l.getD k 0 :: l.drop (k + 1) := by
  rw [List.drop_eq_getElem_cons h, List.getD_eq_getElem?_getD, List.getElem?_eq_getElem h]; rfl
def OffInv (l : List UInt8) (at0 : Nat) (number at_ : Int) : Prop :=
  ∃ k a : Nat, at_ = (k : Int) ∧ number = (a : Int) - 1 ∧ k ≤ l.length ∧ a + 2 ≤ 2 ^ (8 * k + 2) ∧ offP (l.drop k) a k = offP (l.drop at0) 0 at0
theorem off_start {l : List UInt8} {at0 : Nat} (h : at0 ≤ l.length) : OffInv l at0 (-1) (at0 : Int) := by
  refine ⟨at0, 0, rfl, rfl, h, ?_, rfl⟩
  have := Nat.one_le_two_pow (n := 8 * at0)
  rw [Nat.pow_add]; omega
theorem off_bits {l : List UInt8} {at0 : Nat} {number at_ : Int} (I : OffInv l at0 number at_) (hl : l.length < 4096) : (Builtin.Int.intBits (number + 1) : Int) + 7 ≤ 2 ^ 27 := by
  obtain ⟨k, a, rfl, rfl, h1, h2, h3⟩ := I
  have e : ((a : Int) - 1 + 1) = (a : Int) := by omega
  rw [e]
  exact bits_of (n := 7) (k := 8 * k + 2) (by omega) (by omega)
/-- what a turn makes -/
theorem off_num {l : List UInt8} {at0 : Nat} {number at_ : Int} (I : OffInv l at0 number at_) (hlt : ¬ ((l.toArray.size : Int) ≤ at_)) :
    ∃ k a : Nat, at_ = (k : Int) ∧ k < l.length ∧ a + 2 ≤ 2 ^ (8 * k + 2) ∧ offP (l.drop k) a k = offP (l.drop at0) 0 at0 ∧
      Builtin.bitOr ((number + 1) * 2 ^ Int.toNat 7) (Builtin.bitAnd ((l.getD at_.toNat 0).toNat : Int) 127) = ((a * 128 + (l.getD k 0).toNat % 128 : Nat) : Int) ∧
      offP (l.drop k) a k = (if (l.getD k 0).toNat < 128 then some (a * 128 + (l.getD k 0).toNat % 128, k + 1) else offP (l.drop (k + 1)) (a * 128 + (l.getD k 0).toNat % 128 + 1) (k + 1)) := by
  obtain ⟨k, a, rfl, rfl, h1, h2, h3⟩ := I
  rw [List.size_toArray] at hlt
  have hk : k < l.length := by omega
  refine ⟨k, a, rfl, hk, h2, h3, ?_, ?_⟩
  · have e : ((a : Int) - 1 + 1) = (a : Int) := by omega
    rw [e, Int.toNat_natCast, and127]
    have := or_shl (x := a) (b := (l.getD k 0).toNat % 128) (k := 7) (Nat.mod_lt _ (by decide))
    simpa using this
  · conv => lhs; rw [drop_get hk]
    rfl
theorem off_turn {l : List UInt8} {at0 : Nat} {number at_ : Int} (I : OffInv l at0 number at_) (hlt : ¬ ((l.toArray.size : Int) ≤ at_)) (hge : ¬ (((l.getD at_.toNat 0).toNat : Int) < 128)) :
    OffInv l at0 (Builtin.bitOr ((number + 1) * 2 ^ Int.toNat 7) (Builtin.bitAnd ((l.getD at_.toNat 0).toNat : Int) 127)) (at_ + 1) := by
  obtain ⟨k, a, rfl, hk, h2, h3, h4, h5⟩ := off_num I hlt
  rw [Int.toNat_natCast] at hge
  rw [if_neg (by omega)] at h5
  refine ⟨k + 1, a * 128 + (l.getD k 0).toNat % 128 + 1, by push_cast; rfl, by rw [h4]; push_cast; omega, hk, ?_, ?_⟩
  · have e : 2 ^ (8 * (k + 1) + 2) = 256 * 2 ^ (8 * k + 2) := by rw [show 8 * (k + 1) + 2 = (8 * k + 2) + 8 by omega, Nat.pow_add, Nat.mul_comm]
    have := Nat.mod_lt (l.getD k 0).toNat (show 0 < 128 by decide)
    omega
  · rw [← h5, h3]
theorem off_end {l : List UInt8} {at0 : Nat} {number at_ : Int} (I : OffInv l at0 number at_) (hlt : ¬ ((l.toArray.size : Int) ≤ at_)) (h : ((l.getD at_.toNat 0).toNat : Int) < 128) :
    ∃ n k : Nat, offP (l.drop at0) 0 at0 = some (n, k) ∧ at_ + 1 = (k : Int) ∧ Builtin.bitOr ((number + 1) * 2 ^ Int.toNat 7) (Builtin.bitAnd ((l.getD at_.toNat 0).toNat : Int) 127) = (n : Int) := by
  obtain ⟨k, a, rfl, hk, h2, h3, h4, h5⟩ := off_num I hlt
  rw [Int.toNat_natCast] at h
  rw [if_pos (by omega)] at h5
  exact ⟨_, k + 1, h3 ▸ h5, by push_cast; rfl, h4⟩
theorem off_none {l : List UInt8} {at0 : Nat} {number at_ : Int} (I : OffInv l at0 number at_) (hge : (l.toArray.size : Int) ≤ at_) : offP (l.drop at0) 0 at0 = none := by
  obtain ⟨k, a, rfl, rfl, h1, h2, h3⟩ := I
  rw [List.size_toArray] at hge
  rw [← h3, List.drop_eq_nil_of_le (by omega)]; rfl

/-! ## a size -/
def sizeP : List UInt8 → Nat → Nat → Nat → Option (Nat × Nat)
  | [], _, _, _ => none
  | o :: r, n, sh, k => if o.toNat < 128 then some (n + o.toNat % 128 * 2 ^ sh, k + 1) else sizeP r (n + o.toNat % 128 * 2 ^ sh) (sh + 7) (k + 1)
def SizeInv (l : List UInt8) (at0 : Nat) (number shift at_ : Int) : Prop :=
  ∃ k n sh : Nat, at_ = (k : Int) ∧ number = (n : Int) ∧ shift = (sh : Int) ∧ k ≤ l.length ∧ sh ≤ 7 * k ∧ n < 2 ^ sh ∧ sizeP (l.drop k) n sh k = sizeP (l.drop at0) 0 0 at0
theorem size_start {l : List UInt8} {at0 : Nat} (h : at0 ≤ l.length) : SizeInv l at0 0 0 (at0 : Int) := ⟨at0, 0, 0, rfl, rfl, rfl, h, Nat.zero_le _, by decide, rfl⟩
theorem size_bits {l : List UInt8} {at0 : Nat} {number shift at_ : Int} (I : SizeInv l at0 number shift at_) (hl : l.length < 4096) (o : UInt8) : (Builtin.Int.intBits (Builtin.bitAnd (o.toNat : Int) 127) : Int) + shift ≤ 2 ^ 27 := by
  obtain ⟨k, n, sh, rfl, rfl, rfl, h1, h2, h3, h4⟩ := I
  rw [and127]
  exact bits_of (n := sh) (k := 7) (Nat.mod_lt _ (by decide)) (by omega)
theorem shift_nonneg {l : List UInt8} {at0 : Nat} {number shift at_ : Int} (I : SizeInv l at0 number shift at_) : 0 ≤ shift := by
  obtain ⟨k, n, sh, rfl, rfl, rfl, h1, h2, h3, h4⟩ := I
  omega
theorem size_num {l : List UInt8} {at0 : Nat} {number shift at_ : Int} (I : SizeInv l at0 number shift at_) (hlt : ¬ ((l.toArray.size : Int) ≤ at_)) :
    ∃ k n sh : Nat, at_ = (k : Int) ∧ shift = (sh : Int) ∧ k < l.length ∧ sh ≤ 7 * k ∧ n < 2 ^ sh ∧ sizeP (l.drop k) n sh k = sizeP (l.drop at0) 0 0 at0 ∧
      Builtin.bitOr number (Builtin.bitAnd ((l.getD at_.toNat 0).toNat : Int) 127 * 2 ^ shift.toNat) = ((n + (l.getD k 0).toNat % 128 * 2 ^ sh : Nat) : Int) ∧
      sizeP (l.drop k) n sh k = (if (l.getD k 0).toNat < 128 then some (n + (l.getD k 0).toNat % 128 * 2 ^ sh, k + 1) else sizeP (l.drop (k + 1)) (n + (l.getD k 0).toNat % 128 * 2 ^ sh) (sh + 7) (k + 1)) := by
  obtain ⟨k, n, sh, rfl, rfl, rfl, h1, h2, h3, h4⟩ := I
  rw [List.size_toArray] at hlt
  have hk : k < l.length := by omega
  refine ⟨k, n, sh, rfl, rfl, hk, h2, h3, h4, ?_, ?_⟩
  · rw [Int.toNat_natCast, Int.toNat_natCast, and127]
    exact or_low h3
  · conv => lhs; rw [drop_get hk]
    rfl
theorem size_turn {l : List UInt8} {at0 : Nat} {number shift at_ : Int} (I : SizeInv l at0 number shift at_) (hlt : ¬ ((l.toArray.size : Int) ≤ at_)) (hge : ¬ (((l.getD at_.toNat 0).toNat : Int) < 128)) :
    SizeInv l at0 (Builtin.bitOr number (Builtin.bitAnd ((l.getD at_.toNat 0).toNat : Int) 127 * 2 ^ shift.toNat)) (shift + 7) (at_ + 1) := by
  obtain ⟨k, n, sh, rfl, rfl, hk, h2, h3, h4, h5, h6⟩ := size_num I hlt
  rw [Int.toNat_natCast] at hge
  rw [if_neg (by omega)] at h6
  refine ⟨k + 1, _, sh + 7, by push_cast; rfl, h5, by push_cast; rfl, hk, by omega, ?_, ?_⟩
  · have hm := Nat.mod_lt (l.getD k 0).toNat (show 0 < 128 by decide)
    rw [Nat.pow_add, Nat.mul_comm (2 ^ sh)]
    have := Nat.mul_le_mul_right (2 ^ sh) (show (l.getD k 0).toNat % 128 + 1 ≤ 128 by omega)
    rw [Nat.add_mul, Nat.one_mul] at this
    have e : (2 : Nat) ^ 7 = 128 := by decide
    omega
  · rw [← h6, h4]
theorem size_end {l : List UInt8} {at0 : Nat} {number shift at_ : Int} (I : SizeInv l at0 number shift at_) (hlt : ¬ ((l.toArray.size : Int) ≤ at_)) (h : ((l.getD at_.toNat 0).toNat : Int) < 128) :
    ∃ n k : Nat, sizeP (l.drop at0) 0 0 at0 = some (n, k) ∧ at_ + 1 = (k : Int) ∧ Builtin.bitOr number (Builtin.bitAnd ((l.getD at_.toNat 0).toNat : Int) 127 * 2 ^ shift.toNat) = (n : Int) := by
  obtain ⟨k, n, sh, rfl, rfl, hk, h2, h3, h4, h5, h6⟩ := size_num I hlt
  rw [Int.toNat_natCast] at h
  rw [if_pos (by omega)] at h6
  exact ⟨_, k + 1, h4 ▸ h6, by push_cast; rfl, h5⟩
theorem size_none {l : List UInt8} {at0 : Nat} {number shift at_ : Int} (I : SizeInv l at0 number shift at_) (hge : (l.toArray.size : Int) ≤ at_) : sizeP (l.drop at0) 0 0 at0 = none := by
  obtain ⟨k, n, sh, rfl, rfl, rfl, h1, h2, h3, h4⟩ := I
  rw [List.size_toArray] at hge
  rw [← h4, List.drop_eq_nil_of_le (by omega)]; rfl

/-! ## the head of an entry -/
def hdL : List UInt8 → Nat → Nat → Nat → Nat → Option (Nat × Nat)
  | [], p, s, _, k => if p < 128 then some (s, k) else none
  | o :: r, p, s, sh, k => if p < 128 then some (s, k) else hdL r o.toNat (s + o.toNat % 128 * 2 ^ sh) (sh + 7) (k + 1)
def HeadInv (l : List UInt8) (at0 : Nat) (piece size shift at_ : Int) : Prop :=
  ∃ k p s sh : Nat, at_ = (k : Int) ∧ piece = (p : Int) ∧ size = (s : Int) ∧ shift = (sh : Int) ∧ p < 256 ∧ k ≤ l.length ∧ sh ≤ 7 * k + 4 ∧ s < 2 ^ sh ∧
    hdL (l.drop k) p s sh k = hdL (l.drop (at0 + 1)) (l.getD at0 0).toNat ((l.getD at0 0).toNat % 16) 4 (at0 + 1)
theorem and15 (o : Nat) : Builtin.bitAnd (o : Int) 15 = ((o % 16 : Nat) : Int) := by rw [bitAnd_m4]; omega
theorem head_start {l : List UInt8} {at0 : Nat} (h : at0 < l.length) : HeadInv l at0 ((l.getD at0 0).toNat : Int) (Builtin.bitAnd ((l.getD at0 0).toNat : Int) 15) 4 ((at0 : Int) + 1) :=
  ⟨at0 + 1, (l.getD at0 0).toNat, _, 4, by push_cast; rfl, rfl, and15 _, rfl, (l.getD at0 0).toNat_lt, h, by omega, Nat.mod_lt _ (by decide), rfl⟩
theorem head_nonneg {l : List UInt8} {at0 : Nat} {piece size shift at_ : Int} (I : HeadInv l at0 piece size shift at_) : 0 ≤ shift := by
  obtain ⟨k, p, s, sh, rfl, rfl, rfl, rfl, _⟩ := I
  omega
theorem head_bits {l : List UInt8} {at0 : Nat} {piece size shift at_ : Int} (I : HeadInv l at0 piece size shift at_) (hl : l.length < 4096) (o : UInt8) : (Builtin.Int.intBits (Builtin.bitAnd (o.toNat : Int) 127) : Int) + shift ≤ 2 ^ 27 := by
  obtain ⟨k, p, s, sh, rfl, rfl, rfl, rfl, h0, h1, h2, h3, h4⟩ := I
  rw [and127]
  exact bits_of (n := sh) (k := 7) (Nat.mod_lt _ (by decide)) (by omega)
theorem head_bit {p : Nat} (h : p < 256) : Builtin.bitAnd (p : Int) 128 = if p < 128 then 0 else 128 := by
  have := kbt_bit (p : Int) 7
  rw [show (2 : Int) ^ 7 = 128 from by decide] at this
  rw [this]
  split <;> omega
theorem head_num {l : List UInt8} {at0 : Nat} {piece size shift at_ : Int} (I : HeadInv l at0 piece size shift at_) (hb : Builtin.bitAnd piece 128 ≠ 0) (hlt : ¬ ((l.toArray.size : Int) ≤ at_)) :
    HeadInv l at0 ((l.getD at_.toNat 0).toNat : Int) (Builtin.bitOr size (Builtin.bitAnd ((l.getD at_.toNat 0).toNat : Int) 127 * 2 ^ shift.toNat)) (shift + 7) (at_ + 1) := by
  obtain ⟨k, p, s, sh, rfl, rfl, rfl, rfl, h0, h1, h2, h3, h4⟩ := I
  rw [head_bit h0] at hb
  have hp : ¬ p < 128 := fun q => hb (if_pos q)
  rw [List.size_toArray] at hlt
  have hk : k < l.length := by omega
  rw [Int.toNat_natCast, Int.toNat_natCast, and127]
  refine ⟨k + 1, (l.getD k 0).toNat, _, sh + 7, by push_cast; rfl, rfl, or_low h3, by push_cast; rfl, (l.getD k 0).toNat_lt, hk, by omega, ?_, ?_⟩
  · have hm := Nat.mod_lt (l.getD k 0).toNat (show 0 < 128 by decide)
    rw [Nat.pow_add, Nat.mul_comm (2 ^ sh)]
    have := Nat.mul_le_mul_right (2 ^ sh) (show (l.getD k 0).toNat % 128 + 1 ≤ 128 by omega)
    rw [Nat.add_mul, Nat.one_mul] at this
    have e : (2 : Nat) ^ 7 = 128 := by decide
    omega
  · rw [← h4]
    conv => rhs; rw [drop_get hk]
    rw [hdL, if_neg hp]
theorem head_cut {l : List UInt8} {at0 : Nat} {piece size shift at_ : Int} (I : HeadInv l at0 piece size shift at_) (hb : Builtin.bitAnd piece 128 ≠ 0) (hge : (l.toArray.size : Int) ≤ at_) :
    hdL (l.drop (at0 + 1)) (l.getD at0 0).toNat ((l.getD at0 0).toNat % 16) 4 (at0 + 1) = none := by
  obtain ⟨k, p, s, sh, rfl, rfl, rfl, rfl, h0, h1, h2, h3, h4⟩ := I
  rw [head_bit h0] at hb
  have hp : ¬ p < 128 := fun q => hb (if_pos q)
  rw [List.size_toArray] at hge
  rw [← h4, List.drop_eq_nil_of_le (by omega), hdL, if_neg hp]
theorem head_end {l : List UInt8} {at0 : Nat} {piece size shift at_ : Int} (I : HeadInv l at0 piece size shift at_) (hb : Builtin.bitAnd piece 128 = 0) :
    ∃ s k : Nat, size = (s : Int) ∧ at_ = (k : Int) ∧ hdL (l.drop (at0 + 1)) (l.getD at0 0).toNat ((l.getD at0 0).toNat % 16) 4 (at0 + 1) = some (s, k) := by
  obtain ⟨k, p, s, sh, rfl, rfl, rfl, rfl, h0, h1, h2, h3, h4⟩ := I
  rw [head_bit h0] at hb
  have hp : p < 128 := by
    by_cases q : p < 128
    · exact q
    · rw [if_neg q] at hb; cases hb
  refine ⟨s, k, rfl, rfl, ?_⟩
  rw [← h4]
  generalize l.drop k = r
  cases r <;> rw [hdL, if_pos hp]
/-- the head as the code reads it -/
def headP (l : List UInt8) (at0 : Nat) : Option (Nat × Nat × Nat) :=
  if at0 < l.length then
    match hdL (l.drop (at0 + 1)) (l.getD at0 0).toNat ((l.getD at0 0).toNat % 16) 4 (at0 + 1) with
    | some (s, k) => if (l.getD at0 0).toNat / 16 % 8 ∈ [1, 2, 3, 4, 6, 7] then some ((l.getD at0 0).toNat / 16 % 8, s, k) else none
    | none => none
  else none

def kindX (l : List UInt8) (at0 : Nat) : Int := Builtin.bitAnd (((l.getD ((at0 : Int)).toNat 0).toNat : Int).fdiv (2 ^ Int.toNat 4)) 7
theorem kindX_eq (l : List UInt8) (at0 : Nat) : kindX l at0 = (((l.getD at0 0).toNat / 16 % 8 : Nat) : Int) := by
  unfold kindX
  rw [Int.toNat_natCast, bitAnd_m3, Int.fdiv_eq_ediv_of_nonneg _ (by decide)]
  have : (2 : Int) ^ Int.toNat 4 = 16 := by decide
  rw [this]; omega
theorem headP_far {l : List UInt8} {at0 : Nat} (h : (l.toArray.size : Int) ≤ (at0 : Int)) : headP l at0 = none := by
  rw [List.size_toArray] at h
  unfold headP
  rw [if_neg (by omega)]
theorem headP_cut {l : List UInt8} {at0 : Nat} {piece size shift at_ : Int} (I : HeadInv l at0 piece size shift at_) (hb : Builtin.bitAnd piece 128 ≠ 0) (hge : (l.toArray.size : Int) ≤ at_) : headP l at0 = none := by
  unfold headP
  rw [head_cut I hb hge]
  split <;> rfl
theorem sort_yes : ∀ q : Nat, q < 8 → (1 ≤ (q : Int) ∧ (q : Int) ≤ 4) ∨ (q : Int) = 6 ∨ (q : Int) = 7 → q ∈ [1, 2, 3, 4, 6, 7] := by decide
theorem sort_no : ∀ q : Nat, q ∈ [1, 2, 3, 4, 6, 7] → (1 ≤ (q : Int) ∧ (q : Int) ≤ 4) ∨ (q : Int) = 6 ∨ (q : Int) = 7 := by decide
theorem headP_yes {l : List UInt8} {at0 : Nat} {piece size shift at_ : Int} (I : HeadInv l at0 piece size shift at_) (hb : Builtin.bitAnd piece 128 = 0) (hlt : ¬ ((l.toArray.size : Int) ≤ (at0 : Int)))
    (hk : (1 ≤ kindX l at0 ∧ kindX l at0 ≤ 4) ∨ kindX l at0 = 6 ∨ kindX l at0 = 7) :
    ∃ n s k : Nat, headP l at0 = some (n, s, k) ∧ kindX l at0 = (n : Int) ∧ size = (s : Int) ∧ at_ = (k : Int) := by
  obtain ⟨s, k, e1, e2, e3⟩ := head_end I hb
  rw [kindX_eq] at hk ⊢
  rw [List.size_toArray] at hlt
  refine ⟨_, s, k, ?_, rfl, e1, e2⟩
  unfold headP
  rw [if_pos (by omega), e3]
  dsimp only
  rw [if_pos (sort_yes ((l.getD at0 0).toNat / 16 % 8) (Nat.mod_lt _ (Nat.succ_pos 7)) hk)]
theorem headP_no {l : List UInt8} {at0 : Nat} {piece size shift at_ : Int} (I : HeadInv l at0 piece size shift at_) (hb : Builtin.bitAnd piece 128 = 0)
    (h1 : ¬ (1 ≤ kindX l at0 ∧ kindX l at0 ≤ 4)) (h2 : kindX l at0 ≠ 6) (h3 : kindX l at0 ≠ 7) : headP l at0 = none := by
  obtain ⟨s, k, e1, e2, e3⟩ := head_end I hb
  rw [kindX_eq] at h1 h2 h3
  unfold headP
  rw [e3]
  dsimp only
  split
  · rw [if_neg fun h => (sort_no _ h).elim h1 (fun q => q.elim h2 h3)]
  · rfl

/-- what the stored codec reads -/
def unP (l : List UInt8) (at0 : Nat) : Option (List UInt8 × Nat) :=
  match sizeP (l.drop at0) 0 0 at0 with
  | some (n, k) => if k + n ≤ l.length then some ((l.drop k).take n, k + n) else none
  | none => none

theorem unP_yes {l : List UInt8} {at0 n k : Nat} (h : sizeP (l.drop at0) 0 0 at0 = some (n, k)) (hf : ¬ ((l.toArray.size : Int) < (k : Int) + (n : Int))) : unP l at0 = some ((l.drop k).take n, k + n) := by
  rw [List.size_toArray] at hf
  unfold unP
  rw [h]
  dsimp only
  rw [if_pos (by omega)]
theorem unP_far {l : List UInt8} {at0 n k : Nat} (h : sizeP (l.drop at0) 0 0 at0 = some (n, k)) (hf : (l.toArray.size : Int) < (k : Int) + (n : Int)) : unP l at0 = none := by
  rw [List.size_toArray] at hf
  unfold unP
  rw [h]
  dsimp only
  rw [if_neg (by omega)]
theorem unP_none {l : List UInt8} {at0 : Nat} (h : sizeP (l.drop at0) 0 0 at0 = none) : unP l at0 = none := by
  unfold unP
  rw [h]

/-! ## bounds of what is read -/
theorem offP_le : ∀ {l : List UInt8} {a k n k' : Nat}, offP l a k = some (n, k') → k < k' ∧ k' ≤ k + l.length
  | [], _, _, _, _, h => by cases h
  | o :: r, a, k, n, k', h => by
    rw [offP] at h
    split at h
    · cases h; simp
    · have := offP_le h
      simp only [List.length_cons]; omega
theorem sizeP_le : ∀ {l : List UInt8} {n sh k n' k' : Nat}, sizeP l n sh k = some (n', k') → k < k' ∧ k' ≤ k + l.length
  | [], _, _, _, _, _, h => by cases h
  | o :: r, n, sh, k, n', k', h => by
    rw [sizeP] at h
    split at h
    · cases h; simp
    · have := sizeP_le h
      simp only [List.length_cons]; omega
theorem hdL_le : ∀ {l : List UInt8} {p s sh k s' k' : Nat}, hdL l p s sh k = some (s', k') → k ≤ k' ∧ k' ≤ k + l.length
  | [], p, s, sh, k, s', k', h => by
    rw [hdL] at h
    split at h
    · cases h; simp
    · cases h
  | o :: r, p, s, sh, k, s', k', h => by
    rw [hdL] at h
    split at h
    · cases h; simp
    · have := hdL_le h
      simp only [List.length_cons]; omega
theorem headP_le {l : List UInt8} {at0 n s k : Nat} (h : headP l at0 = some (n, s, k)) : at0 < k ∧ k ≤ l.length ∧ at0 < l.length := by
  unfold headP at h
  split at h
  · rename_i hl
    split at h
    · rename_i s' k' e
      split at h
      · cases h
        have := hdL_le e
        rw [List.length_drop] at this
        omega
      · cases h
    · cases h
  · cases h
theorem offP_le' {l : List UInt8} {k n k' : Nat} (hk : k ≤ l.length) (h : offP (l.drop k) 0 k = some (n, k')) : k' ≤ l.length := by
  have := offP_le h
  rw [List.length_drop] at this
  omega
theorem unP_le {l : List UInt8} {k k' : Nat} {b : List UInt8} (h : unP l k = some (b, k')) : k' ≤ l.length ∧ b.length ≤ l.length := by
  unfold unP at h
  split at h
  · split at h
    · cases h
      refine ⟨by assumption, ?_⟩
      rw [List.length_take, List.length_drop]; omega
    · cases h
  · cases h
/-! ## the whole entry -/
structure Scan where
  number : Nat
  size : Nat
  base_at : Option Int
  base_id : Option (List UInt8)
  data : List UInt8
  behind : Nat
def finP (l : List UInt8) (n s : Nat) (ba : Option Int) (bi : Option (List UInt8)) (k : Nat) : Option Scan :=
  match unP l k with
  | some (d, a) => if d.length = s then some ⟨n, s, ba, bi, d, a⟩ else none
  | none => none
def scanP (l : List UInt8) (at0 many : Nat) (keys : List Int) : Option Scan :=
  match headP l at0 with
  | none => none
  | some (n, s, k) =>
    if n = 6 then
      match offP (l.drop k) 0 k with
      | none => none
      | some (b, k') => if b = 0 ∨ ((at0 : Int) - b) ∉ keys then none else finP l n s (some ((at0 : Int) - b)) none k'
    else if n = 7 then
      if ((l.drop k).take many).length = many then finP l n s none (some ((l.drop k).take many)) (k + many) else none
    else finP l n s none none k
end Mine

namespace Mine
theorem off11 : True := by w_top off; trivial
open PySem.Calls

abbrev topA (dp un : Nat) (gd : Option (List Code)) (cn : Str) (cs : Scope) (L a : Addr) (ccd : Value) (outer : List Env) : Around := { handled := none, depth := dp, frames := some (envOf cn cs L a ccd :: outer), guards := gd, units := un }
abbrev toldD (P : Params) (k1 : Tok) (v : Value) : Obj := dictOf [⟨PyData.keyHash P "told", .str "told" k1, v⟩] 1

/-- a def's contract: what it hands back over the ledger, what it raises -/
def Spec (w : World) (f : Addr) (vs : List Value) (news : List (Addr × Obj)) (k : Nat) (Ret : Value → List (Addr × Obj) → Prop) (Exc : Addr → Prop) : Prop :=
  ∀ (mean : ExcName → Option Value) (mg mb : Str → Option Value) (dp un : Nat) (gd : Option (List Code)) (cn : Str) (cs : Scope) (a : Addr) (ccd : Value) (outer : List Env) (A₀ : Around) (base h₀ : Heap) (L : Addr) (m : Str → Option Value) (s : Shared) (Q E : Value → Shared → Prop),
    Below A₀ base outer h₀ → Fr h₀ L s.heap m → (hd.heap_39 w.params).In h₀ → News h₀ L s.heap news → Top VW LS mean mg mb h₀ →
    (hd.heap_39 w.params).In base → Top VW LS mean mg mb base → KtsDicts (outer.filterMap (·.frame)) h₀ → cs.kind = .function → dp + k < recursionLimit → un + 8 * k < cLine →
    (∀ v news' h' tk', Ret v news' → Fr h₀ L h' m → News h₀ L h' news' → Q v { s with heap := h', toks := tk' }) →
    (∀ C c x tx e d k1 G h' tk', Exc C → Fr h₀ L G m → Flown base G (envOf cn cs L a ccd :: outer) e C d c ((d, toldD w.params k1 (.str x tx)) :: news) h' → ((C = 57 → c = .none) ∧ (C = 45 → x.length ≤ 100)) → G.UpToSlots h' → E (.ref e) { s with heap := h', toks := tk' }) →
    wpAny (model PySem.Challenge.rw_pb0100_01.row.prog w) (topA dp un gd cn cs L a ccd outer) (call (.ref f) vs) Q E s

theorem Flown.raised {base G : Heap} {l : List Env} {e C d : Addr} {c : Value} {news : List (Addr × Obj)} {h : Heap} (R : Flown base G l e C d c news h) : RaisedSN base G l e (.ref C) news h := R.1
theorem Flown.sub {base G : Heap} {l : List Env} {e C d : Addr} {c : Value} {news news' : List (Addr × Obj)} {h : Heap} (R : Flown base G l e C d c news h) (k : ∀ p ∈ news', p ∈ news) : Flown base G l e C d c news' h := by
  obtain ⟨⟨B, a0, hB, hBG, hl, hfl⟩, T⟩ := R
  exact ⟨⟨B, a0, hB, hBG, fun q hq => hl q (k q hq), hfl⟩, T⟩
theorem raisableO_of {E : Value → Shared → Prop} {K : Frag} {s : Shared} {h₀ : Heap} {L e C t : Addr} {d : Option Addr} {m : Str → Option Value} {news : List (Addr × Obj)} (F : Fr h₀ L s.heap m) (N : News h₀ L s.heap ((e, excO C t d) :: news)) (X : K.In h₀) (hm : excMk K C = true) (h : E (.ref e) s) : RaisableO E (.ref e) s :=
  ⟨e, _, _, C, rfl, (N _ (.head _)).1, rfl, rfl, rfl, ⟨K, X.keeps F.keep, hm⟩, h⟩
theorem ne_of_lts {h₀ h : Heap} {L : Addr} {news : List (Addr × Obj)} {e t d : Addr} {x o o' : Obj} (_N : News h₀ L h ((e, x) :: (d, o) :: (t, o') :: news)) (l1 : ∀ p ∈ news, p.1 < t) (l2 : t < e) (l3 : e < d) : ∀ p ∈ (d, o) :: (t, o') :: news, p.1 ≠ e := fun p hp => by
  rcases List.mem_cons.mp hp with rfl | hp
  · exact Nat.ne_of_gt l3
  rcases List.mem_cons.mp hp with rfl | hp
  · exact Nat.ne_of_lt l2
  · exact Nat.ne_of_lt (Nat.lt_trans (l1 p hp) l2)

theorem told_sub {x y : Addr × Obj} {news : List (Addr × Obj)} : ∀ p ∈ x :: news, p ∈ x :: y :: news := fun p hp => by
  rcases List.mem_cons.mp hp with rfl | hp
  · exact .head _
  · exact .tail _ (.tail _ hp)
abbrev excC (C t : Addr) (d : Option Addr) (c : Value) : Obj := { cls := .ref C, dict := d, data := .fields #[.ref t, .none, c, .none, .bool false, .none] }
theorem chained_of {E : Value → Shared → Prop} {s : Shared} {h₀ : Heap} {L e x C t : Addr} {d : Option Addr} {m : Str → Option Value} {news : List (Addr × Obj)} {ox : Obj} {vx : Array Value}
    (F : Fr h₀ L s.heap m) (N : News h₀ L s.heap ((e, excO C t d) :: news)) (hx : (x, ox) ∈ news) (hd : ox.data = .fields vx) (h2 : vx[2]? = some .none) (hne : ∀ p ∈ news, p.1 ≠ e)
    (h : ∀ h', Fr h₀ L h' m → News h₀ L h' ((e, excC C t d (.ref x)) :: news) → E (.ref e) { s with heap := h' }) : Chained x E (.ref e) s := by
  obtain ⟨U1, U2⟩ := news_upd (pre := []) (post := news) (f := Obj.mapFields (·.setIfInBounds 2 (.ref x))) F N (fun p hp => nomatch hp) hne (o' := excC C t d (.ref x)) rfl rfl
  exact ⟨e, ox, vx, _, _, rfl, Ne.symm (hne _ hx), (N _ (.tail _ hx)).1, hd, h2, (N _ (.head _)).1, rfl, (by simp), h _ U1 U2⟩
theorem Spec.use {w : World} {f : Addr} {vs : List Value} {news : List (Addr × Obj)} {k : Nat} {Ret : Value → List (Addr × Obj) → Prop} {Exc : Addr → Prop} (S : Spec w f vs news k Ret Exc)
    {mean : ExcName → Option Value} {mg mb : Str → Option Value} {dp un : Nat} {gd : Option (List Code)} {cn : Str} {cs : Scope} {a : Addr} {ccd : Value} {outer : List Env} {A₀ : Around} {base h₀ : Heap} {L : Addr} {m : Str → Option Value} {s : Shared} {Q E : Value → Shared → Prop}
    (B : Below A₀ base outer h₀) (F : Fr h₀ L s.heap m) (X : (hd.heap_39 w.params).In h₀) (N : News h₀ L s.heap news) (T : Top VW LS mean mg mb h₀)
    (XB : (hd.heap_39 w.params).In base) (TB : Top VW LS mean mg mb base) (D : KtsDicts (outer.filterMap (·.frame)) h₀) (hk : cs.kind = .function) (hd : dp + k < recursionLimit) (hu : un + 8 * k < cLine)
    (hret : ∀ v news' h' tk', Ret v news' → Fr h₀ L h' m → News h₀ L h' news' → Q v { s with heap := h', toks := tk' })
    (hexc : ∀ C c x tx e d k1 G h' tk', Exc C → Fr h₀ L G m → Flown base G (envOf cn cs L a ccd :: outer) e C d c ((d, toldD w.params k1 (.str x tx)) :: news) h' → ((C = 57 → c = .none) ∧ (C = 45 → x.length ≤ 100)) → G.UpToSlots h' → E (.ref e) { s with heap := h', toks := tk' }) :
    wpAny (model PySem.Challenge.rw_pb0100_01.row.prog w) (topA dp un gd cn cs L a ccd outer) (call (.ref f) vs) Q E s :=
  S _ _ _ _ _ _ _ _ _ _ _ _ _ _ _ _ _ _ _ B F X N T XB TB D hk hd hu hret hexc
theorem Spec.go {w : World} {f : Addr} {vs : List Value} {news : List (Addr × Obj)} {k : Nat} {Ret : Value → List (Addr × Obj) → Prop} {Exc : Addr → Prop} 
    {mean : ExcName → Option Value} {mg mb : Str → Option Value} {dp un : Nat} {gd : Option (List Code)} {cn : Str} {cs : Scope} {a : Addr} {ccd : Value} {outer : List Env} {A₀ : Around} {base h₀ : Heap} {L : Addr} {m : Str → Option Value} {s : Shared} {Q E : Value → Shared → Prop}
    (hret : ∀ v news' h' tk', Ret v news' → Fr h₀ L h' m → News h₀ L h' news' → Q v { s with heap := h', toks := tk' })
    (hexc : ∀ C c x tx e d k1 G h' tk', Exc C → Fr h₀ L G m → Flown base G (envOf cn cs L a ccd :: outer) e C d c ((d, toldD w.params k1 (.str x tx)) :: news) h' → ((C = 57 → c = .none) ∧ (C = 45 → x.length ≤ 100)) → G.UpToSlots h' → E (.ref e) { s with heap := h', toks := tk' })
    (B : Below A₀ base outer h₀ := by k_asm) (F : Fr h₀ L s.heap m := by k_asm) (X : (hd.heap_39 w.params).In h₀ := by k_asm) (N : News h₀ L s.heap news := by k_asm) (T : Top VW LS mean mg mb h₀ := by k_asm)
    (XB : (hd.heap_39 w.params).In base := by first | assumption | k_asm) (TB : Top VW LS mean mg mb base := by first | assumption | k_asm) (D : KtsDicts (outer.filterMap (·.frame)) h₀ := by first | assumption | exact kts_nil _) (hk : cs.kind = .function := by exact rfl) (hd : dp + k < recursionLimit := by first | ktr_room | k_room) (hu : un + 8 * k < cLine := by first | ktr_units | ke_room) (S : Spec w f vs news k Ret Exc) :
    wpAny (model PySem.Challenge.rw_pb0100_01.row.prog w) (topA dp un gd cn cs L a ccd outer) (call (.ref f) vs) Q E s :=
  S _ _ _ _ _ _ _ _ _ _ _ _ _ _ _ _ _ _ _ B F X N T XB TB D hk hd hu hret hexc
theorem told_sub2 {x y z : Addr × Obj} {news : List (Addr × Obj)} : ∀ p ∈ x :: news, p ∈ x :: y :: z :: news := fun p hp => by
  rcases List.mem_cons.mp hp with rfl | hp
  · exact .head _
  · exact .tail _ (.tail _ (.tail _ hp))
theorem told_sub3 {x y z u : Addr × Obj} {news : List (Addr × Obj)} : ∀ p ∈ x :: news, p ∈ x :: y :: z :: u :: news := fun p hp => by
  rcases List.mem_cons.mp hp with rfl | hp
  · exact .head _
  · exact .tail _ (.tail _ (.tail _ (.tail _ hp)))
theorem news_drop2 {h₀ h : Heap} {L : Addr} {x y : Addr × Obj} {news : List (Addr × Obj)} (N : News h₀ L h (x :: y :: news)) : News h₀ L h (x :: news) := fun p hp => N p (told_sub p hp)

/-- a cut of octets -/
def cutL (l : List UInt8) (lo hi : Option Int) : List UInt8 := (l.drop (lo.elim 0 (clipAt l.length))).take (hi.elim l.length (clipAt l.length) - lo.elim 0 (clipAt l.length))
theorem cutL_le (l : List UInt8) (lo hi : Option Int) : (cutL l lo hi).length ≤ l.length := by
  unfold cutL
  rw [List.length_take, List.length_drop]; omega
theorem picked_list (l : List UInt8) (lo hi : Option Int) : KBy.picked l.toArray lo hi = (cutL l lo hi).toArray := by
  rw [KBc.picked_eq]
  simp only [List.size_toArray, List.toList_toArray]
  rfl
theorem cut_K {prog : Program} {w : World} {A : Around} {E : Value → Shared → Prop} {s : Shared} {value slice : PySem.Expr} {ls : List UInt8} {t : Tok} {h₀ : Heap} {L : Addr} {m : PySem.Str → Option Value} {news : List (Addr × Obj)} {l u : Value} {lo hi : Option Int} {Q : Value → Shared → Prop}
    (hF : Fr h₀ L s.heap m) (hN : News h₀ L s.heap news) (hl : IsPart l lo) (hu : IsPart u hi) (hz : ls.length ≤ 16777216)
    (h : ∀ h' t' k, Fr h₀ L h' m → News h₀ L h' news → (cutL ls lo hi).length ≤ ls.length → Q (.bytes (cutL ls lo hi).toArray t') { s with heap := h', toks := k })
    (hs : subscripted slice false (.bytes ls.toArray t) (.ref s.heap.objs.size) = operate [.ref s.heap.objs.size, .bytes ls.toArray t] (getItem (.bytes ls.toArray t) (.ref s.heap.objs.size)) := by with_unfolding_all rfl)
    (ht : ∀ r, letTemporaryGo value (.bytes ls.toArray t) r = pure () := by intro _; with_unfolding_all rfl) :
    wpAny (model prog w) A (subscriptTail value slice (.bytes ls.toArray t) (.ref s.heap.objs.size)) Q E { s with heap := s.heap.push { cls := .type "slice", data := .fields #[l, u, .none] } } :=
  KBc.slice_K hF hN rfl hl hu (by simpa [KBw.ints_length] using hz) (fun h' t' k F N _ => by rw [picked_list]; exact h h' t' k F N (cutL_le _ _ _)) hs ht
theorem cutL_mid {l : List UInt8} {k n : Nat} (h : ¬ (l.toArray.size : Int) < (k : Int) + (n : Int)) : cutL l (some (k : Int)) (some ((k : Int) + (n : Int))) = (l.drop k).take n := by
  rw [List.size_toArray] at h
  unfold cutL
  simp only [Option.elim]
  rw [clipAt_nat, show (k : Int) + (n : Int) = ((k + n : Nat) : Int) by push_cast; rfl, clipAt_nat, Nat.min_eq_left (by omega), Nat.min_eq_left (by omega), Nat.add_sub_cancel_left]
theorem find_told (P : Params) (k1 : Tok) (v : Value) : findObj (hd.heap_39 P) 45 (some (toldD P k1 v)) "told" = some (.value v) := by kernel_rfl
theorem exc_told {prog : Program} {w : World} {A : Around} {E : Value → Shared → Prop} {s : Shared} {h₀ : Heap} {L e d : Addr} {m : Str → Option Value} {news : List (Addr × Obj)} {oe : Obj} {vs : Array Value} {k1 : Tok} {v : Value} {expr : Bool} {Q : Value → Shared → Prop}
    (F : Fr h₀ L s.heap m) (X : (hd.heap_39 w.params).In h₀) (N : News h₀ L s.heap ((e, oe) :: (d, toldD w.params k1 v) :: news)) (hc : oe.cls = .ref 45) (hdi : oe.dict = some d) (hda : oe.data = .fields vs) (hh : handedIn v = true)
    (hga : findIn (hd.heap_39 w.params) (.ref 45) "__getattribute__" = some (some (.builtin "BaseException.__getattribute__"))) (hgh : findIn (hd.heap_39 w.params) (.ref 45) "__getattr__" = some none)
    (h : Q v { s with toks := s.toks + 1 }) : wpAny (model prog w) A (getAttr (.ref e) "told" expr) Q E s := by
  refine exc_get (X.keeps F.keep) (exc45 _) (ox := oe) (od := toldD w.params k1 v) ⟨(N _ (.head _)).1, hc, ?_, ?_⟩ hga hgh (find_told _ _ _) hh h
  · unfold notCls; rw [hda]
  · rw [hdi]; exact (N _ (.tail _ (.head _))).1
theorem cutL_any {l : List UInt8} {k n : Nat} (hk : k ≤ l.length) : cutL l (some (k : Int)) (some ((k : Int) + (n : Int))) = (l.drop k).take n := by
  unfold cutL
  simp only [Option.elim]
  rw [clipAt_nat, show (k : Int) + (n : Int) = ((k + n : Nat) : Int) by push_cast; rfl, clipAt_nat, Nat.min_eq_left hk]
  by_cases h : k + n ≤ l.length
  · rw [Nat.min_eq_left h, Nat.add_sub_cancel_left]
  · rw [Nat.min_eq_right (by omega), List.take_of_length_le (by rw [List.length_drop]; omega), List.take_of_length_le (by rw [List.length_drop]; omega)]
theorem valueAt_some : ∀ (kvs : List (Int × Value)) (i : Int), (valueAt kvs i).isSome = decide (i ∈ kvs.map (·.1))
  | [], i => by simp [valueAt]
  | kv :: r, i => by
    have ih := valueAt_some r i
    unfold valueAt at ih ⊢
    rw [List.find?_cons]
    by_cases h : kv.1 = i
    · simp [h]
    · simp only [h, decide_false, List.map_cons, List.mem_cons]
      rw [ih]
      have : ¬ i = kv.1 := fun q => h q.symm
      simp [this]
theorem notin_starts {w : World} {A : Around} {E : Value → Shared → Prop} {s : Shared} {h₀ : Heap} {L sx : Addr} {so : Obj} {kvs : List (Int × Value)} {news : List (Addr × Obj)} {i : Int} {t : Tok} {Q : Value → Shared → Prop}
    (N : News h₀ L s.heap news) (hm : (sx, so) ∈ news) (hd : so.IsDictOf (PySem.intKind PySem.Challenge.rw_pb0100_01.row.prog w) kvs) (lo : (sx == sysModules) = false) (h : Q (.bool (!decide (i ∈ kvs.map (·.1)))) { s with toks := s.toks + 1 }) :
    wpAny (model PySem.Challenge.rw_pb0100_01.row.prog w) A (compareOp .NotIn (.int i t) (.ref sx)) Q E s := by
  refine wpAny_notIn_of (knd := PySem.intKind _ w) (k := i) (intKind_is _ w i t) lo (Heap.dictOf_iff.mpr ⟨so, (N _ hm).1, hd⟩).mapOf ?_
  rw [valueAt_some]
  exact h
theorem turn_up {fs : List Addr} {g g' : Heap} (T : KtsTurn fs g g') : g.UpToSlots g' := fun _ _ e _ => T.up e
/-- over a turn of the frames below, the ground may be told as it was -/
theorem Flown.turn {base g g' h : Heap} {l : List Env} {e C d : Addr} {c : Value} {news : List (Addr × Obj)} (R : Flown base g' l e C d c news h) (T : KtsTurn (l.filterMap (·.frame)) g g') : Flown base g l e C d c news h := by
  obtain ⟨⟨B, a0, hB, hBG, hl, hfl⟩, Td⟩ := R
  refine ⟨⟨B, a0, hB, fun b o q nm => hBG b o (T.other b o q nm) nm, fun q hq => ⟨(hl q hq).1, ?_, (hl q hq).2.2⟩, hfl⟩, Td⟩
  cases z : g.get? q.1 with
  | none => rfl
  | some o =>
    obtain ⟨sl, hs⟩ := T.up z
    rw [(hl q hq).2.1] at hs; cases hs
/-! ## the table of sorts -/
theorem look127 (P : Params) : List.lookup 127 (hd.heap_39 P) = some ⟨.type "dict", none, .dict #[⟨1, .int 1 348, .bytes #[99, 111, 109, 109, 105, 116] 349⟩, ⟨2, .int 2 350, .bytes #[116, 114, 101, 101] 351⟩, ⟨3, .int 3 352, .bytes #[98, 108, 111, 98] 353⟩, ⟨4, .int 4 354, .bytes #[116, 97, 103] 355⟩] 4, #[]⟩ := by kernel_rfl
theorem notin_kinds {prog : Program} {w : World} {A : Around} {E : Value → Shared → Prop} {s : Shared} {h₀ : Heap} {L : Addr} {m : Str → Option Value} {i : Int} {t : Tok} {Q : Value → Shared → Prop}
    (F : Fr h₀ L s.heap m) (X : (hd.heap_39 w.params).In h₀) (h : Q (.bool (!decide (1 ≤ i ∧ i ≤ 4))) { s with toks := s.toks + 1 }) :
    wpAny (model prog w) A (compareOp .NotIn (.int i t) (.ref 127)) Q E s := by
  have ho := (X.keeps F.keep) _ _ (look127 w.params)
  have hD : s.heap.DictOf (PySem.intKind prog w) 127 [(1, .bytes #[99, 111, 109, 109, 105, 116] 349), (2, .bytes #[116, 114, 101, 101] 351), (3, .bytes #[98, 108, 111, 98] 353), (4, .bytes #[116, 97, 103] 355)] := by
    refine ⟨_, _, _, ho, ⟨rfl, rfl, rfl⟩, rfl, ?_, ?_, by decide⟩
    · intro e he
      simp only [List.mem_toArray, List.mem_cons, List.not_mem_nil, or_false] at he
      rcases he with rfl | rfl | rfl | rfl
      · exact ⟨1, intKind_is prog w 1 _, by show (1 : Int) = hashInt 1; decide⟩
      · exact ⟨2, intKind_is prog w 2 _, by show (2 : Int) = hashInt 2; decide⟩
      · exact ⟨3, intKind_is prog w 3 _, by show (3 : Int) = hashInt 3; decide⟩
      · exact ⟨4, intKind_is prog w 4 _, by show (4 : Int) = hashInt 4; decide⟩
    · exact .cons (intKind_is prog w 1 _) rfl (.cons (intKind_is prog w 2 _) rfl (.cons (intKind_is prog w 3 _) rfl (.cons (intKind_is prog w 4 _) rfl .nil)))
  refine wpAny_notIn_of (knd := PySem.intKind prog w) (k := i) (intKind_is prog w i t) (by decide) hD.mapOf ?_
  have e : (valueAt [((1 : Int), Value.bytes #[99, 111, 109, 109, 105, 116] 349), (2, .bytes #[116, 114, 101, 101] 351), (3, .bytes #[98, 108, 111, 98] 353), (4, .bytes #[116, 97, 103] 355)] i).isSome = decide (1 ≤ i ∧ i ≤ 4) := by
    unfold valueAt
    simp only [List.find?_cons, List.find?_nil]
    by_cases h1 : (1 : Int) = i
    · subst h1; rfl
    by_cases h2 : (2 : Int) = i
    · subst h2; rfl
    by_cases h3 : (3 : Int) = i
    · subst h3; rfl
    by_cases h4 : (4 : Int) = i
    · subst h4; rfl
    have : ¬ (1 ≤ i ∧ i ≤ 4) := by omega
    simp [h1, h2, h3, h4, this]
  rw [e]
  exact h
theorem leave_on {M : Model} {A : Around} {E : Value → Shared → Prop} {s' : Shared} {base g g₂ : Heap} {outer : List Env} {L a e C d : Addr} {c : Value} {m : Str → Option Value} {name : Str} {scope : Scope} {cd : Value} {Q : Unit → Shared → Prop} {news : List (Addr × Obj)}
    (K : Below A base outer g) (F : Fr g L g₂ m) (R : Flown base g₂ (envOf name scope L a cd :: outer) e C d c news s'.heap) (hsm : g₂.UpToSlots s'.heap)
    (hQ : ∀ h', Flown base g outer e C d c news h' → g.UpToSlots h' → Q () { s' with heap := h' }) :
    wpAny M (A.deeper (envOf name scope L a cd)) (leaving (envOf name scope L a cd) (.ref e)) Q E s' := by
  have step := leave_onSN (M := M) (A := A) (E := E) (s' := s') (Q := fun _ s'' => ∃ h', s'' = { s' with heap := h' } ∧ RaisedSN base g outer e (.ref C) news h' ∧ g.UpToSlots h') K F R.1 hsm (fun h' x _ y => ⟨h', rfl, x, y⟩)
  refine wpAny_mono ((gentle_leaving _ _).any step) (fun u s'' z => ?_) fun _ _ z => z.1
  obtain ⟨⟨h', rfl, x, y⟩, gk⟩ := z
  exact hQ h' ⟨x, Tied.soft R.2 gk⟩ y
theorem cut_fits {l : List UInt8} {k many : Nat} (hk : k ≤ l.length) (h : ((cutL l (some (k : Int)) (some ((k : Int) + (many : Int)))).toArray.size : Int) = (many : Int)) : k + many ≤ l.length := by
  rw [cutL_any hk, List.size_toArray, List.length_take, List.length_drop] at h
  omega
/-! ## the scan, case by case -/
section
variable {l : List UInt8} {a n s k b k' many : Nat} {keys : List Int} {d : List UInt8} {ba : Option Int} {bi : Option (List UInt8)}
theorem sc0 (h : headP l a = none) : scanP l a many keys = none := by unfold scanP; rw [h]
theorem sc6n (h : headP l a = some (n, s, k)) (h6 : (n : Int) = 6) (o : offP (l.drop k) 0 k = none) : scanP l a many keys = none := by
  unfold scanP; rw [h]; dsimp only; rw [if_pos (by omega), o]
theorem sc6b (h : headP l a = some (n, s, k)) (h6 : (n : Int) = 6) (o : offP (l.drop k) 0 k = some (b, k')) (hb : (b : Int) ≤ 0) : scanP l a many keys = none := by
  unfold scanP; rw [h]; dsimp only; rw [if_pos (by omega), o]; dsimp only; rw [if_pos (Or.inl (by omega))]
theorem sc6k (h : headP l a = some (n, s, k)) (h6 : (n : Int) = 6) (o : offP (l.drop k) 0 k = some (b, k')) (hb : ¬ ((a : Int) - (b : Int)) ∈ keys) : scanP l a many keys = none := by
  unfold scanP; rw [h]; dsimp only; rw [if_pos (by omega), o]; dsimp only; rw [if_pos (Or.inr hb)]
theorem sc6 (h : headP l a = some (n, s, k)) (h6 : (n : Int) = 6) (o : offP (l.drop k) 0 k = some (b, k')) (hb : ¬ (b : Int) ≤ 0) (hk : ((a : Int) - (b : Int)) ∈ keys) : scanP l a many keys = finP l n s (some ((a : Int) - (b : Int))) none k' := by
  unfold scanP; rw [h]; dsimp only; rw [if_pos (by omega), o]; dsimp only; rw [if_neg (fun q => q.elim (fun q => hb (by omega)) (fun q => q hk))]
theorem sc7c (h : headP l a = some (n, s, k)) (h7 : (n : Int) = 7) (hc : ((cutL l (some (k : Int)) (some ((k : Int) + (many : Int)))).toArray.size : Int) ≠ (many : Int)) : scanP l a many keys = none := by
  rw [cutL_any (headP_le h).2.1, List.size_toArray] at hc
  unfold scanP; rw [h]; dsimp only; rw [if_neg (by omega), if_pos (by omega), if_neg (by omega)]
theorem sc7 (h : headP l a = some (n, s, k)) (h7 : (n : Int) = 7) (hc : ((cutL l (some (k : Int)) (some ((k : Int) + (many : Int)))).toArray.size : Int) = (many : Int)) : scanP l a many keys = finP l n s none (some (cutL l (some (k : Int)) (some ((k : Int) + (many : Int))))) (k + many) := by
  rw [cutL_any (headP_le h).2.1] at hc ⊢
  rw [List.size_toArray] at hc
  unfold scanP; rw [h]; dsimp only; rw [if_neg (by omega), if_pos (by omega), if_pos (by omega)]
theorem scO (h : headP l a = some (n, s, k)) (h6 : (n : Int) ≠ 6) (h7 : (n : Int) ≠ 7) : scanP l a many keys = finP l n s none none k := by
  unfold scanP; rw [h]; dsimp only; rw [if_neg (by omega), if_neg (by omega)]
theorem fin_n (h : unP l k = none) : finP l n s ba bi k = none := by unfold finP; rw [h]
theorem fin_l (h : unP l k = some (d, k')) (hd : (d.toArray.size : Int) ≠ (s : Int)) : finP l n s ba bi k = none := by
  rw [List.size_toArray] at hd
  unfold finP; rw [h]; dsimp only; rw [if_neg (by omega)]
theorem fin_y (h : unP l k = some (d, k')) (hd : (d.toArray.size : Int) = (s : Int)) : finP l n s ba bi k = some ⟨n, s, ba, bi, d, k'⟩ := by
  rw [List.size_toArray] at hd
  unfold finP; rw [h]; dsimp only; rw [if_pos (by omega)]
end
theorem told_subs {x : Addr × Obj} {news rest : List (Addr × Obj)} (k : ∀ p ∈ news, p ∈ rest) : ∀ p ∈ x :: news, p ∈ x :: rest := fun p hp => by
  rcases List.mem_cons.mp hp with rfl | hp
  · exact .head _
  · exact .tail _ (k p hp)
def scanObj (P : Params) (at0 : Nat) (z : Scan) (o : Obj) : Prop :=
  ∃ k1 k2 k3 k4 k5 k6 k7 t1 t2 t3 t4 t5 t6 t7, o = dictOf [⟨PyData.keyHash P "at", .str "at" k1, .int at0 t1⟩, ⟨PyData.keyHash P "number", .str "number" k2, .int z.number t2⟩, ⟨PyData.keyHash P "size", .str "size" k3, .int z.size t3⟩,
    ⟨PyData.keyHash P "base_at", .str "base_at" k4, match z.base_at with | some b => .int b t4 | none => .none⟩, ⟨PyData.keyHash P "base_id", .str "base_id" k5, match z.base_id with | some b => .bytes b.toArray t5 | none => .none⟩,
    ⟨PyData.keyHash P "data", .str "data" k6, .bytes z.data.toArray t6⟩, ⟨PyData.keyHash P "behind", .str "behind" k7, .int z.behind t7⟩] 7
section
variable {P : Params} {at0 n s a : Nat} {d : List UInt8} {k1 k2 k3 k4 k5 k6 k7 t1 t2 t3 t4 t6 t7 : Tok}
theorem scanObj_o : scanObj P at0 ⟨n, s, none, none, d, a⟩ (dictOf [⟨PyData.keyHash P "at", .str "at" k1, .int at0 t1⟩, ⟨PyData.keyHash P "number", .str "number" k2, .int n t2⟩, ⟨PyData.keyHash P "size", .str "size" k3, .int s t3⟩, ⟨PyData.keyHash P "base_at", .str "base_at" k4, .none⟩, ⟨PyData.keyHash P "base_id", .str "base_id" k5, .none⟩, ⟨PyData.keyHash P "data", .str "data" k6, .bytes d.toArray t6⟩, ⟨PyData.keyHash P "behind", .str "behind" k7, .int a t7⟩] 7) := ⟨k1, k2, k3, k4, k5, k6, k7, t1, t2, t3, 0, 0, t6, t7, rfl⟩
theorem scanObj_6 {b : Int} : scanObj P at0 ⟨n, s, some b, none, d, a⟩ (dictOf [⟨PyData.keyHash P "at", .str "at" k1, .int at0 t1⟩, ⟨PyData.keyHash P "number", .str "number" k2, .int n t2⟩, ⟨PyData.keyHash P "size", .str "size" k3, .int s t3⟩, ⟨PyData.keyHash P "base_at", .str "base_at" k4, .int b t4⟩, ⟨PyData.keyHash P "base_id", .str "base_id" k5, .none⟩, ⟨PyData.keyHash P "data", .str "data" k6, .bytes d.toArray t6⟩, ⟨PyData.keyHash P "behind", .str "behind" k7, .int a t7⟩] 7) := ⟨k1, k2, k3, k4, k5, k6, k7, t1, t2, t3, t4, 0, t6, t7, rfl⟩
theorem scanObj_7 {b : List UInt8} : scanObj P at0 ⟨n, s, none, some b, d, a⟩ (dictOf [⟨PyData.keyHash P "at", .str "at" k1, .int at0 t1⟩, ⟨PyData.keyHash P "number", .str "number" k2, .int n t2⟩, ⟨PyData.keyHash P "size", .str "size" k3, .int s t3⟩, ⟨PyData.keyHash P "base_at", .str "base_at" k4, .none⟩, ⟨PyData.keyHash P "base_id", .str "base_id" k5, .bytes b.toArray t4⟩, ⟨PyData.keyHash P "data", .str "data" k6, .bytes d.toArray t6⟩, ⟨PyData.keyHash P "behind", .str "behind" k7, .int a t7⟩] 7) := ⟨k1, k2, k3, k4, k5, k6, k7, t1, t2, t3, 0, t4, t6, t7, rfl⟩
end
/-! ## the tape -/
def TapeO (w : World) (T C : Addr) (o oc : Obj) : Prop :=
  (T == sysModules) = false ∧ ∃ (sd : Int) (ts : Tok) (ys : List Value) (n : Nat) (cs : List Int), o.IsDictOf (PySem.strKind PySem.Challenge.rw_pb0100_01.row.prog w) [("cells", .ref C), ("seed", .int sd ts)] ∧ 0 ≤ sd ∧ oc = W.listOf ys.toArray n ∧ IntsAre ys cs ∧ cs.length ≤ 24 ∧ ∀ c ∈ cs, 0 ≤ c
theorem cells_more {cs : List Int} (h : decide (cs = []) = false) {ys : List Value} (hI : IntsAre ys cs) : 0 < ys.length := by
  have := hI.length
  cases cs with
  | nil => simp at h
  | cons c r => rw [this]; simp
theorem cells_top {cs : List Int} (hn : ∀ c ∈ cs, 0 ≤ c) : 0 ≤ cs.getLastD 0 := by
  cases h : cs.getLast? with
  | none => rw [List.getLastD_eq_getLast?, h]; exact Int.le_refl 0
  | some x => rw [List.getLastD_eq_getLast?, h]; exact hn x (List.mem_of_getLast? h)
theorem cells_rest {cs : List Int} (hn : ∀ c ∈ cs, 0 ≤ c) : ∀ c ∈ cs.dropLast, 0 ≤ c := fun c hc => hn c (List.dropLast_subset _ hc)
theorem fmod_in {a b : Int} (ha : 0 ≤ a) (hb : 0 < b) : 0 ≤ a.fmod b ∧ a.fmod b < b := by
  rw [Int.fmod_eq_emod_of_nonneg _ (Int.le_of_lt hb)]
  exact ⟨Int.emod_nonneg _ (by omega), Int.emod_lt_of_pos _ hb⟩
end Mine

namespace Mine
theorem off12 : True := by w_top off; trivial
/-! ## more octets behind change nothing -/
theorem hdL_more : ∀ {l : List UInt8} {p s sh k : Nat} {r : Nat × Nat} (x : List UInt8), hdL l p s sh k = some r → hdL (l ++ x) p s sh k = some r
  | [], p, s, sh, k, r, x, h => by
    rw [hdL] at h
    split at h
    · rename_i hp
      rw [List.nil_append]
      cases x <;> rw [hdL, if_pos hp] <;> exact h
    · cases h
  | o :: l, p, s, sh, k, r, x, h => by
    rw [hdL] at h
    rw [List.cons_append, hdL]
    split at h
    · rename_i hp; rw [if_pos hp]; exact h
    · rename_i hp; rw [if_neg hp]; exact hdL_more x h
theorem offP_more : ∀ {l : List UInt8} {a k : Nat} {r : Nat × Nat} (x : List UInt8), offP l a k = some r → offP (l ++ x) a k = some r
  | [], _, _, _, _, h => by cases h
  | o :: l, a, k, r, x, h => by
    rw [offP] at h
    rw [List.cons_append, offP]
    split at h
    · rename_i hp; rw [if_pos hp]; exact h
    · rename_i hp; rw [if_neg hp]; exact offP_more x h
theorem sizeP_more : ∀ {l : List UInt8} {n sh k : Nat} {r : Nat × Nat} (x : List UInt8), sizeP l n sh k = some r → sizeP (l ++ x) n sh k = some r
  | [], _, _, _, _, _, h => by cases h
  | o :: l, n, sh, k, r, x, h => by
    rw [sizeP] at h
    rw [List.cons_append, sizeP]
    split at h
    · rename_i hp; rw [if_pos hp]; exact h
    · rename_i hp; rw [if_neg hp]; exact sizeP_more x h
theorem headP_more {l : List UInt8} {a : Nat} {r : Nat × Nat × Nat} (x : List UInt8) (h : headP l a = some r) : headP (l ++ x) a = some r := by
  unfold headP at h ⊢
  split at h
  · rename_i hl
    rw [if_pos (by rw [List.length_append]; omega)]
    have e1 : (l ++ x).getD a 0 = l.getD a 0 := by
      rw [List.getD_eq_getElem?_getD, List.getD_eq_getElem?_getD, List.getElem?_append_left hl]
    have e2 : (l ++ x).drop (a + 1) = l.drop (a + 1) ++ x := List.drop_append_of_le_length (by omega)
    rw [e1, e2]
    split at h
    · rename_i s k e
      rw [hdL_more x e]
      exact h
    · cases h
  · cases h
theorem unP_more {l : List UInt8} {a : Nat} (ha : a ≤ l.length) {r : List UInt8 × Nat} (x : List UInt8) (h : unP l a = some r) : unP (l ++ x) a = some r := by
  unfold unP at h ⊢
  rw [List.drop_append_of_le_length ha]
  split at h
  · rename_i n k e
    rw [sizeP_more x e]
    dsimp only
    split at h
    · rename_i hf
      rw [if_pos (by rw [List.length_append]; omega), List.drop_append_of_le_length (by omega), List.take_append_of_le_length (by rw [List.length_drop]; omega)]
      exact h
    · cases h
  · cases h
theorem finP_more {l : List UInt8} {n s k : Nat} {ba : Option Int} {bi : Option (List UInt8)} (hk : k ≤ l.length) {z : Scan} (x : List UInt8) (h : finP l n s ba bi k = some z) : finP (l ++ x) n s ba bi k = some z := by
  unfold finP at h ⊢
  split at h
  · rename_i d a e
    rw [unP_more hk x e]
    exact h
  · cases h
theorem scanP_more {l : List UInt8} {a many : Nat} {keys : List Int} {z : Scan} (x : List UInt8) (h : scanP l a many keys = some z) : scanP (l ++ x) a many keys = some z := by
  unfold scanP at h ⊢
  split at h
  · cases h
  · rename_i n s k e
    have hk := (headP_le e).2.1
    rw [headP_more x e]
    dsimp only
    split at h
    · rename_i h6
      rw [if_pos h6]
      split at h
      · cases h
      · rename_i b k' o
        rw [List.drop_append_of_le_length hk, offP_more x o]
        dsimp only
        split at h
        · cases h
        · rename_i hb
          rw [if_neg hb]
          exact finP_more (offP_le' hk o) x h
    · rename_i h6
      rw [if_neg h6]
      split at h
      · rename_i h7
        rw [if_pos h7]
        split at h
        · rename_i hc
          have hc' : k + many ≤ l.length := by
            rw [List.length_take, List.length_drop] at hc; omega
          have e3 : ((l ++ x).drop k).take many = (l.drop k).take many := by
            rw [List.drop_append_of_le_length hk, List.take_append_of_le_length (by rw [List.length_drop]; omega)]
          rw [e3, if_pos hc]
          exact finP_more hc' x h
        · cases h
      · rename_i h7
        rw [if_neg h7]
        exact finP_more hk x h
theorem finP_le {l : List UInt8} {n s k : Nat} {ba : Option Int} {bi : Option (List UInt8)} {z : Scan} (h : finP l n s ba bi k = some z) : z.behind ≤ l.length := by
  unfold finP at h
  split at h
  · rename_i d a e
    split at h
    · cases h; exact (unP_le e).1
    · cases h
  · cases h
theorem scanP_le {l : List UInt8} {a many : Nat} {keys : List Int} {z : Scan} (h : scanP l a many keys = some z) : z.behind ≤ l.length := by
  unfold scanP at h
  split at h
  · cases h
  · split at h
    · split at h
      · cases h
      · split at h
        · cases h
        · exact finP_le h
    · split at h
      · split at h
        · exact finP_le h
        · cases h
      · exact finP_le h
/-- cut ahead of its end an entry is none -/
theorem cut_none {l : List UInt8} {a many c e : Nat} {keys : List Int} (he : ∀ z, scanP l a many keys = some z → z.behind = a + e) (hc : c < e) : scanP (l.take (a + c)) a many keys = none := by
  cases h : scanP (l.take (a + c)) a many keys with
  | none => rfl
  | some z =>
    have h1 := scanP_le h
    have h2 := scanP_more (l.drop (a + c)) h
    rw [List.take_append_drop] at h2
    have h3 := he z h2
    rw [List.length_take] at h1
    omega
/-! ## what the law writes -/
def HeadOk (n sz : Nat) (b : List UInt8) : Prop :=
  ∃ o r, b = o :: r ∧ b.length ≤ 6 ∧ o.toNat / 16 % 8 = n ∧ ∀ tail k, hdL (r ++ tail) o.toNat (o.toNat % 16) 4 k = some (sz, k + r.length)
def OffOk (v : Nat) (b : List UInt8) : Prop := b.length ≤ 3 ∧ ∀ tail k, offP (b ++ tail) 0 k = some (v, k + b.length)
def PackOk (content b : List UInt8) : Prop := ∃ p, b = p ++ content ∧ 0 < p.length ∧ p.length ≤ 3 ∧ ∀ tail k, sizeP (p ++ tail) 0 0 k = some (content.length, k + p.length)

theorem head_full {n sz : Nat} {b : List UInt8} (H : HeadOk n sz b) (pre tail : List UInt8) (hn : n ∈ [1, 2, 3, 4, 6, 7]) : headP (pre ++ (b ++ tail)) pre.length = some (n, sz, pre.length + b.length) := by
  obtain ⟨o, r, rfl, _, h1, h2⟩ := H
  unfold headP
  rw [if_pos (by simp only [List.length_append, List.length_cons]; omega)]
  have e1 : (pre ++ (o :: r ++ tail)).getD pre.length 0 = o := by
    rw [List.getD_eq_getElem?_getD, List.getElem?_append_right (Nat.le_refl _), Nat.sub_self]; rfl
  have e2 : (pre ++ (o :: r ++ tail)).drop (pre.length + 1) = r ++ tail := by
    rw [List.drop_append, List.drop_eq_nil_of_le (by omega), List.nil_append, Nat.add_sub_cancel_left]; rfl
  rw [e1, e2, h2]
  dsimp only
  rw [h1, if_pos hn, List.length_cons]
  congr 3
  omega
theorem head_bad {n sz : Nat} {b : List UInt8} (H : HeadOk n sz b) (pre tail : List UInt8) (hn : n ∉ [1, 2, 3, 4, 6, 7]) : headP (pre ++ (b ++ tail)) pre.length = none := by
  obtain ⟨o, r, rfl, _, h1, h2⟩ := H
  unfold headP
  rw [if_pos (by simp only [List.length_append, List.length_cons]; omega)]
  have e1 : (pre ++ (o :: r ++ tail)).getD pre.length 0 = o := by
    rw [List.getD_eq_getElem?_getD, List.getElem?_append_right (Nat.le_refl _), Nat.sub_self]; rfl
  have e2 : (pre ++ (o :: r ++ tail)).drop (pre.length + 1) = r ++ tail := by
    rw [List.drop_append, List.drop_eq_nil_of_le (by omega), List.nil_append, Nat.add_sub_cancel_left]; rfl
  rw [e1, e2, h2]
  dsimp only
  rw [h1, if_neg hn]
theorem un_full {content b : List UInt8} (H : PackOk content b) (pre tail : List UInt8) : unP (pre ++ (b ++ tail)) pre.length = some (content, pre.length + b.length) := by
  obtain ⟨p, rfl, _, _, h⟩ := H
  unfold unP
  rw [List.drop_left, List.append_assoc, h]
  dsimp only
  rw [if_pos (by simp only [List.length_append]; omega)]
  have e : (pre ++ (p ++ (content ++ tail))).drop (pre.length + p.length) = content ++ tail := by
    rw [← List.append_assoc, ← List.length_append, List.drop_left]
  rw [e, List.take_left, List.length_append]
  congr 2
  omega
theorem fin_full {content b : List UInt8} (H : PackOk content b) (pre tail : List UInt8) {n s k : Nat} {ba : Option Int} {bi : Option (List UInt8)} (hk : k = pre.length) :
    finP (pre ++ (b ++ tail)) n s ba bi k = if content.length = s then some ⟨n, s, ba, bi, content, pre.length + b.length⟩ else none := by
  subst hk
  unfold finP
  rw [un_full H]
/-- the entry of the law, its place, what is ahead, what is behind -/
theorem plain_in : ∀ n : Nat, n ∈ [1, 2, 3, 4] → n ∈ [1, 2, 3, 4, 6, 7] ∧ ¬ n = 6 ∧ ¬ n = 7 := by decide
theorem scan_plain {n sz many : Nat} {hb pb content pre beh : List UInt8} {keys : List Int} (H : HeadOk n sz hb) (P : PackOk content pb) (hn : n ∈ [1, 2, 3, 4]) :
    scanP (pre ++ (hb ++ [] ++ pb) ++ beh) pre.length many keys = if content.length = sz then some ⟨n, sz, none, none, content, pre.length + (hb ++ [] ++ pb).length⟩ else none := by
  have e : pre ++ (hb ++ [] ++ pb) ++ beh = pre ++ (hb ++ (pb ++ beh)) := by simp only [List.append_nil, List.append_assoc]
  unfold scanP
  obtain ⟨p1, p2, p3⟩ := plain_in n hn
  rw [e, head_full H _ _ p1]
  dsimp only
  rw [if_neg p2, if_neg p3]
  have e2 : pre ++ (hb ++ (pb ++ beh)) = (pre ++ hb) ++ (pb ++ beh) := by simp only [List.append_assoc]
  rw [e2, fin_full P _ _ (by rw [List.length_append])]
  simp only [List.length_append, List.append_nil, Nat.add_assoc]
theorem scan_bad {n sz many : Nat} {hb x pre beh : List UInt8} {keys : List Int} (H : HeadOk n sz hb) (hn : n ∉ [1, 2, 3, 4, 6, 7]) :
    scanP (pre ++ (hb ++ x) ++ beh) pre.length many keys = none := by
  have e : pre ++ (hb ++ x) ++ beh = pre ++ (hb ++ (x ++ beh)) := by simp only [List.append_assoc]
  unfold scanP
  rw [e, head_bad H _ _ hn]
theorem scan_off {sz many v : Nat} {hb ob pb content pre beh : List UInt8} {keys : List Int} (H : HeadOk 6 sz hb) (O : OffOk v ob) (P : PackOk content pb) :
    scanP (pre ++ (hb ++ ob ++ pb) ++ beh) pre.length many keys = if v = 0 ∨ ((pre.length : Int) - v) ∉ keys then none else if content.length = sz then some ⟨6, sz, some ((pre.length : Int) - v), none, content, pre.length + (hb ++ ob ++ pb).length⟩ else none := by
  have e : pre ++ (hb ++ ob ++ pb) ++ beh = pre ++ (hb ++ (ob ++ (pb ++ beh))) := by simp only [List.append_assoc]
  unfold scanP
  rw [e, head_full H _ _ (by decide)]
  dsimp only
  rw [if_pos rfl]
  have e2 : (pre ++ (hb ++ (ob ++ (pb ++ beh)))).drop (pre.length + hb.length) = ob ++ (pb ++ beh) := by
    rw [← List.append_assoc, ← List.length_append, List.drop_left]
  rw [e2, O.2]
  dsimp only
  by_cases hv : v = 0 ∨ ((pre.length : Int) - v) ∉ keys
  · rw [if_pos hv, if_pos hv]
  · rw [if_neg hv, if_neg hv]
    have e3 : pre ++ (hb ++ (ob ++ (pb ++ beh))) = (pre ++ hb ++ ob) ++ (pb ++ beh) := by simp only [List.append_assoc]
    rw [e3, fin_full P _ _ (by simp only [List.length_append])]
    simp only [List.length_append, Nat.add_assoc]
theorem scan_id {sz many : Nat} {hb ib pb content pre beh : List UInt8} {keys : List Int} (H : HeadOk 7 sz hb) (hi : ib.length = many) (P : PackOk content pb) :
    scanP (pre ++ (hb ++ ib ++ pb) ++ beh) pre.length many keys = if content.length = sz then some ⟨7, sz, none, some ib, content, pre.length + (hb ++ ib ++ pb).length⟩ else none := by
  have e : pre ++ (hb ++ ib ++ pb) ++ beh = pre ++ (hb ++ (ib ++ (pb ++ beh))) := by simp only [List.append_assoc]
  unfold scanP
  rw [e, head_full H _ _ (by decide)]
  dsimp only
  rw [if_neg (by decide), if_pos rfl]
  have e2 : (pre ++ (hb ++ (ib ++ (pb ++ beh)))).drop (pre.length + hb.length) = ib ++ (pb ++ beh) := by
    rw [← List.append_assoc, ← List.length_append, List.drop_left]
  subst hi
  rw [e2, List.take_left, if_pos rfl]
  have e3 : pre ++ (hb ++ (ib ++ (pb ++ beh))) = (pre ++ hb ++ ib) ++ (pb ++ beh) := by simp only [List.append_assoc]
  rw [e3, fin_full P _ _ (by simp only [List.length_append])]
  simp only [List.length_append, Nat.add_assoc]
end Mine

namespace Mine
theorem off13 : True := by w_top off; trivial
open PySem.Calls
section
variable {prog : Program} {w : World} {A : Around} {E : Value → Shared → Prop} {s : Shared}
theorem eb_special : typeLookup (.type "bytes") "__bytes__" = pure (some (.builtin "bytes.__bytes__")) := by rw [typeLookup_type, builtinLookup_eq_fast]; kernel_rfl
theorem eb_new {b : Array UInt8} {t : Tok} {Q : Value → Shared → Prop} (hQ : Q (.bytes b t) s) :
    codeAny (model prog w) A (.call (.builtin "bytes.__new__") ⟨[.type "bytes", .bytes b t], []⟩) (PySem.wants Q E) s := by
  refine codeAny_of_tree ?_
  show wpAny _ A.in1 (do checkBuiltinCall "bytes.__new__" ⟨[.type "bytes", .bytes b t], []⟩; again (.builtin "bytes.__new__" ⟨[.type "bytes", .bytes b t], []⟩)) _ _ s
  refine wpAny_bind (wpAny_of_eq (F.bm_newCall _) (wpAny_pure ⟨plainId_quiet F.bm_plain _, codeAny_builtin F.bm_entry ?_⟩))
  rw [Around.under_plainId F.bm_plain _]
  have hT : s.TypeIs (.bytes b t) "bytes" := PySem.W.typeIs_bytes _ _ _
  unfold Builtin.«bytes.__new__»
  refine wpAny_bind (wpAny_of_eq (a := true) rfl ?_)
  refine bm_if_false rfl ?_
  refine wpAny_bind (wpAny_of_eq F.bm_sub ?_)
  refine bm_if_false rfl ?_
  refine wpAny_bind (wpAny_of_eq (F.bm_bind _) ?_)
  refine wpAny_bind (wpAny_of_eq (a := ()) rfl ?_)
  refine wpAny_bind (wpAny_of_eq (a := ()) rfl ?_)
  refine bm_if_false rfl ?_
  refine wpAny_bind (wpAny_specialOf hT eb_special ?_)
  refine wpAny_bind (wpAny_rule ?_)
  refine wpAny_bind (wpAny_of_eq (a := .type "bytes") rfl ?_)
  refine bm_if_true rfl ?_
  exact wpAny_pure hQ
theorem bytes_same {b : Array UInt8} {t : Tok} {Q : Value → Shared → Prop} (hQ : Q (.bytes b t) s) : wpAny (model prog w) A (call (.type "bytes") [.bytes b t]) Q E s := by
  refine callType_codes (Q₁ := fun obj s₁ => s₁.TypeIs obj "bytes" ∧ Q obj s₁) F.bm_called (F.bm_typeCall _) F.entry_object_init
    (eb_new ⟨PySem.W.typeIs_bytes _ _ _, hQ⟩) fun obj s₁ h₁ => ?_
  exact ⟨h₁.1, F.args_object_init_2 obj _, object_init_meets F.bm_called.init.lookup F.bm_called.made (by decide) prog w A.in1 _ s₁ ⟨h₁.1, rfl, h₁.2⟩⟩
end
end Mine

namespace Mine
theorem off14 : True := by w_top off; trivial
open PySem.Calls
theorem kts_nil (h : Heap) : KtsDicts (([] : List Env).filterMap (·.frame)) h := fun b hb => by simp at hb
/-! ## the tape as it's made -/
theorem fold_nonneg (l : List Int) : ∀ (a : Int), 0 ≤ a → 0 ≤ l.foldl (fun a c => (a * 157 + c).fmod 999917) a := by
  induction l with
  | nil => intro a h; exact h
  | cons c r ih => intro a _; exact ih _ (by show 0 ≤ (a * 157 + c).fmod 999917; rw [Int.fmod_eq_emod_of_nonneg _ (by decide)]; exact Int.emod_nonneg _ (by decide))
theorem tape_nonneg (ns : List Int) : ∀ c ∈ (List.map (fun k' : Int => k'.fmod 999917) (List.take 24 ns)).reverse, 0 ≤ c := fun c hc => by
  rw [List.mem_reverse, List.mem_map] at hc
  obtain ⟨k, _, rfl⟩ := hc
  rw [Int.fmod_eq_emod_of_nonneg _ (by decide)]
  exact Int.emod_nonneg _ (by decide)
theorem tape_len (ns : List Int) : (List.map (fun k' : Int => k'.fmod 999917) (List.take 24 ns)).reverse.length ≤ 24 := by
  rw [List.length_reverse, List.length_map, List.length_take]; omega
theorem tape_made {w : World} {T C : Addr} {o : Obj} {ws : List Value} {ns : List Int} {n : Nat} {tk tk' ts : Tok} (lo : (T == sysModules) = false)
    (hd : o.IsDictOf (PySem.strKind PySem.Challenge.rw_pb0100_01.row.prog w) (strPairs [(.str (PySem.Str.ofString "cells") tk, .ref C), (.str (PySem.Str.ofString "seed") tk', .int (List.foldl (fun a' n' => (a' * 157 + n').fmod 999917) 2930 (List.map (fun k' : Int => k'.fmod 999917) (List.take 24 ns))) ts)]))
    (hI : IntsAre ws (List.map (fun k' : Int => k'.fmod 999917) (List.take 24 ns)).reverse) : TapeO w T C o (W.listOf ws.toArray n) :=
  ⟨lo, _, _, ws, n, _, hd, fold_nonneg _ _ (by decide), rfl, hI, tape_len _, tape_nonneg _⟩
/-! ## the tape's objects ahead -/
section
variable {h₀ h : Heap} {L T C : Addr} {o oc : Obj} {x y z u v p : Addr × Obj} {r : List (Addr × Obj)}
theorem rot0' (N : News h₀ L h ((C, oc) :: (T, o) :: r)) : News h₀ L h ((T, o) :: (C, oc) :: r) := fun q hq => N q (by simp only [List.mem_cons] at hq ⊢; rcases hq with a | b | c; exact .inr (.inl a); exact .inl b; exact .inr (.inr c))
theorem rot1 (N : News h₀ L h (x :: (T, o) :: (C, oc) :: r)) : News h₀ L h ((T, o) :: (C, oc) :: x :: r) := fun q hq => N q (by simp only [List.mem_cons] at hq ⊢; rcases hq with a | b | c | d <;> simp_all)
theorem rot1' (N : News h₀ L h (x :: (C, oc) :: (T, o) :: r)) : News h₀ L h ((T, o) :: (C, oc) :: x :: r) := rot1 fun q hq => N q (by simp only [List.mem_cons] at hq ⊢; rcases hq with a | b | c | d <;> simp_all)
theorem rot2 (N : News h₀ L h (x :: y :: (T, o) :: (C, oc) :: r)) : News h₀ L h ((T, o) :: (C, oc) :: x :: y :: r) := fun q hq => N q (by simp only [List.mem_cons] at hq ⊢; rcases hq with a | b | c | d | e <;> simp_all)
theorem rot3 (N : News h₀ L h (x :: y :: z :: (T, o) :: (C, oc) :: r)) : News h₀ L h ((T, o) :: (C, oc) :: x :: y :: z :: r) := fun q hq => N q (by simp only [List.mem_cons] at hq ⊢; rcases hq with a | b | c | d | e | f <;> simp_all)
theorem rot4 (N : News h₀ L h (x :: y :: z :: u :: (T, o) :: (C, oc) :: r)) : News h₀ L h ((T, o) :: (C, oc) :: x :: y :: z :: u :: r) := fun q hq => N q (by simp only [List.mem_cons] at hq ⊢; rcases hq with a | b | c | d | e | f | g <;> simp_all)
theorem rot5 (N : News h₀ L h (x :: y :: z :: u :: v :: (T, o) :: (C, oc) :: r)) : News h₀ L h ((T, o) :: (C, oc) :: x :: y :: z :: u :: v :: r) := fun q hq => N q (by simp only [List.mem_cons] at hq ⊢; rcases hq with a | b | c | d | e | f | g | i <;> simp_all)
theorem rot6 (N : News h₀ L h (x :: y :: z :: u :: v :: p :: (T, o) :: (C, oc) :: r)) : News h₀ L h ((T, o) :: (C, oc) :: x :: y :: z :: u :: v :: p :: r) := fun q hq => N q (by simp only [List.mem_cons] at hq ⊢; rcases hq with a | b | c | d | e | f | g | i | j <;> simp_all)
end
/-! ## an item of a written list by a draw -/
section
variable {prog : Program} {w : World} {A : Around} {E : Value → Shared → Prop} {s : Shared} {value slice : PySem.Expr} {a : Addr} {vs : List Value} {i : Int} {u : Tok} {Q : Value → Shared → Prop}
theorem pick_nat (xs : List Nat) (lo hi : Nat) (hl : s.heap.IsList a vs.toArray) (hv : IntsAre vs (xs.map fun x : Nat => (x : Int))) (hb : (xs.all fun x => decide (lo ≤ x ∧ x ≤ hi)) = true) (h0 : 0 ≤ i) (h1 : i < (xs.length : Int)) (h2 : (xs.length : Int) < 100)
    (h : ∀ (x : Nat) t, lo ≤ x → x ≤ hi → Q (.int x t) s)
    (hs : subscripted slice false (.ref a) (.int i u) = operate [.ref a, .int i u] (getItem (.ref a) (.int i u)) := by with_unfolding_all rfl) (hg : ∀ r, letTemporaryGo value (.ref a) r = pure () := by intro _; with_unfolding_all rfl) :
    wpAny (model prog w) A (subscriptTail value slice (.ref a) (.int i u)) Q E s := by
  have hlt : i.toNat < xs.length := by omega
  obtain ⟨t, ht⟩ := hv.get i.toNat ((xs[i.toNat] : Nat) : Int) (by rw [List.getElem?_map, List.getElem?_eq_getElem hlt]; rfl)
  have hm := List.all_eq_true.mp hb _ (List.getElem_mem hlt)
  rw [decide_eq_true_eq] at hm
  exact item_listL hl h0 (by omega) ht (h _ t hm.1 hm.2) hs hg
theorem pick_int (ns : List Int) (hl : s.heap.IsList a vs.toArray) (hv : IntsAre vs ns) (h0 : 0 ≤ i) (h1 : i < (ns.length : Int)) (h2 : (ns.length : Int) < 100)
    (h : ∀ t, Q (.int (ns.getD i.toNat 0) t) s)
    (hs : subscripted slice false (.ref a) (.int i u) = operate [.ref a, .int i u] (getItem (.ref a) (.int i u)) := by with_unfolding_all rfl) (hg : ∀ r, letTemporaryGo value (.ref a) r = pure () := by intro _; with_unfolding_all rfl) :
    wpAny (model prog w) A (subscriptTail value slice (.ref a) (.int i u)) Q E s := by
  have hlt : i.toNat < ns.length := by omega
  obtain ⟨t, ht⟩ := hv.get i.toNat (ns.getD i.toNat 0) (by rw [List.getD_eq_getElem?_getD, List.getElem?_eq_getElem hlt]; rfl)
  exact item_listL hl h0 (by omega) ht (h t) hs hg
theorem pick_bytes {ls : List (List UInt8)} {ts : List Tok} (hl : s.heap.IsList a vs.toArray) (hv : vs = List.zipWith (fun l t => Value.bytes l.toArray t) ls ts) (hn : ls.length = ts.length) (h0 : 0 ≤ i) (h1 : i < (ls.length : Int)) (h2 : (ls.length : Int) < 100) (hb : ∀ l ∈ ls, l.length ≤ 3)
    (h : ∀ (l : List UInt8) t, l.length ≤ 3 → Q (.bytes l.toArray t) s)
    (hs : subscripted slice false (.ref a) (.int i u) = operate [.ref a, .int i u] (getItem (.ref a) (.int i u)) := by with_unfolding_all rfl) (hg : ∀ r, letTemporaryGo value (.ref a) r = pure () := by intro _; with_unfolding_all rfl) :
    wpAny (model prog w) A (subscriptTail value slice (.ref a) (.int i u)) Q E s := by
  have hlt : i.toNat < ls.length := by omega
  have hlt' : i.toNat < ts.length := by omega
  have ht : vs[i.toNat]? = some (Value.bytes (ls[i.toNat]).toArray ts[i.toNat]) := by
    rw [hv, List.getElem?_zipWith, List.getElem?_eq_getElem hlt, List.getElem?_eq_getElem hlt']
  exact item_listL hl h0 (by omega) ht (h _ _ (hb _ (List.getElem_mem hlt))) hs hg
end
end Mine

namespace Mine
theorem off15 : True := by w_top off; trivial
open PySem.Calls
local macro_rules | `(tactic| k_extra "exc") => `(tactic| (intro C9 c9 x9 tx9 e9 d9 k9 G9 h9 tk9 X9 F9 R9 c9' U9; obtain ⟨eC9, nn9⟩ := X9; subst eC9; clear c9'; (try dsimp only)))
local macro_rules | `(tactic| k_extra "pr") => `(tactic| (iterate 14 first | done | assumption | apply And.right))
local macro_rules | `(tactic| k_extra "pj") => `(tactic| first | (k_extra "pr"; done) | (apply And.left; k_extra "pr"; done))
local macro_rules | `(tactic| k_ne) => `(tactic| (refine neN ?_; (try dsimp only); with_reducible first | k_extra "pj" | (apply Nat.ne_of_lt; k_extra "pj") | (apply Nat.ne_of_gt; k_extra "pj") | (apply Ne.symm; k_extra "pj")))
local macro_rules | `(tactic| walk_at "exec Raise some none") => `(tactic| (k_here; refine raise_own rfl ?_))
local macro_rules | `(tactic| walk_at "call ref") => `(tactic| (k_here; k_dflt (refine' exc_made ?k1 ?k2 ?k3 ?k4 ?k5 ?k6 ?k7 ?k8 ?k9 ?k10 ?k11 ?k12 ?k13 ?_; (case k1 => k_asm); (case k2 => k_asm); (case k3 => k_asm); (case k4 => k_asm); (case k5 => k_asm); (case k6 => exact rfl); (case k7 => exact rfl); (case k8 => exact rfl); (case k9 => first | ktr_room | (dsimp only [Around.mark, Around.deeper, topA]; omega)); (case k10 => first | exact exc69 _ | exact exc45 _ | exact exc57 _); (case k11 => k_is); (case k12 => k_is); (case k13 => k_is); k_whole); intro e9 t9 d9 k9 tk9 h9 F9 N9 l9 l10 l11; (try k_sweep); (have ne9 := ne_of_lts N9 l9 l10 l11)))
local macro_rules | `(tactic| walk_at "RaisableO") => `(tactic| (k_here; k_dflt (refine raisableO_of (by assumption) (by assumption) (by assumption) (by first | exact exc69 _ | exact exc45 _ | exact exc57 _) ?_)))
local macro_rules | `(tactic| walk_at "leaving ref") => `(tactic| (k_here; k_dflt (refine leave_first (by assumption) (by assumption) (by assumption) rfl rfl rfl rfl rfl rfl (by assumption) ?_ rfl); intro h8 R8 U8))
local macro_rules | `(tactic| walk_at "exec") => `(tactic| (k_here; (with_reducible show wpAny _ _ (exec (Stmt.While _ _ _ _) _) _ _ _); k_dflt (k_extra "whl")))
local macro_rules | `(tactic| walk_at "binaryOp LShift int int") => `(tactic| (k_here; k_dflt (refine lshift_int (by first | decide | k_extra "shl0") (by k_extra "shl") ?_)))

local macro_rules | `(tactic| walk_at "subscriptTail") => `(tactic| (k_here; (with_reducible show wpAny _ _ (subscriptTail _ _ (Value.bytes (List.toArray _) _) (Value.ref _)) _ _ _); (with_reducible rename Fr _ _ _ _ => F'); (with_reducible rename News _ _ _ _ => N'); (refine cut_K (s := ⟨_, _, _, _, _⟩) F' N' (by constructor) (by constructor) ?hz ?_); (case hz => omega); intro h' t' k' F' N' cut9; (try k_sweep)))
local macro_rules | `(tactic| k_mem) => `(tactic| assumption)
set_option maxHeartbeats 8000000 in
theorem spec_at_offset (w : World) (l : List UInt8) (t1 t2 : Tok) (at0 : Nat) (hl : l.length < 4096) (h0 : at0 ≤ l.length) (news : List (Addr × Obj)) :
    Spec w 97 [.bytes l.toArray t1, .int at0 t2] news 4
      (fun v news' => ∃ n k : Nat, ∃ D ta tb c, offP (l.drop at0) 0 at0 = some (n, k) ∧ v = .ref D ∧ news' = (D, ({ cls := .type "tuple", data := .seq #[.int n ta, .int k tb] c } : Obj)) :: news ∧ ∀ p ∈ news, p.1 < D)
      (fun C => C = 69 ∧ offP (l.drop at0) 0 at0 = none) := by
  unfold Spec
  k_fill
  intro mean mg mb dp un gd cn cs a ccd outer A₀ base h₀ L m s Q E B F X N T XB TB D hk hd hu hret hexc
  refine wpAny_call ?_
  k_dflt ktr_enter
  k_with_none
  k_with "whl" => k_while (fun _ number at_ => (0 ≤ at_ ∧ at_ ≤ l.length) ∧ OffInv l at0 number at_) (fun _ number at_ => l.length - at_.toNat) "number" "at"
  k_with "state" => first | exact ⟨by omega, off_start h0⟩ | exact ⟨by simp only [List.size_toArray] at *; omega, off_turn (by assumption) (by assumption) (by assumption)⟩
  k_with "shl" => exact off_bits (by assumption) hl
  k_steps
  · rename Flown _ _ _ _ _ _ _ _ _ => R8
    exact hexc 69 _ _ _ _ _ _ _ _ _ ⟨rfl, off_none (by assumption) (by assumption)⟩ (by assumption) (R8.sub told_sub) ⟨(fun h => by cases h), (fun h => by cases h)⟩ (by assumption)
  · rename OffInv _ _ _ _ => I8
    obtain ⟨n, k, e1, e2, e3⟩ := off_end I8 (by assumption) (by assumption)
    rename News h₀ L _ _ => N8
    rename Fr h₀ L _ m => F8
    rw [e2, e3] at N8
    exact hret _ _ _ _ ⟨n, k, _, _, _, _, e1, rfl, rfl, by assumption⟩ F8 N8
end Mine

namespace Mine
theorem off16 : True := by w_top off; trivial
open PySem.Calls
local macro_rules | `(tactic| k_extra "exc") => `(tactic| (intro C9 c9 x9 tx9 e9 d9 k9 G9 h9 tk9 X9 F9 R9 c9' U9; obtain ⟨eC9, nn9⟩ := X9; subst eC9; clear c9'; (try dsimp only)))
local macro_rules | `(tactic| k_extra "pr") => `(tactic| (iterate 14 first | done | assumption | apply And.right))
local macro_rules | `(tactic| k_extra "pj") => `(tactic| first | (k_extra "pr"; done) | (apply And.left; k_extra "pr"; done))
local macro_rules | `(tactic| k_ne) => `(tactic| (refine neN ?_; (try dsimp only); with_reducible first | k_extra "pj" | (apply Nat.ne_of_lt; k_extra "pj") | (apply Nat.ne_of_gt; k_extra "pj") | (apply Ne.symm; k_extra "pj")))
local macro_rules | `(tactic| walk_at "pad") => `(tactic| fail)
local macro_rules | `(tactic| walk_at "exec Raise some none") => `(tactic| (k_here; refine raise_own rfl ?_))
local macro_rules | `(tactic| walk_at "call ref") => `(tactic| (k_here; k_dflt (refine' exc_made ?k1 ?k2 ?k3 ?k4 ?k5 ?k6 ?k7 ?k8 ?k9 ?k10 ?k11 ?k12 ?k13 ?_; (case k1 => k_asm); (case k2 => k_asm); (case k3 => k_asm); (case k4 => k_asm); (case k5 => k_asm); (case k6 => exact rfl); (case k7 => exact rfl); (case k8 => exact rfl); (case k9 => first | ktr_room | (dsimp only [Around.mark, Around.deeper, topA]; omega)); (case k10 => first | exact exc69 _ | exact exc45 _ | exact exc57 _); (case k11 => k_is); (case k12 => k_is); (case k13 => k_is); k_whole); intro e9 t9 d9 k9 tk9 h9 F9 N9 l9 l10 l11; (try k_sweep); (have ne9 := ne_of_lts N9 l9 l10 l11)))
local macro_rules | `(tactic| walk_at "RaisableO") => `(tactic| (k_here; k_dflt (refine raisableO_of (by assumption) (by assumption) (by assumption) (by first | exact exc69 _ | exact exc45 _ | exact exc57 _) ?_)))
local macro_rules | `(tactic| walk_at "leaving ref") => `(tactic| (k_here; k_dflt (refine leave_first (by assumption) (by assumption) (by assumption) rfl rfl rfl rfl rfl rfl (by assumption) ?_ rfl); intro h8 R8 U8))
local macro_rules | `(tactic| walk_at "exec") => `(tactic| (k_here; (with_reducible show wpAny _ _ (exec (Stmt.While _ _ _ _) _) _ _ _); k_dflt (k_extra "whl")))
local macro_rules | `(tactic| walk_at "binaryOp LShift int int") => `(tactic| (k_here; k_dflt (refine lshift_int (by first | decide | k_extra "shl0") (by k_extra "shl") ?_)))

local macro_rules | `(tactic| walk_at "subscriptTail") => `(tactic| (k_here; (with_reducible show wpAny _ _ (subscriptTail _ _ (Value.bytes (List.toArray _) _) (Value.ref _)) _ _ _); (with_reducible rename Fr _ _ _ _ => F'); (with_reducible rename News _ _ _ _ => N'); (refine cut_K (s := ⟨_, _, _, _, _⟩) F' N' (by constructor) (by constructor) ?hz ?_); (case hz => omega); intro h' t' k' F' N' cut9; (try k_sweep)))
local macro_rules | `(tactic| k_mem) => `(tactic| assumption)
set_option maxHeartbeats 8000000 in
theorem spec_at_size (w : World) (l : List UInt8) (t1 t2 : Tok) (at0 : Nat) (hl : l.length < 4096) (h0 : at0 ≤ l.length) (news : List (Addr × Obj)) :
    Spec w 90 [.bytes l.toArray t1, .int at0 t2] news 4
      (fun v news' => ∃ n k : Nat, ∃ D ta tb c, sizeP (l.drop at0) 0 0 at0 = some (n, k) ∧ v = .ref D ∧ news' = (D, ({ cls := .type "tuple", data := .seq #[.int n ta, .int k tb] c } : Obj)) :: news ∧ ∀ p ∈ news, p.1 < D)
      (fun C => C = 57 ∧ sizeP (l.drop at0) 0 0 at0 = none) := by
  unfold Spec
  k_fill
  intro mean mg mb dp un gd cn cs a ccd outer A₀ base h₀ L m s Q E B F X N T XB TB D hk hd hu hret hexc
  refine wpAny_call ?_
  k_dflt ktr_enter
  k_with_none
  k_with "whl" => k_while (fun _ number shift at_ => (0 ≤ at_ ∧ at_ ≤ l.length) ∧ SizeInv l at0 number shift at_) (fun _ number shift at_ => l.length - at_.toNat) "number" "shift" "at"
  k_with "state" => first | exact ⟨by omega, size_start h0⟩ | exact ⟨by simp only [List.size_toArray] at *; omega, size_turn (by assumption) (by assumption) (by assumption)⟩
  k_with "shl" => exact size_bits (by assumption) hl _
  k_with "shl0" => exact shift_nonneg (by assumption)
  k_steps
  · rename Flown _ _ _ _ _ _ _ _ _ => R8
    exact hexc 57 _ _ _ _ _ _ _ _ _ ⟨rfl, size_none (by assumption) (by assumption)⟩ (by assumption) (R8.sub told_sub) ⟨(fun _ => rfl), (fun h => by cases h)⟩ (by assumption)
  · rename SizeInv _ _ _ _ _ => I8
    obtain ⟨n, k, e1, e2, e3⟩ := size_end I8 (by assumption) (by assumption)
    rename News h₀ L _ _ => N8
    rename Fr h₀ L _ m => F8
    rw [e2, e3] at N8
    exact hret _ _ _ _ ⟨n, k, _, _, _, _, e1, rfl, rfl, by assumption⟩ F8 N8
end Mine

namespace Mine
theorem off17 : True := by w_top off; trivial
open PySem.Calls
local macro_rules | `(tactic| k_extra "exc") => `(tactic| (intro C9 c9 x9 tx9 e9 d9 k9 G9 h9 tk9 X9 F9 R9 c9' U9; obtain ⟨eC9, nn9⟩ := X9; subst eC9; clear c9'; (try dsimp only)))
local macro_rules | `(tactic| k_extra "pr") => `(tactic| (iterate 14 first | done | assumption | apply And.right))
local macro_rules | `(tactic| k_extra "pj") => `(tactic| first | (k_extra "pr"; done) | (apply And.left; k_extra "pr"; done))
local macro_rules | `(tactic| k_ne) => `(tactic| (refine neN ?_; (try dsimp only); with_reducible first | k_extra "pj" | (apply Nat.ne_of_lt; k_extra "pj") | (apply Nat.ne_of_gt; k_extra "pj") | (apply Ne.symm; k_extra "pj")))
local macro_rules | `(tactic| walk_at "exec Raise some none") => `(tactic| (k_here; refine raise_own rfl ?_))
local macro_rules | `(tactic| walk_at "call ref") => `(tactic| (k_here; k_dflt (refine' exc_made ?k1 ?k2 ?k3 ?k4 ?k5 ?k6 ?k7 ?k8 ?k9 ?k10 ?k11 ?k12 ?k13 ?_; (case k1 => k_asm); (case k2 => k_asm); (case k3 => k_asm); (case k4 => k_asm); (case k5 => k_asm); (case k6 => exact rfl); (case k7 => exact rfl); (case k8 => exact rfl); (case k9 => first | ktr_room | (dsimp only [Around.mark, Around.deeper, topA]; omega)); (case k10 => first | exact exc69 _ | exact exc45 _ | exact exc57 _); (case k11 => k_is); (case k12 => k_is); (case k13 => k_is); k_whole); intro e9 t9 d9 k9 tk9 h9 F9 N9 l9 l10 l11; (try k_sweep); (have ne9 := ne_of_lts N9 l9 l10 l11)))
local macro_rules | `(tactic| walk_at "RaisableO") => `(tactic| (k_here; k_dflt (refine raisableO_of (by assumption) (by assumption) (by assumption) (by first | exact exc69 _ | exact exc45 _ | exact exc57 _) ?_)))
local macro_rules | `(tactic| walk_at "leaving ref") => `(tactic| (k_here; k_dflt (refine leave_first (by assumption) (by assumption) (by assumption) rfl rfl rfl rfl rfl rfl (by assumption) ?_ rfl); intro h8 R8 U8))
local macro_rules | `(tactic| walk_at "exec") => `(tactic| (k_here; (with_reducible show wpAny _ _ (exec (Stmt.While _ _ _ _) _) _ _ _); k_dflt (k_extra "whl")))
local macro_rules | `(tactic| walk_at "binaryOp LShift int int") => `(tactic| (k_here; k_dflt (refine lshift_int (by first | decide | k_extra "shl0") (by k_extra "shl") ?_)))

local macro_rules | `(tactic| walk_at "subscriptTail") => `(tactic| (k_here; (with_reducible show wpAny _ _ (subscriptTail _ _ (Value.bytes (List.toArray _) _) (Value.ref _)) _ _ _); (with_reducible rename Fr _ _ _ _ => F'); (with_reducible rename News _ _ _ _ => N'); (refine cut_K (s := ⟨_, _, _, _, _⟩) F' N' (by constructor) (by constructor) ?hz ?_); (case hz => omega); intro h' t' k' F' N' cut9; (try k_sweep)))
local macro_rules | `(tactic| k_mem) => `(tactic| assumption)
local macro_rules | `(tactic| walk_at "compareOp NotIn int ref") => `(tactic| (k_here; k_dflt (refine notin_kinds (by assumption) (by assumption) ?_)))
local macro_rules | `(tactic| walk_at "exec While BinOp") => `(tactic| (k_here; (with_reducible show wpAny _ _ (exec (Stmt.While _ _ _ _) _) _ _ _); k_dflt (k_extra "whl")))
set_option maxHeartbeats 8000000 in
theorem spec_at_head (w : World) (l : List UInt8) (t1 t2 : Tok) (at0 : Nat) (hl : l.length < 4096) (h0 : at0 ≤ l.length) (news : List (Addr × Obj)) :
    Spec w 134 [.bytes l.toArray t1, .int at0 t2] news 4
      (fun v news' => ∃ n s k : Nat, ∃ D ta tb tc c, headP l at0 = some (n, s, k) ∧ v = .ref D ∧ news' = (D, ({ cls := .type "tuple", data := .seq #[.int n ta, .int s tb, .int k tc] c } : Obj)) :: news ∧ ∀ p ∈ news, p.1 < D)
      (fun C => C = 69 ∧ headP l at0 = none) := by
  unfold Spec
  k_fill
  intro mean mg mb dp un gd cn cs a ccd outer A₀ base h₀ L m s Q E B F X N T XB TB D hk hd hu hret hexc
  refine wpAny_call ?_
  k_dflt ktr_enter
  k_with_none
  k_with "whl" => k_while (fun _ piece size shift at_ => (0 ≤ at_ ∧ at_ ≤ l.length) ∧ HeadInv l at0 piece size shift at_) (fun _ piece size shift at_ => l.length - at_.toNat) "piece" "size" "shift" "at"
  k_with "state" => first | exact ⟨by simp only [List.size_toArray] at *; omega, head_start (by simp only [List.size_toArray] at *; omega)⟩ | exact ⟨by simp only [List.size_toArray] at *; omega, head_num (by assumption) (by assumption) (by assumption)⟩
  k_with "shl" => exact head_bits (by assumption) hl _
  k_with "shl0" => exact head_nonneg (by assumption)
  k_steps
  · rename Flown _ _ _ _ _ _ _ _ _ => R8
    exact hexc 69 _ _ _ _ _ _ _ _ _ ⟨rfl, headP_far (by assumption)⟩ (by assumption) (R8.sub told_sub) ⟨(fun h => by cases h), (fun h => by cases h)⟩ (by assumption)
  · rename Flown _ _ _ _ _ _ _ _ _ => R8
    exact hexc 69 _ _ _ _ _ _ _ _ _ ⟨rfl, headP_cut (by assumption) (by assumption) (by assumption)⟩ (by assumption) (R8.sub told_sub) ⟨(fun h => by cases h), (fun h => by cases h)⟩ (by assumption)
  · rename HeadInv _ _ _ _ _ _ => I8
    obtain ⟨n, k, sz, e1, e2, e3, e4⟩ := headP_yes I8 (by assumption) (by assumption) (.inl (by assumption))
    rename News h₀ L _ _ => N8
    rename Fr h₀ L _ m => F8
    unfold kindX at e2
    rw [e2, e3, e4] at N8
    exact hret _ _ _ _ ⟨n, k, sz, _, _, _, _, _, e1, rfl, rfl, by assumption⟩ F8 N8
  · rename Flown _ _ _ _ _ _ _ _ _ => R8
    exact hexc 69 _ _ _ _ _ _ _ _ _ ⟨rfl, headP_no (by assumption) (by assumption) (by assumption) (by assumption) (by assumption)⟩ (by assumption) (R8.sub told_sub) ⟨(fun h => by cases h), (fun h => by cases h)⟩ (by assumption)
  · rename HeadInv _ _ _ _ _ _ => I8
    obtain ⟨n, k, sz, e1, e2, e3, e4⟩ := headP_yes I8 (by assumption) (by assumption) (.inr (.inr (by assumption)))
    rename News h₀ L _ _ => N8
    rename Fr h₀ L _ m => F8
    unfold kindX at e2
    rw [e2, e3, e4] at N8
    exact hret _ _ _ _ ⟨n, k, sz, _, _, _, _, _, e1, rfl, rfl, by assumption⟩ F8 N8
  · rename HeadInv _ _ _ _ _ _ => I8
    obtain ⟨n, k, sz, e1, e2, e3, e4⟩ := headP_yes I8 (by assumption) (by assumption) (.inr (.inl (by assumption)))
    rename News h₀ L _ _ => N8
    rename Fr h₀ L _ m => F8
    unfold kindX at e2
    rw [e2, e3, e4] at N8
    exact hret _ _ _ _ ⟨n, k, sz, _, _, _, _, _, e1, rfl, rfl, by assumption⟩ F8 N8
end Mine

namespace Mine
theorem off18 : True := by w_top off; trivial
open PySem.Calls
local macro_rules | `(tactic| k_extra "exc") => `(tactic| (intro C9 c9 x9 tx9 e9 d9 k9 G9 h9 tk9 X9 F9 R9 c9' U9; obtain ⟨eC9, nn9⟩ := X9; subst eC9; clear c9'; (try dsimp only)))
local macro_rules | `(tactic| k_extra "pr") => `(tactic| (iterate 14 first | done | assumption | apply And.right))
local macro_rules | `(tactic| k_extra "pj") => `(tactic| first | (k_extra "pr"; done) | (apply And.left; k_extra "pr"; done))
local macro_rules | `(tactic| k_ne) => `(tactic| (refine neN ?_; (try dsimp only); with_reducible first | k_extra "pj" | (apply Nat.ne_of_lt; k_extra "pj") | (apply Nat.ne_of_gt; k_extra "pj") | (apply Ne.symm; k_extra "pj")))
local macro_rules | `(tactic| walk_at "exec Raise some none") => `(tactic| (k_here; refine raise_own rfl ?_))
local macro_rules | `(tactic| walk_at "call ref") => `(tactic| (k_here; k_dflt (refine' exc_made ?k1 ?k2 ?k3 ?k4 ?k5 ?k6 ?k7 ?k8 ?k9 ?k10 ?k11 ?k12 ?k13 ?_; (case k1 => k_asm); (case k2 => k_asm); (case k3 => k_asm); (case k4 => k_asm); (case k5 => k_asm); (case k6 => exact rfl); (case k7 => exact rfl); (case k8 => exact rfl); (case k9 => first | ktr_room | (dsimp only [Around.mark, Around.deeper, topA]; omega)); (case k10 => first | exact exc69 _ | exact exc45 _ | exact exc57 _); (case k11 => k_is); (case k12 => k_is); (case k13 => k_is); k_whole); intro e9 t9 d9 k9 tk9 h9 F9 N9 l9 l10 l11; (try k_sweep); (have ne9 := ne_of_lts N9 l9 l10 l11)))
local macro_rules | `(tactic| walk_at "RaisableO") => `(tactic| (k_here; k_dflt (refine raisableO_of (by assumption) (by assumption) (by assumption) (by first | exact exc69 _ | exact exc45 _ | exact exc57 _) ?_)))
local macro_rules | `(tactic| walk_at "leaving ref") => `(tactic| (k_here; k_dflt (refine leave_first (by assumption) (by assumption) (by assumption) rfl rfl rfl rfl rfl rfl (by assumption) ?_ rfl); intro h8 R8 U8))
local macro_rules | `(tactic| walk_at "exec") => `(tactic| (k_here; (with_reducible show wpAny _ _ (exec (Stmt.While _ _ _ _) _) _ _ _); k_dflt (k_extra "whl")))
local macro_rules | `(tactic| walk_at "binaryOp LShift int int") => `(tactic| (k_here; k_dflt (refine lshift_int (by first | decide | k_extra "shl0") (by k_extra "shl") ?_)))

local macro_rules | `(tactic| walk_at "subscriptTail") => `(tactic| (k_here; (with_reducible show wpAny _ _ (subscriptTail _ _ (Value.bytes (List.toArray _) _) (Value.ref _)) _ _ _); (with_reducible rename Fr _ _ _ _ => F'); (with_reducible rename News _ _ _ _ => N'); (refine cut_K (s := ⟨_, _, _, _, _⟩) F' N' (by constructor) (by constructor) ?hz ?_); (case hz => omega); intro h' t' k' F' N' cut9; (try k_sweep)))
local macro_rules | `(tactic| k_mem) => `(tactic| assumption)
local macro_rules | `(tactic| walk_at "call ref") => `(tactic| (k_here; k_dflt (refine' Spec.go ?_ ?_ (S := spec_at_size _ _ _ _ _ (by assumption) (by assumption) _)); (all_goals first | (intro v9 n9 h9 tk9 R9 F9 N9; obtain ⟨n9', k9', D9, ta9, tb9, c9, e9, ev9, en9, lt9⟩ := R9; subst ev9; subst en9; (try dsimp only)) | (intro C9 c9 x9 tx9 e9 d9 k9 G9 h9 tk9 X9 F9 R9 c9' U9; obtain ⟨eC9, nn9⟩ := X9; subst eC9; (have ec9 := c9'.1 rfl); subst ec9; clear c9'; (try dsimp only)))))
local macro_rules | `(tactic| walk_at "noteFrame ref") => `(tactic| (k_here; k_dflt (refine' look_X ?R ?K ?U ?_; (case R => assumption); (case K => assumption); (case U => assumption)); intro h7 R7 U7; (try dsimp only at R7 U7 ⊢)))
local macro_rules | `(tactic| walk_at "handleBy ref") => `(tactic| (k_here; k_dflt (refine' hit_X0 ?R ?F ?K ?U ?XB ?TB ?D ?T0 ?T ?_ ?hE; (case R => assumption); (case F => assumption); (case K => assumption); (case U => assumption); (case XB => assumption); (case TB => assumption); (case D => assumption); (case T0 => exact KtsTurn.refl); (case T => kts_test); (case hE => passes_own)); intro h' g' oe' vs' T' F' N' ec' ed' ef' ev' K' X' P' D'; (try k_sweep)))
local macro_rules | `(tactic| walk_at "exec Raise some none") => `(tactic| (k_here; k_dflt (refine raise_ctx rfl ?_)))
local macro_rules | `(tactic| walk_at "Chained") => `(tactic| (k_here; k_dflt (refine' chained_of ?F ?N ?x ?d ?c ?n ?_; (case F => assumption); (case N => assumption); (case x => k_mem); (case d => assumption); (case c => assumption); (case n => assumption)); intro h' F' N'; (try k_sweep)))
set_option maxHeartbeats 8000000 in
theorem spec_unpack (w : World) (l : List UInt8) (sf : Value) (t1 t2 : Tok) (at0 : Nat) (hl : l.length < 4096) (h0 : at0 ≤ l.length) (news : List (Addr × Obj)) :
    Spec w 198 [sf, .bytes l.toArray t1, .int at0 t2] news 8
      (fun v news' => ∃ b : List UInt8, ∃ k : Nat, ∃ D ta tb c, unP l at0 = some (b, k) ∧ v = .ref D ∧ news' = (D, ({ cls := .type "tuple", data := .seq #[.bytes b.toArray ta, .int k tb] c } : Obj)) :: news ∧ ∀ p ∈ news, p.1 < D)
      (fun C => C = 45 ∧ unP l at0 = none) := by
  unfold Spec
  k_fill
  intro mean mg mb dp un gd cn cs a ccd outer A₀ base h₀ L m s Q E B F X N T XB TB D hk hd hu hret hexc
  refine wpAny_call ?_
  k_dflt (refine' code_defS ?k1 ?k2 ?k3 ?k4 ?k5 ?XB ?TB ?D ?T0 ?kA ?k6 ?k7 ?k8 ?k9 ?kB ?_ ?cK ?c2 ?c3 ?c4 ?c5; (case kA => exact rfl); (case k2 => k_asm); (case k1 => k_asm); (case XB => assumption); (case TB => assumption); (case D => assumption); (case T0 => exact KtsTurn.refl); (case k3 => k_asm); (case k4 => k_asm); (case k5 => k_asm); (case k6 => k_is); (case k7 => k_is); (case k8 => ktr_room); (case k9 => first | exact binds_K (X.keeps F.keep) rfl (by k_is) rfl rfl rfl | exact BindsTo.of_eq rfl); (case kB => exact locs rfl); (case cK => assumption); (case c2 => exact rfl); (case c3 => exact rfl); (case c4 => exact rfl); (case c5 => decide); k_whole; intro g' L' h' FG' F' N' B' X' T' D'; (try dsimp only); (try k_fold))
  k_with_none
  k_steps
  · rename Flown _ _ _ _ _ _ _ _ _ => R8
    exact hexc 45 _ _ _ _ _ _ _ _ _ ⟨rfl, unP_far (by assumption) (by assumption)⟩ (by assumption) (R8.sub told_sub2) ⟨(fun h => by cases h), (fun _ => by decide)⟩ (by assumption)
  · rename sizeP _ _ _ _ = some _ => e8
    rename ¬ ((l.toArray.size : Int) < _) => f8
    rename News h₀ L _ _ => N8
    rename Fr h₀ L _ m => F8
    rename _ ∧ AllLt _ news => l8
    rw [cutL_mid f8] at N8
    exact hret _ _ _ _ ⟨_, _, _, _, _, _, unP_yes e8 f8, rfl, by rw [Int.natCast_add], ktn_ltOf l8.2⟩ F8 (news_drop2 N8)
  · rename Flown _ _ _ _ _ _ _ _ _ => R8
    rename KtsTurn _ g' _ => T8
    rename Heap.UpToSlots _ _ => U8
    exact hexc 45 _ _ _ _ _ _ _ _ _ ⟨rfl, unP_none (by assumption)⟩ FG' ((R8.turn T8).sub told_sub3) ⟨(fun h => by cases h), (fun _ => by decide)⟩ ((turn_up T8).trans U8)
end Mine

namespace Mine
theorem off19 : True := by w_top off; trivial
open PySem.Calls
local macro_rules | `(tactic| k_extra "exc") => `(tactic| (intro C9 c9 x9 tx9 e9 d9 k9 G9 h9 tk9 X9 F9 R9 c9' U9; obtain ⟨eC9, nn9⟩ := X9; subst eC9; clear c9'; (try dsimp only)))
local macro_rules | `(tactic| k_extra "pr") => `(tactic| (iterate 14 first | done | assumption | apply And.right))
local macro_rules | `(tactic| k_extra "pj") => `(tactic| first | (k_extra "pr"; done) | (apply And.left; k_extra "pr"; done))
local macro_rules | `(tactic| k_ne) => `(tactic| (refine neN ?_; (try dsimp only); with_reducible first | k_extra "pj" | (apply Nat.ne_of_lt; k_extra "pj") | (apply Nat.ne_of_gt; k_extra "pj") | (apply Ne.symm; k_extra "pj")))
local macro_rules | `(tactic| walk_at "exec Raise some none") => `(tactic| (k_here; refine raise_own rfl ?_))
local macro_rules | `(tactic| walk_at "call ref") => `(tactic| (k_here; k_dflt (refine' exc_made ?k1 ?k2 ?k3 ?k4 ?k5 ?k6 ?k7 ?k8 ?k9 ?k10 ?k11 ?k12 ?k13 ?_; (case k1 => k_asm); (case k2 => k_asm); (case k3 => k_asm); (case k4 => k_asm); (case k5 => k_asm); (case k6 => exact rfl); (case k7 => exact rfl); (case k8 => exact rfl); (case k9 => first | ktr_room | (dsimp only [Around.mark, Around.deeper, topA]; omega)); (case k10 => first | exact exc69 _ | exact exc45 _ | exact exc57 _); (case k11 => k_is); (case k12 => k_is); (case k13 => k_is); k_whole); intro e9 t9 d9 k9 tk9 h9 F9 N9 l9 l10 l11; (try k_sweep); (have ne9 := ne_of_lts N9 l9 l10 l11)))
local macro_rules | `(tactic| walk_at "RaisableO") => `(tactic| (k_here; k_dflt (refine raisableO_of (by assumption) (by assumption) (by assumption) (by first | exact exc69 _ | exact exc45 _ | exact exc57 _) ?_)))
local macro_rules | `(tactic| walk_at "leaving ref") => `(tactic| (k_here; k_dflt (refine leave_first (by assumption) (by assumption) (by assumption) rfl rfl rfl rfl rfl rfl (by assumption) ?_ rfl); intro h8 R8 U8))
local macro_rules | `(tactic| walk_at "exec") => `(tactic| (k_here; (with_reducible show wpAny _ _ (exec (Stmt.While _ _ _ _) _) _ _ _); k_dflt (k_extra "whl")))
local macro_rules | `(tactic| walk_at "binaryOp LShift int int") => `(tactic| (k_here; k_dflt (refine lshift_int (by first | decide | k_extra "shl0") (by k_extra "shl") ?_)))

local macro_rules | `(tactic| walk_at "subscriptTail") => `(tactic| (k_here; (with_reducible show wpAny _ _ (subscriptTail _ _ (Value.bytes (List.toArray _) _) (Value.ref _)) _ _ _); (with_reducible rename Fr _ _ _ _ => F'); (with_reducible rename News _ _ _ _ => N'); (refine cut_K (s := ⟨_, _, _, _, _⟩) F' N' (by constructor) (by constructor) ?hz ?_); (case hz => omega); intro h' t' k' F' N' cut9; (try k_sweep)))
local macro_rules | `(tactic| k_mem) => `(tactic| assumption)
local macro_rules | `(tactic| walk_at "call ref") => `(tactic| (k_here; k_dflt (refine' Spec.go ?_ ?_ (S := spec_unpack _ _ _ _ _ _ (by assumption) (by assumption) _)); (all_goals first | (intro v9 n9 h9 tk9 R9 F9 N9; obtain ⟨n9', k9', D9, ta9, tb9, c9, e9, ev9, en9, lt9⟩ := R9; subst ev9; subst en9; (try dsimp only)) | (intro C9 c9 x9 tx9 e9 d9 k9 G9 h9 tk9 X9 F9 R9 c9' U9; obtain ⟨eC9, nn9⟩ := X9; subst eC9; (have ec9 := c9'.2 rfl); clear c9'; (try dsimp only)))))
local macro_rules | `(tactic| walk_at "noteFrame ref") => `(tactic| (k_here; k_dflt (refine' look_X ?R ?K ?U ?_; (case R => assumption); (case K => assumption); (case U => assumption)); intro h7 R7 U7; (try dsimp only at R7 U7 ⊢)))
local macro_rules | `(tactic| walk_at "handleBy ref") => `(tactic| (k_here; k_dflt (refine' hit_XB ?R ?F ?K ?U ?XB ?TB ?D ?T0 ?T ?_ ?hk ?hlo; (case R => assumption); (case F => assumption); (case K => assumption); (case U => assumption); (case XB => assumption); (case TB => assumption); (case D => assumption); (case T0 => exact KtsTurn.refl); (case T => kts_test); (case hk => exact rfl); (case hlo => exact rfl)); intro h' g' oe' vs' tk' T' F' N' ec' ed' ef' ev' K' X' P' D'; (try k_sweep)))
local macro_rules | `(tactic| walk_at "getAttr ref") => `(tactic| (k_here; k_dflt (refine' exc_told ?F ?X ?N ?c ?d ?a ?h ?g1 ?g2 ?_; (case F => assumption); (case X => assumption); (case N => assumption); (case c => assumption); (case d => assumption); (case a => assumption); (case h => exact rfl); (case g1 => k_is); (case g2 => k_is))))
set_option maxHeartbeats 8000000 in
theorem spec_pack_unpacked (w : World) (l : List UInt8) (cx dx : Addr) (n0 : Nat) (t1 t2 : Tok) (at0 : Nat) (hl : l.length < 4096) (h0 : at0 ≤ l.length) (news : List (Addr × Obj)) (hc1 : (cx, instObj 201 dx) ∈ news) (hc2 : (dx, dictOf [] n0) ∈ news) :
    Spec w 169 [.ref cx, .bytes l.toArray t1, .int at0 t2] news 12
      (fun v news' => ∃ b : List UInt8, ∃ k : Nat, ∃ D ta tb c, unP l at0 = some (b, k) ∧ v = .ref D ∧ news' = (D, ({ cls := .type "tuple", data := .seq #[.bytes b.toArray ta, .int k tb] c } : Obj)) :: news ∧ ∀ p ∈ news, p.1 < D)
      (fun C => C = 69 ∧ unP l at0 = none) := by
  unfold Spec
  k_fill
  intro mean mg mb dp un gd cn cs a ccd outer A₀ base h₀ L m s Q E B F X N T XB TB D hk hd hu hret hexc
  refine wpAny_call ?_
  k_dflt (refine' code_defS ?k1 ?k2 ?k3 ?k4 ?k5 ?XB ?TB ?D ?T0 ?kA ?k6 ?k7 ?k8 ?k9 ?kB ?_ ?cK ?c2 ?c3 ?c4 ?c5; (case kA => exact rfl); (case k2 => k_asm); (case k1 => k_asm); (case XB => assumption); (case TB => assumption); (case D => assumption); (case T0 => exact KtsTurn.refl); (case k3 => k_asm); (case k4 => k_asm); (case k5 => k_asm); (case k6 => k_is); (case k7 => k_is); (case k8 => ktr_room); (case k9 => first | exact binds_K (X.keeps F.keep) rfl (by k_is) rfl rfl rfl | exact BindsTo.of_eq rfl); (case kB => exact locs rfl); (case cK => assumption); (case c2 => exact rfl); (case c3 => exact rfl); (case c4 => exact rfl); (case c5 => decide); k_whole; intro g' L' h' FG' F' N' B' X' T' D'; (try dsimp only); (try k_fold))
  k_with_none
  k_steps
  · rename News h₀ L _ _ => N8
    rename Fr h₀ L _ m => F8
    exact hret _ _ _ _ ⟨_, _, _, _, _, _, by assumption, rfl, rfl, by assumption⟩ F8 N8
  · rename Flown _ _ _ _ _ _ _ _ _ => R8
    rename KtsTurn _ g' _ => T8
    rename Heap.UpToSlots _ _ => U8
    exact hexc 69 _ _ _ _ _ _ _ _ _ ⟨rfl, by assumption⟩ FG' ((R8.turn T8).sub told_sub3) ⟨(fun h => by cases h), (fun h => by cases h)⟩ ((turn_up T8).trans U8)
end Mine

namespace Mine
theorem off20 : True := by w_top off; trivial
open PySem.Calls
local macro_rules | `(tactic| k_extra "exc") => `(tactic| (intro C9 c9 x9 tx9 e9 d9 k9 G9 h9 tk9 X9 F9 R9 c9' U9; obtain ⟨eC9, nn9⟩ := X9; subst eC9; clear c9'; (try dsimp only)))
local macro_rules | `(tactic| k_extra "pr") => `(tactic| (iterate 14 first | done | assumption | apply And.right))
local macro_rules | `(tactic| k_extra "pj") => `(tactic| first | (k_extra "pr"; done) | (apply And.left; k_extra "pr"; done))
local macro_rules | `(tactic| k_ne) => `(tactic| (refine neN ?_; (try dsimp only); with_reducible first | k_extra "pj" | (apply Nat.ne_of_lt; k_extra "pj") | (apply Nat.ne_of_gt; k_extra "pj") | (apply Ne.symm; k_extra "pj")))
local macro_rules | `(tactic| walk_at "exec Raise some none") => `(tactic| (k_here; refine raise_own rfl ?_))
local macro_rules | `(tactic| walk_at "call ref") => `(tactic| (k_here; k_dflt (refine' exc_made ?k1 ?k2 ?k3 ?k4 ?k5 ?k6 ?k7 ?k8 ?k9 ?k10 ?k11 ?k12 ?k13 ?_; (case k1 => k_asm); (case k2 => k_asm); (case k3 => k_asm); (case k4 => k_asm); (case k5 => k_asm); (case k6 => exact rfl); (case k7 => exact rfl); (case k8 => exact rfl); (case k9 => first | ktr_room | (dsimp only [Around.mark, Around.deeper, topA]; omega)); (case k10 => first | exact exc69 _ | exact exc45 _ | exact exc57 _); (case k11 => k_is); (case k12 => k_is); (case k13 => k_is); k_whole); intro e9 t9 d9 k9 tk9 h9 F9 N9 l9 l10 l11; (try k_sweep); (have ne9 := ne_of_lts N9 l9 l10 l11)))
local macro_rules | `(tactic| walk_at "RaisableO") => `(tactic| (k_here; k_dflt (refine raisableO_of (by assumption) (by assumption) (by assumption) (by first | exact exc69 _ | exact exc45 _ | exact exc57 _) ?_)))
local macro_rules | `(tactic| walk_at "leaving ref") => `(tactic| (k_here; k_dflt (refine leave_first (by assumption) (by assumption) (by assumption) rfl rfl rfl rfl rfl rfl (by assumption) ?_ rfl); intro h8 R8 U8))
local macro_rules | `(tactic| walk_at "exec") => `(tactic| (k_here; (with_reducible show wpAny _ _ (exec (Stmt.While _ _ _ _) _) _ _ _); k_dflt (k_extra "whl")))
local macro_rules | `(tactic| walk_at "binaryOp LShift int int") => `(tactic| (k_here; k_dflt (refine lshift_int (by first | decide | k_extra "shl0") (by k_extra "shl") ?_)))

local macro_rules | `(tactic| walk_at "subscriptTail") => `(tactic| (k_here; (with_reducible show wpAny _ _ (subscriptTail _ _ (Value.bytes (List.toArray _) _) (Value.ref _)) _ _ _); (with_reducible rename Fr _ _ _ _ => F'); (with_reducible rename News _ _ _ _ => N'); (refine cut_K (s := ⟨_, _, _, _, _⟩) F' N' (by constructor) (by constructor) ?hz ?_); (case hz => omega); intro h' t' k' F' N' cut9; (try k_sweep)))
local macro_rules | `(tactic| k_mem) => `(tactic| assumption)
/-! ## an entry as it stands -/
local macro_rules | `(tactic| k_all) => `(tactic| assumption)
theorem ne_lt1 {news : List (Addr × Obj)} {x d : Addr} {o : Obj} (l1 : ∀ p ∈ news, p.1 < d) (l2 : d < x) : (∀ p ∈ (d, o) :: news, p.1 ≠ x) ∧ (∀ p ∈ news, p.1 ≠ d) := ⟨fun p hp => by
  rcases List.mem_cons.mp hp with rfl | hp
  · exact Nat.ne_of_lt l2
  · exact Nat.ne_of_lt (Nat.lt_trans (l1 p hp) l2), fun p hp => Nat.ne_of_lt (l1 p hp)⟩
set_option maxHeartbeats 8000000 in
theorem scanned_made {w : World} {A A₀ : Around} {env : Env} {outer : List Env} {E Q : Value → Shared → Prop} {s : Shared} {base h₀ : Heap} {L : Addr} {m mg mb : Str → Option Value} {mean : ExcName → Option Value} {news : List (Addr × Obj)} {v1 v2 v3 v4 v5 v6 v7 : Value}
    (B : Below A₀ base outer h₀) (F : Fr h₀ L s.heap m) (X : (hd.heap_39 w.params).In h₀) (N : News h₀ L s.heap news) (T : Top VW LS mean mg mb h₀) (hA : A.frames = some (env :: outer)) (hf : env.frame = some L) (hke : env.scope.kind = .function) (hroom : A.depth + 3 < recursionLimit)
    (h : ∀ e d k1 k2 k3 k4 k5 k6 k7 tk h', Fr h₀ L h' m → News h₀ L h' ((e, instObj 158 d) :: (d, dictOf [⟨PyData.keyHash w.params "at", .str "at" k1, v1⟩, ⟨PyData.keyHash w.params "number", .str "number" k2, v2⟩, ⟨PyData.keyHash w.params "size", .str "size" k3, v3⟩, ⟨PyData.keyHash w.params "base_at", .str "base_at" k4, v4⟩, ⟨PyData.keyHash w.params "base_id", .str "base_id" k5, v5⟩, ⟨PyData.keyHash w.params "data", .str "data" k6, v6⟩, ⟨PyData.keyHash w.params "behind", .str "behind" k7, v7⟩] 7) :: news) → (∀ p ∈ news, p.1 < d) → d < e → Q (.ref e) { s with heap := h', toks := tk }) :
    wpAny (model PySem.Challenge.rw_pb0100_01.row.prog w) A (call (.ref 158) [v1, v2, v3, v4, v5, v6, v7]) Q E s := by
  revert X
  k_fill
  intro X
  refine' call_cls F X N ?m ?i ?f ?_
  case m => k_is
  case i => k_is
  case f => k_is
  intro e d h1 F1 N1 l1 l2
  obtain ⟨n1, n2⟩ := ne_lt1 (o := dictOf [] 0) l1 l2
  have n3 : d ≠ e := Nat.ne_of_lt l2
  have n4 : e ≠ d := Nat.ne_of_gt l2
  refine' code_def B F1 X N1 T ?hA hf hke ?k6 ?k7 ?k8 ?k9 ?kB ?_ ?c2 ?c3 ?c4 ?c5
  case hA => exact hA
  case k6 => k_is
  case k7 => k_is
  case k8 => rw [depth_under_make]; omega
  case k9 => first | exact BindsTo.of_eq rfl | exact binds_K (X.keeps F1.keep) rfl (by k_is) rfl rfl rfl
  case kB => exact locs rfl
  case c2 => exact rfl
  case c3 => exact rfl
  case c4 => exact rfl
  case c5 => decide
  intro g' L' h' FG' F' N' B' X' T'
  try dsimp only
  try k_fold
  k_steps
  rename News h₀ L _ _ => N8
  rename Fr h₀ L _ m => F8
  exact h e d _ _ _ _ _ _ _ _ _ F8 N8 l1 l2
end Mine

namespace Mine
theorem off21 : True := by w_top off; trivial
open PySem.Calls
local macro_rules | `(tactic| k_extra "exc") => `(tactic| (intro C9 c9 x9 tx9 e9 d9 k9 G9 h9 tk9 X9 F9 R9 c9' U9; obtain ⟨eC9, nn9⟩ := X9; subst eC9; clear c9'; (try dsimp only)))
local macro_rules | `(tactic| k_extra "pr") => `(tactic| (iterate 14 first | done | assumption | apply And.right))
local macro_rules | `(tactic| k_extra "pj") => `(tactic| first | (k_extra "pr"; done) | (apply And.left; k_extra "pr"; done))
local macro_rules | `(tactic| k_ne) => `(tactic| (refine neN ?_; (try dsimp only); with_reducible first | k_extra "pj" | (apply Nat.ne_of_lt; k_extra "pj") | (apply Nat.ne_of_gt; k_extra "pj") | (apply Ne.symm; k_extra "pj")))
local macro_rules | `(tactic| walk_at "exec Raise some none") => `(tactic| (k_here; refine raise_own rfl ?_))
local macro_rules | `(tactic| walk_at "call ref") => `(tactic| (k_here; k_dflt (refine' exc_made ?k1 ?k2 ?k3 ?k4 ?k5 ?k6 ?k7 ?k8 ?k9 ?k10 ?k11 ?k12 ?k13 ?_; (case k1 => k_asm); (case k2 => k_asm); (case k3 => k_asm); (case k4 => k_asm); (case k5 => k_asm); (case k6 => exact rfl); (case k7 => exact rfl); (case k8 => exact rfl); (case k9 => first | ktr_room | (dsimp only [Around.mark, Around.deeper, topA]; omega)); (case k10 => first | exact exc69 _ | exact exc45 _ | exact exc57 _); (case k11 => k_is); (case k12 => k_is); (case k13 => k_is); k_whole); intro e9 t9 d9 k9 tk9 h9 F9 N9 l9 l10 l11; (try k_sweep); (have ne9 := ne_of_lts N9 l9 l10 l11)))
local macro_rules | `(tactic| walk_at "RaisableO") => `(tactic| (k_here; k_dflt (refine raisableO_of (by assumption) (by assumption) (by assumption) (by first | exact exc69 _ | exact exc45 _ | exact exc57 _) ?_)))
local macro_rules | `(tactic| walk_at "leaving ref") => `(tactic| (k_here; k_dflt (refine leave_first (by assumption) (by assumption) (by assumption) rfl rfl rfl rfl rfl rfl (by assumption) ?_ rfl); intro h8 R8 U8))
local macro_rules | `(tactic| walk_at "exec") => `(tactic| (k_here; (with_reducible show wpAny _ _ (exec (Stmt.While _ _ _ _) _) _ _ _); k_dflt (k_extra "whl")))
local macro_rules | `(tactic| walk_at "binaryOp LShift int int") => `(tactic| (k_here; k_dflt (refine lshift_int (by first | decide | k_extra "shl0") (by k_extra "shl") ?_)))

local macro_rules | `(tactic| walk_at "subscriptTail") => `(tactic| (k_here; (with_reducible show wpAny _ _ (subscriptTail _ _ (Value.bytes (List.toArray _) _) (Value.ref _)) _ _ _); (with_reducible rename Fr _ _ _ _ => F'); (with_reducible rename News _ _ _ _ => N'); (refine cut_K (s := ⟨_, _, _, _, _⟩) F' N' (by constructor) (by constructor) ?hz ?_); (case hz => omega); intro h' t' k' F' N' cut9; (try k_sweep)))
local macro_rules | `(tactic| k_mem) => `(tactic| assumption)
theorem spec_pack' (w : World) (l : List UInt8) (cx dx : Addr) (n0 : Nat) (t1 t2 : Tok) (at0 : Nat) (i : Int) (hi : i = (at0 : Int)) (hl : l.length < 4096) (h0 : at0 ≤ l.length) (news : List (Addr × Obj)) (hc1 : (cx, instObj 201 dx) ∈ news) (hc2 : (dx, dictOf [] n0) ∈ news) :
    Spec w 169 [.ref cx, .bytes l.toArray t1, .int i t2] news 12
      (fun v news' => ∃ b : List UInt8, ∃ k : Nat, ∃ D ta tb c, unP l at0 = some (b, k) ∧ v = .ref D ∧ news' = (D, ({ cls := .type "tuple", data := .seq #[.bytes b.toArray ta, .int k tb] c } : Obj)) :: news ∧ ∀ p ∈ news, p.1 < D)
      (fun C => C = 69 ∧ unP l at0 = none) := hi ▸ spec_pack_unpacked w l cx dx n0 t1 t2 at0 hl h0 news hc1 hc2
theorem lenFits {l : List UInt8} {a b : Nat} (h : ¬ ((l.take a).length : Int) ≠ b) : (l.take a).length = b := by omega

local macro_rules | `(tactic| walk_at "compareOp NotIn int ref") => `(tactic| (k_here; k_dflt (refine' notin_starts ?N ?m ?d ?l ?_; (case N => assumption); (case m => k_mem); (case d => assumption); (case l => assumption))))
local macro_rules | `(tactic| walk_at "call ref") => `(tactic| (k_here; k_dflt (refine' Spec.go ?_ ?_ (S := spec_at_head _ _ _ _ _ (by assumption) (by assumption) _)); (all_goals first | (intro v9 n9 h9 tk9 R9 F9 N9; obtain ⟨n9', s9', k9', D9, ta9, tb9, tc9, c9, e9, ev9, en9, lt9⟩ := R9; subst ev9; subst en9; (have le9 := headP_le e9); (try dsimp only)) | k_extra "exc")))
local macro_rules | `(tactic| walk_at "call ref") => `(tactic| (k_here; k_dflt (refine' Spec.go ?_ ?_ (S := spec_at_offset _ _ _ _ _ (by assumption) (by omega) _)); (all_goals first | (intro v9 n9 h9 tk9 R9 F9 N9; obtain ⟨n9', k9', D9, ta9, tb9, c9, e9, ev9, en9, lt9⟩ := R9; subst ev9; subst en9; (have le9 := offP_le' (by omega) e9); (try dsimp only)) | k_extra "exc")))
local macro_rules | `(tactic| walk_at "call ref") => `(tactic| (k_here; k_dflt (refine' Spec.go ?_ ?_ (S := spec_pack' _ _ _ _ _ _ _ _ _ (by first | exact rfl | exact (Int.natCast_add _ _).symm) (by assumption) ?h0 _ (by k_mem) (by k_mem)); (case h0 => first | omega | (k_extra "h0"))); (all_goals first | (intro v9 n9 h9 tk9 R9 F9 N9; obtain ⟨n9', k9', D9, ta9, tb9, c9, e9, ev9, en9, lt9⟩ := R9; subst ev9; subst en9; (have le9 := unP_le e9); (try dsimp only)) | k_extra "exc")))
local macro_rules | `(tactic| walk_at "call ref") => `(tactic| (k_here; k_dflt (refine' scanned_made ?k1 ?k2 ?k3 ?k4 ?k5 ?k6 ?k7 ?k8 ?k9 ?_; (case k1 => k_asm); (case k2 => k_asm); (case k3 => k_asm); (case k4 => k_asm); (case k5 => k_asm); (case k6 => exact rfl); (case k7 => exact rfl); (case k8 => exact rfl); (case k9 => ktr_room); k_whole); intro e9 d9 k1 k2 k3 k4 k5 k6 k7 tk9 h9 F9 N9 l9 l10; (try k_sweep)))
local macro_rules | `(tactic| walk_at "leaving ref") => `(tactic| (k_here; k_dflt (refine' leave_on ?K ?F ?R ?U ?_; (case R => assumption); (case K => assumption); (case F => assumption); (case U => assumption)); intro h8 R8 U8))

set_option maxHeartbeats 16000000 in
theorem spec_scan (w : World) (l : List UInt8) (cx dx hx hdx kx sx : Addr) (so : Obj) (kvs : List (Int × Value)) (n0 n1 many : Nat) (tm ka kb : Tok) (ha hb : Int) (t1 t2 : Tok) (at0 : Nat) (hl : l.length < 4096) (h0 : at0 ≤ l.length) (news : List (Addr × Obj))
    (hc1 : (cx, instObj 201 dx) ∈ news) (hc2 : (dx, dictOf [] n0) ∈ news) (hh1 : (hx, instObj 122 hdx) ∈ news) (hh2 : (hdx, dictOf [⟨ha, .str "size" ka, .int many tm⟩, ⟨hb, .str "known" kb, .ref kx⟩] n1) ∈ news)
    (hs1 : (sx, so) ∈ news) (hs2 : so.IsDictOf (PySem.intKind PySem.Challenge.rw_pb0100_01.row.prog w) kvs) (hs3 : (sx == sysModules) = false) :
    Spec w 176 [.bytes l.toArray t1, .int at0 t2, .ref hx, .ref cx, .ref sx] news 20
      (fun v news' => ∃ z e d o, ∃ rest : List (Addr × Obj), scanP l at0 many (kvs.map (·.1)) = some z ∧ v = .ref e ∧ scanObj w.params at0 z o ∧ news' = (e, instObj 158 d) :: (d, o) :: rest ∧ (∀ p ∈ news, p ∈ rest) ∧ (∀ p ∈ rest, p.1 < d) ∧ d < e)
      (fun C => C = 69 ∧ scanP l at0 many (kvs.map (·.1)) = none) := by
  unfold Spec
  k_fill
  intro mean mg mb dp un gd cn cs a ccd outer A₀ base h₀ L m s Q E B F X N T XB TB D hk hd hu hret hexc
  refine wpAny_call ?_
  k_dflt (refine' code_defS ?k1 ?k2 ?k3 ?k4 ?k5 ?XB ?TB ?D ?T0 ?kA ?k6 ?k7 ?k8 ?k9 ?kB ?_ ?cK ?c2 ?c3 ?c4 ?c5; (case kA => exact rfl); (case k2 => k_asm); (case k1 => k_asm); (case XB => assumption); (case TB => assumption); (case D => assumption); (case T0 => exact KtsTurn.refl); (case k3 => k_asm); (case k4 => k_asm); (case k5 => k_asm); (case k6 => k_is); (case k7 => k_is); (case k8 => ktr_room); (case k9 => first | exact binds_K (X.keeps F.keep) rfl (by k_is) rfl rfl rfl | exact BindsTo.of_eq rfl); (case kB => exact locs rfl); (case cK => assumption); (case c2 => exact rfl); (case c3 => exact rfl); (case c4 => exact rfl); (case c5 => decide); k_whole; intro g' L' h' FG' F' N' B' X' T' D'; (try dsimp only); (try k_fold))
  k_with "h0" => exact cut_fits (by omega) (by assumption)
  k_steps
  any_goals first
    | (exfalso; omega)
    | (rename Flown _ _ _ _ _ _ _ _ _ => R8
       refine hexc 69 _ _ _ _ _ _ _ _ _ ⟨rfl, ?_⟩ FG' (R8.sub (told_subs ?_)) ⟨(fun h => by cases h), (fun h => by cases h)⟩ (by assumption)
       · first
         | exact sc0 (by assumption)
         | exact sc6n (by assumption) (by assumption) (by assumption)
         | exact sc6b (by assumption) (by assumption) (by assumption) (by assumption)
         | exact sc6k (by assumption) (by assumption) (by assumption) (by assumption)
         | exact sc7c (by assumption) (by assumption) (by assumption)
         | exact (sc6 (by assumption) (by assumption) (by assumption) (by assumption) (by assumption)).trans (fin_n (by assumption))
         | exact (sc6 (by assumption) (by assumption) (by assumption) (by assumption) (by assumption)).trans (fin_l (by assumption) (by assumption))
         | exact (sc7 (by assumption) (by assumption) (by assumption)).trans (fin_n (by assumption))
         | exact (sc7 (by assumption) (by assumption) (by assumption)).trans (fin_l (by assumption) (by assumption))
         | exact (scO (by assumption) (by assumption) (by assumption)).trans (fin_n (by assumption))
         | exact (scO (by assumption) (by assumption) (by assumption)).trans (fin_l (by assumption) (by assumption))
       · intro p hp
         first
         | exact hp
         | exact .tail _ hp
         | exact .tail _ (.tail _ hp)
         | exact .tail _ (.tail _ (.tail _ hp))
         | exact .tail _ (.tail _ (.tail _ (.tail _ hp)))
         | exact .tail _ (.tail _ (.tail _ (.tail _ (.tail _ hp)))))
  all_goals first
    | (exfalso; omega)
    | (rename News h₀ L _ _ => N8
       rename Fr h₀ L _ m => F8
       refine hret _ _ _ _ ⟨_, _, _, _, _, (by
         first
         | exact (sc6 (by assumption) (by assumption) (by assumption) (by assumption) (by assumption)).trans (fin_y (by assumption) (by assumption))
         | exact (sc7 (by assumption) (by assumption) (by assumption)).trans (fin_y (by assumption) (by assumption))
         | exact (scO (by assumption) (by assumption) (by assumption)).trans (fin_y (by assumption) (by assumption))), rfl, (by first | exact scanObj_6 | exact scanObj_7 | exact scanObj_o), rfl, ?_, ?_, ?_⟩ F8 N8
       · intro p hp
         first
         | exact hp
         | exact .tail _ hp
         | exact .tail _ (.tail _ hp)
         | exact .tail _ (.tail _ (.tail _ hp))
       · assumption
       · assumption)
end Mine

namespace Mine
theorem off22 : True := by w_top off; trivial
open PySem.Calls
local macro_rules | `(tactic| k_extra "exc") => `(tactic| (intro C9 c9 x9 tx9 e9 d9 k9 G9 h9 tk9 X9 F9 R9 c9' U9; obtain ⟨eC9, nn9⟩ := X9; subst eC9; clear c9'; (try dsimp only)))
local macro_rules | `(tactic| k_extra "pr") => `(tactic| (iterate 14 first | done | assumption | apply And.right))
local macro_rules | `(tactic| k_extra "pj") => `(tactic| first | (k_extra "pr"; done) | (apply And.left; k_extra "pr"; done))
local macro_rules | `(tactic| k_ne) => `(tactic| (refine neN ?_; (try dsimp only); with_reducible first | k_extra "pj" | (apply Nat.ne_of_lt; k_extra "pj") | (apply Nat.ne_of_gt; k_extra "pj") | (apply Ne.symm; k_extra "pj")))
local macro_rules | `(tactic| walk_at "exec Raise some none") => `(tactic| (k_here; refine raise_own rfl ?_))
local macro_rules | `(tactic| walk_at "call ref") => `(tactic| (k_here; k_dflt (refine' exc_made ?k1 ?k2 ?k3 ?k4 ?k5 ?k6 ?k7 ?k8 ?k9 ?k10 ?k11 ?k12 ?k13 ?_; (case k1 => k_asm); (case k2 => k_asm); (case k3 => k_asm); (case k4 => k_asm); (case k5 => k_asm); (case k6 => exact rfl); (case k7 => exact rfl); (case k8 => exact rfl); (case k9 => first | ktr_room | (dsimp only [Around.mark, Around.deeper, topA]; omega)); (case k10 => first | exact exc69 _ | exact exc45 _ | exact exc57 _); (case k11 => k_is); (case k12 => k_is); (case k13 => k_is); k_whole); intro e9 t9 d9 k9 tk9 h9 F9 N9 l9 l10 l11; (try k_sweep); (have ne9 := ne_of_lts N9 l9 l10 l11)))
local macro_rules | `(tactic| walk_at "RaisableO") => `(tactic| (k_here; k_dflt (refine raisableO_of (by assumption) (by assumption) (by assumption) (by first | exact exc69 _ | exact exc45 _ | exact exc57 _) ?_)))
local macro_rules | `(tactic| walk_at "leaving ref") => `(tactic| (k_here; k_dflt (refine leave_first (by assumption) (by assumption) (by assumption) rfl rfl rfl rfl rfl rfl (by assumption) ?_ rfl); intro h8 R8 U8))
local macro_rules | `(tactic| walk_at "exec") => `(tactic| (k_here; (with_reducible show wpAny _ _ (exec (Stmt.While _ _ _ _) _) _ _ _); k_dflt (k_extra "whl")))
local macro_rules | `(tactic| walk_at "binaryOp LShift int int") => `(tactic| (k_here; k_dflt (refine lshift_int (by first | decide | k_extra "shl0") (by k_extra "shl") ?_)))

local macro_rules | `(tactic| walk_at "subscriptTail") => `(tactic| (k_here; (with_reducible show wpAny _ _ (subscriptTail _ _ (Value.bytes (List.toArray _) _) (Value.ref _)) _ _ _); (with_reducible rename Fr _ _ _ _ => F'); (with_reducible rename News _ _ _ _ => N'); (refine cut_K (s := ⟨_, _, _, _, _⟩) F' N' (by constructor) (by constructor) ?hz ?_); (case hz => omega); intro h' t' k' F' N' cut9; (try k_sweep)))
local macro_rules | `(tactic| k_mem) => `(tactic| assumption)
local macro_rules | `(tactic| k_all) => `(tactic| assumption)
local macro_rules | `(tactic| walk_at "compareOp NotEq ref ref") => `(tactic| (k_here; k_dflt (refine ke_ne_ints ?a ?b ?c .nil ?u ?_; (case a => is_list); (case b => is_list); (case c => assumption); (case u => first | ktr_units | (dsimp only [Around.deeper, topA]; omega)))))
local macro_rules | `(tactic| walk_at "call builtin:list.pop") => `(tactic| (k_here; k_dflt (refine' kpa_pop ?F ?N ?U ?i ?l ?z ?_; (case F => k_asm); (case N => k_asm); (case U => first | k_upd | (refine' Upd.tail ?ua (Upd.tail ?ub (Upd.head ?uc)); (case ua => k_ne); (case ub => assumption); (case uc => assumption))); (case i => assumption); (case l => exact cells_more (by assumption) (by assumption)); (case z => (rw [PySem.sizeLine_eq]; omega))); (intro h' t' F' N' hI'; (try dsimp only [List.nil_append, List.cons_append] at N'))))
set_option maxHeartbeats 8000000 in
theorem spec_next (w : World) (b : Int) (t : Tok) (T C : Addr) (o oc : Obj) (rest : List (Addr × Obj)) (hb : 0 < b) (hb2 : b ≤ 1000000) (H : TapeO w T C o oc) (hTC : T ≠ C) (hT : ∀ p ∈ rest, p.1 ≠ T) (hC : ∀ p ∈ rest, p.1 ≠ C) :
    Spec w 217 [.ref T, .int b t] ((T, o) :: (C, oc) :: rest) 12
      (fun v news' => ∃ r t' o' oc', 0 ≤ r ∧ r < b ∧ v = .int r t' ∧ TapeO w T C o' oc' ∧ news' = (T, o') :: (C, oc') :: rest) (fun _ => False) := by
  obtain ⟨lo, sd, ts, ys, nc, cs, hd, hsd, rfl, hI, hlen, hnn⟩ := H
  have hCT : C ≠ T := Ne.symm hTC
  unfold Spec
  k_fill
  intro mean mg mb dp un gd cn cs' a ccd outer A₀ base h₀ L m s Q E B F X N Tt XB TB D hk hd' hu hret hexc
  have hkl := hI.length
  refine wpAny_call ?_
  k_dflt (refine' code_defS ?k1 ?k2 ?k3 ?k4 ?k5 ?XB ?TB ?D ?T0 ?kA ?k6 ?k7 ?k8 ?k9 ?kB ?_ ?cK ?c2 ?c3 ?c4 ?c5; (case kA => exact rfl); (case k2 => k_asm); (case k1 => k_asm); (case XB => assumption); (case TB => assumption); (case D => assumption); (case T0 => exact KtsTurn.refl); (case k3 => k_asm); (case k4 => k_asm); (case k5 => k_asm); (case k6 => k_is); (case k7 => k_is); (case k8 => ktr_room); (case k9 => first | exact binds_K (X.keeps F.keep) rfl (by k_is) rfl rfl rfl | exact BindsTo.of_eq rfl); (case kB => exact locs rfl); (case cK => assumption); (case c2 => exact rfl); (case c3 => exact rfl); (case c4 => exact rfl); (case c5 => decide); k_whole; intro g' L' h' FG' F' N' B' X' T' D'; (try dsimp only); (try k_fold))
  k_with_none
  k_steps
  · rename News h₀ L _ _ => N8
    rename Fr h₀ L _ m => F8
    rename Obj.IsDictOf _ _ _ => d8
    have r8 : 0 ≤ (sd * 3931 + 41).fmod 999917 ∧ (sd * 3931 + 41).fmod 999917 < 999917 := fmod_in (by omega) (by decide)
    have q8 : 0 ≤ ((sd * 3931 + 41).fmod 999917).fdiv 29 := Int.fdiv_nonneg r8.1 (by decide)
    exact hret _ _ _ _ ⟨_, _, _, _, (fmod_in q8 hb).1, (fmod_in q8 hb).2, rfl, ⟨lo, _, _, ys, nc, cs, d8, r8.1, rfl, hI, hlen, hnn⟩, rfl⟩ F8 (fun p hp => N8 p (.tail _ hp))
  · rename News h₀ L _ _ => N8
    rename Fr h₀ L _ m => F8
    rename IntsAre _ _ => i8
    exact hret _ _ _ _ ⟨_, _, _, _, (fmod_in (cells_top hnn) hb).1, (fmod_in (cells_top hnn) hb).2, rfl, ⟨lo, sd, ts, _, _, _, hd, hsd, rfl, i8, (by rw [List.length_dropLast]; omega), cells_rest hnn⟩, rfl⟩ F8 (fun p hp => N8 p (.tail _ hp))
end Mine

namespace Mine
theorem off23 : True := by w_top off; trivial
open PySem.Calls
local macro_rules | `(tactic| k_extra "exc") => `(tactic| (intro C9 c9 x9 tx9 e9 d9 k9 G9 h9 tk9 X9 F9 R9 c9' U9; obtain ⟨eC9, nn9⟩ := X9; subst eC9; clear c9'; (try dsimp only)))
local macro_rules | `(tactic| k_extra "pr") => `(tactic| (iterate 14 first | done | assumption | apply And.right))
local macro_rules | `(tactic| k_extra "pj") => `(tactic| first | (k_extra "pr"; done) | (apply And.left; k_extra "pr"; done))
local macro_rules | `(tactic| k_ne) => `(tactic| (refine neN ?_; (try dsimp only); with_reducible first | k_extra "pj" | (apply Nat.ne_of_lt; k_extra "pj") | (apply Nat.ne_of_gt; k_extra "pj") | (apply Ne.symm; k_extra "pj")))
local macro_rules | `(tactic| walk_at "exec Raise some none") => `(tactic| (k_here; refine raise_own rfl ?_))
local macro_rules | `(tactic| walk_at "call ref") => `(tactic| (k_here; k_dflt (refine' exc_made ?k1 ?k2 ?k3 ?k4 ?k5 ?k6 ?k7 ?k8 ?k9 ?k10 ?k11 ?k12 ?k13 ?_; (case k1 => k_asm); (case k2 => k_asm); (case k3 => k_asm); (case k4 => k_asm); (case k5 => k_asm); (case k6 => exact rfl); (case k7 => exact rfl); (case k8 => exact rfl); (case k9 => first | ktr_room | (dsimp only [Around.mark, Around.deeper, topA]; omega)); (case k10 => first | exact exc69 _ | exact exc45 _ | exact exc57 _); (case k11 => k_is); (case k12 => k_is); (case k13 => k_is); k_whole); intro e9 t9 d9 k9 tk9 h9 F9 N9 l9 l10 l11; (try k_sweep); (have ne9 := ne_of_lts N9 l9 l10 l11)))
local macro_rules | `(tactic| walk_at "RaisableO") => `(tactic| (k_here; k_dflt (refine raisableO_of (by assumption) (by assumption) (by assumption) (by first | exact exc69 _ | exact exc45 _ | exact exc57 _) ?_)))
local macro_rules | `(tactic| walk_at "leaving ref") => `(tactic| (k_here; k_dflt (refine leave_first (by assumption) (by assumption) (by assumption) rfl rfl rfl rfl rfl rfl (by assumption) ?_ rfl); intro h8 R8 U8))
local macro_rules | `(tactic| walk_at "exec") => `(tactic| (k_here; (with_reducible show wpAny _ _ (exec (Stmt.While _ _ _ _) _) _ _ _); k_dflt (k_extra "whl")))
local macro_rules | `(tactic| walk_at "binaryOp LShift int int") => `(tactic| (k_here; k_dflt (refine lshift_int (by first | decide | k_extra "shl0") (by k_extra "shl") ?_)))

local macro_rules | `(tactic| walk_at "subscriptTail") => `(tactic| (k_here; (with_reducible show wpAny _ _ (subscriptTail _ _ (Value.bytes (List.toArray _) _) (Value.ref _)) _ _ _); (with_reducible rename Fr _ _ _ _ => F'); (with_reducible rename News _ _ _ _ => N'); (refine cut_K (s := ⟨_, _, _, _, _⟩) F' N' (by constructor) (by constructor) ?hz ?_); (case hz => omega); intro h' t' k' F' N' cut9; (try k_sweep)))
local macro_rules | `(tactic| k_mem) => `(tactic| assumption)
set_option maxHeartbeats 8000000 in
theorem spec_isd (w : World) (e d : Addr) (n : Nat) (k1 k2 k3 k4 k5 k6 k7 x2 : Tok) (v1 v3 v4 v5 v6 v7 : Value) (news : List (Addr × Obj))
    (h1 : (e, instObj 158 d) ∈ news) (h2 : (d, dictOf [⟨PyData.keyHash w.params "at", .str "at" k1, v1⟩, ⟨PyData.keyHash w.params "number", .str "number" k2, .int n x2⟩, ⟨PyData.keyHash w.params "size", .str "size" k3, v3⟩, ⟨PyData.keyHash w.params "base_at", .str "base_at" k4, v4⟩, ⟨PyData.keyHash w.params "base_id", .str "base_id" k5, v5⟩, ⟨PyData.keyHash w.params "data", .str "data" k6, v6⟩, ⟨PyData.keyHash w.params "behind", .str "behind" k7, v7⟩] 7) ∈ news) :
    Spec w 155 [.ref e] news 6 (fun v news' => v = .bool (decide (n = 6 ∨ n = 7)) ∧ news' = news) (fun _ => False) := by
  unfold Spec
  k_fill
  intro mean mg mb dp un gd cn cs' a ccd outer A₀ base h₀ L m s Q E B F X N Tt XB TB D hk hd' hu hret hexc
  refine wpAny_call ?_
  k_dflt (refine' code_defS ?k1 ?k2 ?k3 ?k4 ?k5 ?XB ?TB ?D ?T0 ?kA ?k6 ?k7 ?k8 ?k9 ?kB ?_ ?cK ?c2 ?c3 ?c4 ?c5; (case kA => exact rfl); (case k2 => k_asm); (case k1 => k_asm); (case XB => assumption); (case TB => assumption); (case D => assumption); (case T0 => exact KtsTurn.refl); (case k3 => k_asm); (case k4 => k_asm); (case k5 => k_asm); (case k6 => k_is); (case k7 => k_is); (case k8 => ktr_room); (case k9 => first | exact binds_K (X.keeps F.keep) rfl (by k_is) rfl rfl rfl | exact BindsTo.of_eq rfl); (case kB => exact locs rfl); (case cK => assumption); (case c2 => exact rfl); (case c3 => exact rfl); (case c4 => exact rfl); (case c5 => decide); k_whole; intro g' L' h' FG' F' N' B' X' T' D'; (try dsimp only); (try k_fold))
  k_with_none
  k_steps
  all_goals (rename News h₀ L _ _ => N8)
  all_goals (rename Fr h₀ L _ m => F8)
  all_goals (refine hret _ _ _ _ ⟨?_, rfl⟩ F8 N8)
  all_goals first
    | exact congrArg Value.bool (decide_eq_decide.mpr (by omega))
    | (have e9 : decide (n = 6 ∨ n = 7) = true := decide_eq_true (by omega)
       have f9 : decide ((n : Int) = 6) = true := decide_eq_true (by omega)
       first | rw [e9, f9] | rw [e9])
    | (have e9 : decide (n = 6 ∨ n = 7) = false := decide_eq_false (by omega)
       rw [e9])
end Mine

namespace Mine
theorem off24 : True := by w_top off; trivial
open PySem.Calls
local macro_rules | `(tactic| k_extra "exc") => `(tactic| (intro C9 c9 x9 tx9 e9 d9 k9 G9 h9 tk9 X9 F9 R9 c9' U9; obtain ⟨eC9, nn9⟩ := X9; subst eC9; clear c9'; (try dsimp only)))
local macro_rules | `(tactic| k_extra "pr") => `(tactic| (iterate 14 first | done | assumption | apply And.right))
local macro_rules | `(tactic| k_extra "pj") => `(tactic| first | (k_extra "pr"; done) | (apply And.left; k_extra "pr"; done))
local macro_rules | `(tactic| k_ne) => `(tactic| (refine neN ?_; (try dsimp only); with_reducible first | k_extra "pj" | (apply Nat.ne_of_lt; k_extra "pj") | (apply Nat.ne_of_gt; k_extra "pj") | (apply Ne.symm; k_extra "pj")))
local macro_rules | `(tactic| walk_at "exec Raise some none") => `(tactic| (k_here; refine raise_own rfl ?_))
local macro_rules | `(tactic| walk_at "call ref") => `(tactic| (k_here; k_dflt (refine' exc_made ?k1 ?k2 ?k3 ?k4 ?k5 ?k6 ?k7 ?k8 ?k9 ?k10 ?k11 ?k12 ?k13 ?_; (case k1 => k_asm); (case k2 => k_asm); (case k3 => k_asm); (case k4 => k_asm); (case k5 => k_asm); (case k6 => exact rfl); (case k7 => exact rfl); (case k8 => exact rfl); (case k9 => first | ktr_room | (dsimp only [Around.mark, Around.deeper, topA]; omega)); (case k10 => first | exact exc69 _ | exact exc45 _ | exact exc57 _); (case k11 => k_is); (case k12 => k_is); (case k13 => k_is); k_whole); intro e9 t9 d9 k9 tk9 h9 F9 N9 l9 l10 l11; (try k_sweep); (have ne9 := ne_of_lts N9 l9 l10 l11)))
local macro_rules | `(tactic| walk_at "RaisableO") => `(tactic| (k_here; k_dflt (refine raisableO_of (by assumption) (by assumption) (by assumption) (by first | exact exc69 _ | exact exc45 _ | exact exc57 _) ?_)))
local macro_rules | `(tactic| walk_at "leaving ref") => `(tactic| (k_here; k_dflt (refine leave_first (by assumption) (by assumption) (by assumption) rfl rfl rfl rfl rfl rfl (by assumption) ?_ rfl); intro h8 R8 U8))
local macro_rules | `(tactic| walk_at "exec") => `(tactic| (k_here; (with_reducible show wpAny _ _ (exec (Stmt.While _ _ _ _) _) _ _ _); k_dflt (k_extra "whl")))
local macro_rules | `(tactic| walk_at "binaryOp LShift int int") => `(tactic| (k_here; k_dflt (refine lshift_int (by first | decide | k_extra "shl0") (by k_extra "shl") ?_)))

local macro_rules | `(tactic| walk_at "subscriptTail") => `(tactic| (k_here; (with_reducible show wpAny _ _ (subscriptTail _ _ (Value.bytes (List.toArray _) _) (Value.ref _)) _ _ _); (with_reducible rename Fr _ _ _ _ => F'); (with_reducible rename News _ _ _ _ => N'); (refine cut_K (s := ⟨_, _, _, _, _⟩) F' N' (by constructor) (by constructor) ?hz ?_); (case hz => omega); intro h' t' k' F' N' cut9; (try k_sweep)))
local macro_rules | `(tactic| k_mem) => `(tactic| assumption)
/-- a def called by the law itself -/
def Spec0 (w : World) (f : Addr) (vs : List Value) (news : List (Addr × Obj)) (k : Nat) (Ret : Value → List (Addr × Obj) → Prop) : Prop :=
  ∀ (mean : ExcName → Option Value) (mg mb : Str → Option Value) (dp un : Nat) (gd : Option (List Code)) (cn : Str) (cs : Scope) (a : Addr) (ccd : Value) (A₀ : Around) (base h₀ : Heap) (L : Addr) (m : Str → Option Value) (s : Shared) (Q E : Value → Shared → Prop),
    Below A₀ base [] h₀ → Fr h₀ L s.heap m → (hd.heap_39 w.params).In h₀ → News h₀ L s.heap news → Top VW LS mean mg mb h₀ →
    (hd.heap_39 w.params).In base → Top VW LS mean mg mb base → cs.kind = .function → dp + k < recursionLimit → un + 8 * k < cLine →
    (∀ v news' h' tk', Ret v news' → Fr h₀ L h' m → News h₀ L h' news' → Q v { s with heap := h', toks := tk' }) →
    wpAny (model PySem.Challenge.rw_pb0100_01.row.prog w) (topA dp un gd cn cs L a ccd []) (call (.ref f) vs) Q E s
def toldT (at0 : Nat) (z : Scan) (o : Obj) : Prop :=
  ∃ t1 t2 t3 t4 t5 t6 t7 c, o = { cls := .type "tuple", data := .seq #[.int at0 t1, .int z.number t2, .int z.size t3, (match z.base_at with | some b => .int b t4 | none => .none), (match z.base_id with | some b => .bytes b.toArray t5 | none => .none), .bytes z.data.toArray t6, .int z.behind t7, .bool (decide (z.number = 6 ∨ z.number = 7))] c }
section
variable {at0 n s a : Nat} {d : List UInt8} {t1 t2 t3 t4 t5 t6 t7 : Tok} {c : Nat}
theorem toldT_oo : toldT at0 ⟨n, s, none, none, d, a⟩ { cls := .type "tuple", data := .seq #[.int at0 t1, .int n t2, .int s t3, .none, .none, .bytes d.toArray t6, .int a t7, .bool (decide (n = 6 ∨ n = 7))] c } := ⟨t1, t2, t3, 0, 0, t6, t7, c, rfl⟩
theorem toldT_so {b : Int} : toldT at0 ⟨n, s, some b, none, d, a⟩ { cls := .type "tuple", data := .seq #[.int at0 t1, .int n t2, .int s t3, .int b t4, .none, .bytes d.toArray t6, .int a t7, .bool (decide (n = 6 ∨ n = 7))] c } := ⟨t1, t2, t3, t4, 0, t6, t7, c, rfl⟩
theorem toldT_os {i : List UInt8} : toldT at0 ⟨n, s, none, some i, d, a⟩ { cls := .type "tuple", data := .seq #[.int at0 t1, .int n t2, .int s t3, .none, .bytes i.toArray t5, .bytes d.toArray t6, .int a t7, .bool (decide (n = 6 ∨ n = 7))] c } := ⟨t1, t2, t3, 0, t5, t6, t7, c, rfl⟩
theorem toldT_ss {b : Int} {i : List UInt8} : toldT at0 ⟨n, s, some b, some i, d, a⟩ { cls := .type "tuple", data := .seq #[.int at0 t1, .int n t2, .int s t3, .int b t4, .bytes i.toArray t5, .bytes d.toArray t6, .int a t7, .bool (decide (n = 6 ∨ n = 7))] c } := ⟨t1, t2, t3, t4, t5, t6, t7, c, rfl⟩
theorem news_told {h₀ h : Heap} {L D : Addr} {o : Obj} {x y u v : Addr × Obj} {rest news : List (Addr × Obj)} (N : News h₀ L h ((D, o) :: x :: y :: rest)) (s : ∀ p ∈ u :: v :: news, p ∈ rest) : News h₀ L h ((D, o) :: news) := fun p hp => by
  rcases List.mem_cons.mp hp with rfl | hp
  · exact N _ (.head _)
  · exact N p (.tail _ (.tail _ (.tail _ (s p (.tail _ (.tail _ hp))))))
end
local macro_rules | `(tactic| walk_at "call ref") => `(tactic| (k_here; k_dflt (refine' Spec.go ?_ ?_ (S := spec_scan _ _ _ _ _ _ _ _ _ _ _ _ _ _ _ _ _ _ _ _ _ (by assumption) (by assumption) _ (by k_mem) (by k_mem) (by k_mem) (by k_mem) (by k_mem) (by assumption) (by assumption))); (all_goals first | (intro v9 n9 h9 tk9 R9 F9 N9; obtain ⟨z9, e9, d9, o9, rest9, sc9, ev9, ⟨k1, k2, k3, k4, k5, k6, k7, x1, x2, x3, x4, x5, x6, x7, ob9⟩, en9, sub9, lt9, de9⟩ := R9; subst ob9; subst ev9; subst en9; obtain ⟨zn9, zs9, zb9, zi9, zd9, zh9⟩ := z9; (cases zb9 <;> cases zi9); (all_goals (try dsimp only at N9 ⊢))) | k_extra "exc")))
local macro_rules | `(tactic| walk_at "call ref") => `(tactic| (k_here; k_dflt (refine' Spec.go ?_ ?_ (S := spec_isd _ _ _ _ _ _ _ _ _ _ _ _ _ _ _ _ _ _ _ (by k_mem) (by k_mem))); (all_goals first | (intro v9 n9 h9 tk9 R9 F9 N9; obtain ⟨ev9, en9⟩ := R9; subst ev9; subst en9; (try dsimp only)) | (intros; exfalso; assumption))))
local macro_rules | `(tactic| walk_at "call type:bytes") => `(tactic| (k_here; (with_reducible show wpAny _ _ (call (Value.type "bytes") [Value.bytes _ _]) _ _ _); k_dflt (refine bytes_same ?_)))
local macro_rules | `(tactic| walk_at "noteFrame ref") => `(tactic| (k_here; k_dflt (refine' look_X ?R ?K ?U ?_; (case R => assumption); (case K => assumption); (case U => assumption)); intro h7 R7 U7; (try dsimp only at R7 U7 ⊢)))
local macro_rules | `(tactic| walk_at "handleBy ref") => `(tactic| (k_here; k_dflt (refine' hit_X0 ?R ?F ?K ?U ?XB ?TB ?D ?T0 ?T ?_ ?hE; (case R => assumption); (case F => assumption); (case K => assumption); (case U => assumption); (case XB => assumption); (case TB => assumption); (case D => assumption); (case T0 => exact KtsTurn.refl); (case T => kts_test); (case hE => passes_own)); intro h' g' oe' vs' T' F' N' ec' ed' ef' ev' K' X' P' D'; (try k_sweep)))
set_option maxHeartbeats 8000000 in
theorem spec_told (w : World) (l : List UInt8) (hx hdx kx sx : Addr) (so : Obj) (kvs : List (Int × Value)) (n1 many : Nat) (tm ka kb : Tok) (ha hb : Int) (t1 t2 : Tok) (at0 : Nat) (hl : l.length < 4096) (h0 : at0 ≤ l.length) (news : List (Addr × Obj))
    (hh1 : (hx, instObj 122 hdx) ∈ news) (hh2 : (hdx, dictOf [⟨ha, .str "size" ka, .int many tm⟩, ⟨hb, .str "known" kb, .ref kx⟩] n1) ∈ news)
    (hs1 : (sx, so) ∈ news) (hs2 : so.IsDictOf (PySem.intKind PySem.Challenge.rw_pb0100_01.row.prog w) kvs) (hs3 : (sx == sysModules) = false) :
    Spec0 w 241 [.bytes l.toArray t1, .int at0 t2, .ref hx, .ref sx] news 40
      (fun v news' => (scanP l at0 many (kvs.map (·.1)) = none ∧ v = .none ∧ news' = news) ∨ ∃ z D o, scanP l at0 many (kvs.map (·.1)) = some z ∧ v = .ref D ∧ toldT at0 z o ∧ news' = (D, o) :: news ∧ ∀ p ∈ news, p.1 < D) := by
  unfold Spec0
  k_fill
  intro mean mg mb dp un gd cn cs a ccd A₀ base h₀ L m s Q E B F X N T XB TB hk hd hu hret
  refine wpAny_call ?_
  k_dflt (refine' code_defS0 ?k1 ?k2 ?k3 ?k4 ?k5 ?kA ?k6 ?k7 ?k8 ?k9 ?kB ?_ ?cK ?c2 ?c3 ?c4 ?c5; (case kA => exact rfl); (case k2 => k_asm); (case k1 => k_asm); (case k3 => k_asm); (case k4 => k_asm); (case k5 => k_asm); (case k6 => k_is); (case k7 => k_is); (case k8 => ktr_room); (case k9 => first | exact binds_K (X.keeps F.keep) rfl (by k_is) rfl rfl rfl | exact BindsTo.of_eq rfl); (case kB => exact locs rfl); (case cK => assumption); (case c2 => exact rfl); (case c3 => exact rfl); (case c4 => exact rfl); (case c5 => decide); k_whole; intro g' L' h' FG' F' N' B' X' T' D'; (try dsimp only); (try k_fold))
  k_with_none
  k_steps
  rotate_left 4
  · rename News h₀ L _ _ => N8
    rename Fr h₀ L _ m => F8
    exact hret _ _ _ _ (.inl ⟨by assumption, rfl, rfl⟩) F8 (fun p hp => N8 p (.tail _ (.tail _ (.tail _ (.tail _ hp)))))
  all_goals
    (rename News h₀ L _ _ => N8
     rename Fr h₀ L _ m => F8
     rename ∀ p ∈ (_, instObj 201 _) :: _, p ∈ _ => s8
     rename _ ∧ _ ∧ AllLt _ _ => l8
     exact hret _ _ _ _ (.inr ⟨_, _, _, by assumption, rfl, (by first | exact toldT_oo | exact toldT_so | exact toldT_os | exact toldT_ss), rfl, fun p hp => ktn_ltOf l8.2.2 p (s8 p (.tail _ (.tail _ hp)))⟩) F8 (news_told N8 s8))
theorem Spec0.use {w : World} {f : Addr} {vs : List Value} {news : List (Addr × Obj)} {k : Nat} {Ret : Value → List (Addr × Obj) → Prop} (S : Spec0 w f vs news k Ret)
    {mean : ExcName → Option Value} {mg mb : Str → Option Value} {dp un : Nat} {gd : Option (List Code)} {cn : Str} {cs : Scope} {a : Addr} {ccd : Value} {A₀ : Around} {base h₀ : Heap} {L : Addr} {m : Str → Option Value} {s : Shared} {Q E : Value → Shared → Prop}
    (B : Below A₀ base [] h₀) (F : Fr h₀ L s.heap m) (X : (hd.heap_39 w.params).In h₀) (N : News h₀ L s.heap news) (T : Top VW LS mean mg mb h₀) (XB : (hd.heap_39 w.params).In base) (TB : Top VW LS mean mg mb base) (hk : cs.kind = .function) (hd : dp + k < recursionLimit) (hu : un + 8 * k < cLine)
    (hret : ∀ v news' h' tk', Ret v news' → Fr h₀ L h' m → News h₀ L h' news' → Q v { s with heap := h', toks := tk' }) :
    wpAny (model PySem.Challenge.rw_pb0100_01.row.prog w) (topA dp un gd cn cs L a ccd []) (call (.ref f) vs) Q E s :=
  S _ _ _ _ _ _ _ _ _ _ _ _ _ _ _ _ _ _ B F X N T XB TB hk hd hu hret
theorem spec_told' (w : World) (l : List UInt8) (hx hdx kx sx : Addr) (so : Obj) (kvs : List (Int × Value)) (n1 many : Nat) (tm ka kb : Tok) (ha hb : Int) (t1 t2 : Tok) (at0 : Nat) (i : Int) (hi : i = (at0 : Int)) (hl : l.length < 4096) (h0 : at0 ≤ l.length) (news : List (Addr × Obj))
    (hh1 : (hx, instObj 122 hdx) ∈ news) (hh2 : (hdx, dictOf [⟨ha, .str "size" ka, .int many tm⟩, ⟨hb, .str "known" kb, .ref kx⟩] n1) ∈ news)
    (hs1 : (sx, so) ∈ news) (hs2 : so.IsDictOf (PySem.intKind PySem.Challenge.rw_pb0100_01.row.prog w) kvs) (hs3 : (sx == sysModules) = false) :
    Spec0 w 241 [.bytes l.toArray t1, .int i t2, .ref hx, .ref sx] news 40
      (fun v news' => (scanP l at0 many (kvs.map (·.1)) = none ∧ v = .none ∧ news' = news) ∨ ∃ z D o, scanP l at0 many (kvs.map (·.1)) = some z ∧ v = .ref D ∧ toldT at0 z o ∧ news' = (D, o) :: news ∧ ∀ p ∈ news, p.1 < D) :=
  hi ▸ spec_told w l hx hdx kx sx so kvs n1 many tm ka kb ha hb t1 t2 at0 hl h0 news hh1 hh2 hs1 hs2 hs3
end Mine

namespace Mine
theorem off25 : True := by w_top off; trivial
open PySem.Calls
local macro_rules | `(tactic| k_extra "exc") => `(tactic| (intro C9 c9 x9 tx9 e9 d9 k9 G9 h9 tk9 X9 F9 R9 c9' U9; obtain ⟨eC9, nn9⟩ := X9; subst eC9; clear c9'; (try dsimp only)))
local macro_rules | `(tactic| k_extra "pr") => `(tactic| (iterate 14 first | done | assumption | apply And.right))
local macro_rules | `(tactic| k_extra "pj") => `(tactic| first | (k_extra "pr"; done) | (apply And.left; k_extra "pr"; done))
local macro_rules | `(tactic| k_ne) => `(tactic| (refine neN ?_; (try dsimp only); with_reducible first | k_extra "pj" | (apply Nat.ne_of_lt; k_extra "pj") | (apply Nat.ne_of_gt; k_extra "pj") | (apply Ne.symm; k_extra "pj")))
local macro_rules | `(tactic| walk_at "exec Raise some none") => `(tactic| (k_here; refine raise_own rfl ?_))
local macro_rules | `(tactic| walk_at "call ref") => `(tactic| (k_here; k_dflt (refine' exc_made ?k1 ?k2 ?k3 ?k4 ?k5 ?k6 ?k7 ?k8 ?k9 ?k10 ?k11 ?k12 ?k13 ?_; (case k1 => k_asm); (case k2 => k_asm); (case k3 => k_asm); (case k4 => k_asm); (case k5 => k_asm); (case k6 => exact rfl); (case k7 => exact rfl); (case k8 => exact rfl); (case k9 => first | ktr_room | (dsimp only [Around.mark, Around.deeper, topA]; omega)); (case k10 => first | exact exc69 _ | exact exc45 _ | exact exc57 _); (case k11 => k_is); (case k12 => k_is); (case k13 => k_is); k_whole); intro e9 t9 d9 k9 tk9 h9 F9 N9 l9 l10 l11; (try k_sweep); (have ne9 := ne_of_lts N9 l9 l10 l11)))
local macro_rules | `(tactic| walk_at "RaisableO") => `(tactic| (k_here; k_dflt (refine raisableO_of (by assumption) (by assumption) (by assumption) (by first | exact exc69 _ | exact exc45 _ | exact exc57 _) ?_)))
local macro_rules | `(tactic| walk_at "leaving ref") => `(tactic| (k_here; k_dflt (refine leave_first (by assumption) (by assumption) (by assumption) rfl rfl rfl rfl rfl rfl (by assumption) ?_ rfl); intro h8 R8 U8))
local macro_rules | `(tactic| walk_at "exec") => `(tactic| (k_here; (with_reducible show wpAny _ _ (exec (Stmt.While _ _ _ _) _) _ _ _); k_dflt (k_extra "whl")))
local macro_rules | `(tactic| walk_at "binaryOp LShift int int") => `(tactic| (k_here; k_dflt (refine lshift_int (by first | decide | k_extra "shl0") (by k_extra "shl") ?_)))

local macro_rules | `(tactic| walk_at "subscriptTail") => `(tactic| (k_here; (with_reducible show wpAny _ _ (subscriptTail _ _ (Value.bytes (List.toArray _) _) (Value.ref _)) _ _ _); (with_reducible rename Fr _ _ _ _ => F'); (with_reducible rename News _ _ _ _ => N'); (refine cut_K (s := ⟨_, _, _, _, _⟩) F' N' (by constructor) (by constructor) ?hz ?_); (case hz => omega); intro h' t' k' F' N' cut9; (try k_sweep)))
local macro_rules | `(tactic| k_mem) => `(tactic| assumption)
section
open PySem.SeqAt
variable {prog : Program} {w : World} {A : Around} {E : Value → Shared → Prop} {s : Shared}
theorem eqAt_bytes (a : Array UInt8) (t u : Tok) : EqAt A s (.bytes a t) (.bytes a u) true := fun prog w E Q h => by
  unfold eqBool
  refine wpAny_holding ?_
  refine wpAny_ite_split (fun hab => ?_) (fun _ => ?_)
  · exact wpAny_bind (wpAny_rule (wpAny_pure h))
  · refine wpAny_bind ?_
    show wpAny _ _ (compareOp .Eq (.bytes a t) (.bytes a u)) _ _ _
    refine eq_bytes ?_
    rw [beq_self_eq_true]
    exact wpAny_truthy_bool h
theorem eqAt_int (a : Int) (t u : Tok) : EqAt A s (.int a t) (.int a u) true := by
  have := EqAt.int_int (A := A) (s := s) a t a u
  rwa [beq_self_eq_true] at this
theorem ne_told {z : Scan} {at0 : Nat} {o1 o2 : Obj} {h₀ : Heap} {L D1 D2 : Addr} {news : List (Addr × Obj)} {Q : Value → Shared → Prop} (td1 : toldT at0 z o1) (td2 : toldT at0 z o2) (N : News h₀ L s.heap news) (m1 : (D1, o1) ∈ news) (m2 : (D2, o2) ∈ news) (hu : A.units < cLine) (h : Q (.bool false) s) :
    wpAny (model prog w) A (compareOp .NotEq (.ref D1) (.ref D2)) Q E s := by
  obtain ⟨t1, t2, t3, t4, t5, t6, t7, c, rfl⟩ := td1
  obtain ⟨u1, u2, u3, u4, u5, u6, u7, c', rfl⟩ := td2
  have e4 : EqAt A.in1 s (match z.base_at with | some b => .int b t4 | none => .none) (match z.base_at with | some b => .int b u4 | none => .none) true := by
    cases z.base_at with
    | none => exact EqAt.same _
    | some b => exact eqAt_int _ _ _
  have e5 : EqAt A.in1 s (match z.base_id with | some b => .bytes b.toArray t5 | none => .none) (match z.base_id with | some b => .bytes b.toArray u5 | none => .none) true := by
    cases z.base_id with
    | none => exact EqAt.same _
    | some b => exact eqAt_bytes _ _ _
  have hl1 : s.heap.IsTuple D1 _ := ⟨_, (N _ m1).1, rfl, _, rfl⟩
  have hl2 : s.heap.IsTuple D2 _ := ⟨_, (N _ m2).1, rfl, _, rfl⟩
  refine RcNeAt.tuples (e := fun _ => true) hl1 hl2 hu (fun j j1 j2 => ?_) prog w E Q ?_
  · rcases j with _ | _ | _ | _ | _ | _ | _ | _ | j
    · exact eqAt_int _ _ _
    · exact eqAt_int _ _ _
    · exact eqAt_int _ _ _
    · exact e4
    · exact e5
    · exact eqAt_bytes _ _ _
    · exact eqAt_int _ _ _
    · exact EqAt.same _
    · exfalso
      simp at j1
      omega
  · exact h
end
theorem no_both {l : List UInt8} {a many : Nat} {keys : List Int} {z : Scan} (h : scanP l a many keys = none) (h' : scanP l a many keys = some z) : False := by
  rw [h] at h'; cases h'
theorem same_scan {l : List UInt8} {a many : Nat} {keys : List Int} {z z' : Scan} (h : scanP l a many keys = some z) (h' : scanP l a many keys = some z') : z = z' := by
  rw [h] at h'; exact Option.some.inj h'
theorem scan_far {l : List UInt8} {many : Nat} {keys : List Int} : scanP l l.length many keys = none := by
  refine sc0 (headP_far ?_)
  rw [List.size_toArray]; exact Int.le_refl _
end Mine

namespace Mine
theorem off26 : True := by w_top off; trivial
open PySem.Calls
local macro_rules | `(tactic| k_extra "exc") => `(tactic| (intro C9 c9 x9 tx9 e9 d9 k9 G9 h9 tk9 X9 F9 R9 c9' U9; obtain ⟨eC9, nn9⟩ := X9; subst eC9; clear c9'; (try dsimp only)))
local macro_rules | `(tactic| k_extra "pr") => `(tactic| (iterate 14 first | done | assumption | apply And.right))
local macro_rules | `(tactic| k_extra "pj") => `(tactic| first | (k_extra "pr"; done) | (apply And.left; k_extra "pr"; done))
local macro_rules | `(tactic| k_ne) => `(tactic| (refine neN ?_; (try dsimp only); with_reducible first | k_extra "pj" | (apply Nat.ne_of_lt; k_extra "pj") | (apply Nat.ne_of_gt; k_extra "pj") | (apply Ne.symm; k_extra "pj")))
local macro_rules | `(tactic| walk_at "exec Raise some none") => `(tactic| (k_here; refine raise_own rfl ?_))
local macro_rules | `(tactic| walk_at "call ref") => `(tactic| (k_here; k_dflt (refine' exc_made ?k1 ?k2 ?k3 ?k4 ?k5 ?k6 ?k7 ?k8 ?k9 ?k10 ?k11 ?k12 ?k13 ?_; (case k1 => k_asm); (case k2 => k_asm); (case k3 => k_asm); (case k4 => k_asm); (case k5 => k_asm); (case k6 => exact rfl); (case k7 => exact rfl); (case k8 => exact rfl); (case k9 => first | ktr_room | (dsimp only [Around.mark, Around.deeper, topA]; omega)); (case k10 => first | exact exc69 _ | exact exc45 _ | exact exc57 _); (case k11 => k_is); (case k12 => k_is); (case k13 => k_is); k_whole); intro e9 t9 d9 k9 tk9 h9 F9 N9 l9 l10 l11; (try k_sweep); (have ne9 := ne_of_lts N9 l9 l10 l11)))
local macro_rules | `(tactic| walk_at "RaisableO") => `(tactic| (k_here; k_dflt (refine raisableO_of (by assumption) (by assumption) (by assumption) (by first | exact exc69 _ | exact exc45 _ | exact exc57 _) ?_)))
local macro_rules | `(tactic| walk_at "leaving ref") => `(tactic| (k_here; k_dflt (refine leave_first (by assumption) (by assumption) (by assumption) rfl rfl rfl rfl rfl rfl (by assumption) ?_ rfl); intro h8 R8 U8))
local macro_rules | `(tactic| walk_at "binaryOp LShift int int") => `(tactic| (k_here; k_dflt (refine lshift_int (by first | decide | k_extra "shl0") (by k_extra "shl") ?_)))

local macro_rules | `(tactic| walk_at "subscriptTail") => `(tactic| (k_here; (with_reducible show wpAny _ _ (subscriptTail _ _ (Value.bytes (List.toArray _) _) (Value.ref _)) _ _ _); (with_reducible rename Fr _ _ _ _ => F'); (with_reducible rename News _ _ _ _ => N'); (refine cut_K (s := ⟨_, _, _, _, _⟩) F' N' (by constructor) (by constructor) ?hz ?_); (case hz => omega); intro h' t' k' F' N' cut9; (try k_sweep)))
local macro_rules | `(tactic| k_mem) => `(tactic| assumption)
theorem fd128 (a : Int) : a.fdiv 128 = a / 128 := Int.fdiv_eq_ediv_of_nonneg _ (by decide)
theorem fm128 (a : Int) : a.fmod 128 = a % 128 := Int.fmod_eq_emod_of_nonneg _ (by decide)
theorem fd16 (a : Int) : a.fdiv 16 = a / 16 := Int.fdiv_eq_ediv_of_nonneg _ (by decide)
theorem fm16 (a : Int) : a.fmod 16 = a % 16 := Int.fmod_eq_emod_of_nonneg _ (by decide)
theorem off_ok1 {v : Nat} {b : UInt8} (hv : v < 128) (h : (b.toNat : Int) = (v : Int).fmod 128) : OffOk v [b] := by
  rw [fm128] at h
  refine ⟨by simp, fun tail k => ?_⟩
  simp only [List.cons_append, List.nil_append, offP]
  rw [if_pos (by omega)]
  simp only [List.length_cons, List.length_nil]
  congr 2
  omega
theorem off_ok2 {v : Nat} {b c : UInt8} (hv : 128 ≤ v) (hv2 : v < 512) (h : (b.toNat : Int) = ((v : Int).fdiv 128 - 1).fmod 128 + 128) (h2 : (c.toNat : Int) = (v : Int).fmod 128) : OffOk v [b, c] := by
  rw [fd128, fm128] at h
  rw [fm128] at h2
  refine ⟨by simp, fun tail k => ?_⟩
  simp only [List.cons_append, List.nil_append, offP]
  rw [if_neg (by omega), if_pos (by omega)]
  simp only [List.length_cons, List.length_nil]
  congr 2
  omega
local macro_rules | `(tactic| walk_at "WhlIf") => `(tactic| (k_dflt (first | (refine WhlIf.no (decide_eq_false ?a) ?_; (case a => (simp only [fd128, fm128, fd16, fm16, List.size_toArray]; omega))) | (refine WhlIf.yes (decide_eq_true ?a) ?_; (case a => (simp only [fd128, fm128, fd16, fm16, List.size_toArray]; omega))))))
local macro_rules | `(tactic| walk_at "call type:bytes") => `(tactic| (k_here; (with_reducible show wpAny _ _ (call (Value.type _) [Value.ref _]) _ _ _); k_dflt (refine' bytes_K ?F ?N ?l ?i ?r ?z ?h ?_; (case F => k_asm); (case N => k_asm); (case l => is_list); (case i => repeat constructor); (case r => (simp only [List.forall_mem_cons, List.not_mem_nil, false_implies, implies_true, and_true, fd128, fm128, fd16, fm16, List.size_toArray]; (repeat' apply And.intro) <;> omega)); (case z => (simp only [sizeLine_eq, List.length_cons, List.length_nil]; decide)); (case h => with_unfolding_all rfl); k_whole); intro h' t' k' F' N' hB'; (try dsimp only [List.map]); (try k_sweep)))
set_option maxHeartbeats 8000000 in
theorem spec_off1 (w : World) (v : Nat) (t : Tok) (hv : v < 128) (news : List (Addr × Obj)) :
    Spec w 229 [.int v t] news 12
      (fun r news' => ∃ b t', OffOk v b ∧ r = .bytes b.toArray t' ∧ news' = news) (fun _ => False) := by
  unfold Spec
  k_fill
  intro mean mg mb dp un gd cn cs' a ccd outer A₀ base h₀ L m s Q E B F X N Tt XB TB D hk hd' hu hret hexc
  refine wpAny_call ?_
  k_dflt (refine' code_defS ?k1 ?k2 ?k3 ?k4 ?k5 ?XB ?TB ?D ?T0 ?kA ?k6 ?k7 ?k8 ?k9 ?kB ?_ ?cK ?c2 ?c3 ?c4 ?c5; (case kA => exact rfl); (case k2 => k_asm); (case k1 => k_asm); (case XB => assumption); (case TB => assumption); (case D => assumption); (case T0 => exact KtsTurn.refl); (case k3 => k_asm); (case k4 => k_asm); (case k5 => k_asm); (case k6 => k_is); (case k7 => k_is); (case k8 => ktr_room); (case k9 => first | exact binds_K (X.keeps F.keep) rfl (by k_is) rfl rfl rfl | exact BindsTo.of_eq rfl); (case kB => exact locs rfl); (case cK => assumption); (case c2 => exact rfl); (case c3 => exact rfl); (case c4 => exact rfl); (case c5 => decide); k_whole; intro g' L' h' FG' F' N' B' X' T' D'; (try dsimp only); (try k_fold))
  k_with_none
  k_steps
  rename News h₀ L _ _ => N8
  rename Fr h₀ L _ m => F8
  rename AllB _ => A8
  exact hret _ _ _ _ ⟨_, _, off_ok1 hv A8.head, rfl, rfl⟩ F8 (fun p hp => N8 p (by simp only [List.mem_cons]; simp [hp]))
set_option maxHeartbeats 8000000 in
theorem spec_off2 (w : World) (v : Nat) (t : Tok) (hv : 128 ≤ v) (hv2 : v < 512) (news : List (Addr × Obj)) :
    Spec w 229 [.int v t] news 12
      (fun r news' => ∃ b t', OffOk v b ∧ r = .bytes b.toArray t' ∧ news' = news) (fun _ => False) := by
  unfold Spec
  k_fill
  intro mean mg mb dp un gd cn cs' a ccd outer A₀ base h₀ L m s Q E B F X N Tt XB TB D hk hd' hu hret hexc
  refine wpAny_call ?_
  k_dflt (refine' code_defS ?k1 ?k2 ?k3 ?k4 ?k5 ?XB ?TB ?D ?T0 ?kA ?k6 ?k7 ?k8 ?k9 ?kB ?_ ?cK ?c2 ?c3 ?c4 ?c5; (case kA => exact rfl); (case k2 => k_asm); (case k1 => k_asm); (case XB => assumption); (case TB => assumption); (case D => assumption); (case T0 => exact KtsTurn.refl); (case k3 => k_asm); (case k4 => k_asm); (case k5 => k_asm); (case k6 => k_is); (case k7 => k_is); (case k8 => ktr_room); (case k9 => first | exact binds_K (X.keeps F.keep) rfl (by k_is) rfl rfl rfl | exact BindsTo.of_eq rfl); (case kB => exact locs rfl); (case cK => assumption); (case c2 => exact rfl); (case c3 => exact rfl); (case c4 => exact rfl); (case c5 => decide); k_whole; intro g' L' h' FG' F' N' B' X' T' D'; (try dsimp only); (try k_fold))
  k_with_none
  k_steps
  rename News h₀ L _ _ => N8
  rename Fr h₀ L _ m => F8
  rename AllB _ => A8
  exact hret _ _ _ _ ⟨_, _, off_ok2 hv hv2 A8.head A8.tail.head, rfl, rfl⟩ F8 (fun p hp => N8 p (by simp only [List.mem_cons]; simp [hp]))
theorem spec_off (w : World) (v : Nat) (t : Tok) (hv : v < 512) (news : List (Addr × Obj)) :
    Spec w 229 [.int v t] news 12
      (fun r news' => ∃ b t', OffOk v b ∧ r = .bytes b.toArray t' ∧ news' = news) (fun _ => False) := by
  by_cases h : v < 128
  · exact spec_off1 w v t h news
  · exact spec_off2 w v t (by omega) hv news
theorem spec_off' (w : World) (v : Nat) (i : Int) (t : Tok) (hi : i = (v : Int)) (hv : v < 512) (news : List (Addr × Obj)) :
    Spec w 229 [.int i t] news 12
      (fun r news' => ∃ b t', OffOk v b ∧ r = .bytes b.toArray t' ∧ news' = news) (fun _ => False) := hi ▸ spec_off w v t hv news
end Mine

namespace Mine
theorem off27 : True := by w_top off; trivial
open PySem.Calls
local macro_rules | `(tactic| k_extra "exc") => `(tactic| (intro C9 c9 x9 tx9 e9 d9 k9 G9 h9 tk9 X9 F9 R9 c9' U9; obtain ⟨eC9, nn9⟩ := X9; subst eC9; clear c9'; (try dsimp only)))
local macro_rules | `(tactic| k_extra "pr") => `(tactic| (iterate 14 first | done | assumption | apply And.right))
local macro_rules | `(tactic| k_extra "pj") => `(tactic| first | (k_extra "pr"; done) | (apply And.left; k_extra "pr"; done))
local macro_rules | `(tactic| k_ne) => `(tactic| (refine neN ?_; (try dsimp only); with_reducible first | k_extra "pj" | (apply Nat.ne_of_lt; k_extra "pj") | (apply Nat.ne_of_gt; k_extra "pj") | (apply Ne.symm; k_extra "pj")))
local macro_rules | `(tactic| walk_at "exec Raise some none") => `(tactic| (k_here; refine raise_own rfl ?_))
local macro_rules | `(tactic| walk_at "call ref") => `(tactic| (k_here; k_dflt (refine' exc_made ?k1 ?k2 ?k3 ?k4 ?k5 ?k6 ?k7 ?k8 ?k9 ?k10 ?k11 ?k12 ?k13 ?_; (case k1 => k_asm); (case k2 => k_asm); (case k3 => k_asm); (case k4 => k_asm); (case k5 => k_asm); (case k6 => exact rfl); (case k7 => exact rfl); (case k8 => exact rfl); (case k9 => first | ktr_room | (dsimp only [Around.mark, Around.deeper, topA]; omega)); (case k10 => first | exact exc69 _ | exact exc45 _ | exact exc57 _); (case k11 => k_is); (case k12 => k_is); (case k13 => k_is); k_whole); intro e9 t9 d9 k9 tk9 h9 F9 N9 l9 l10 l11; (try k_sweep); (have ne9 := ne_of_lts N9 l9 l10 l11)))
local macro_rules | `(tactic| walk_at "RaisableO") => `(tactic| (k_here; k_dflt (refine raisableO_of (by assumption) (by assumption) (by assumption) (by first | exact exc69 _ | exact exc45 _ | exact exc57 _) ?_)))
local macro_rules | `(tactic| walk_at "leaving ref") => `(tactic| (k_here; k_dflt (refine leave_first (by assumption) (by assumption) (by assumption) rfl rfl rfl rfl rfl rfl (by assumption) ?_ rfl); intro h8 R8 U8))
local macro_rules | `(tactic| walk_at "binaryOp LShift int int") => `(tactic| (k_here; k_dflt (refine lshift_int (by first | decide | k_extra "shl0") (by k_extra "shl") ?_)))

local macro_rules | `(tactic| walk_at "subscriptTail") => `(tactic| (k_here; (with_reducible show wpAny _ _ (subscriptTail _ _ (Value.bytes (List.toArray _) _) (Value.ref _)) _ _ _); (with_reducible rename Fr _ _ _ _ => F'); (with_reducible rename News _ _ _ _ => N'); (refine cut_K (s := ⟨_, _, _, _, _⟩) F' N' (by constructor) (by constructor) ?hz ?_); (case hz => omega); intro h' t' k' F' N' cut9; (try k_sweep)))
local macro_rules | `(tactic| k_mem) => `(tactic| assumption)
def Halt (P : Prop) : Prop := P
theorem halt_of {P : Prop} (h : Halt P) : P := h
local macro_rules | `(tactic| walk_at "WhlIf") => `(tactic| (k_dflt (first | (refine WhlIf.no (decide_eq_false ?a) ?_; (case a => (simp only [fd128, fm128, fd16, fm16, List.size_toArray]; omega))) | (refine WhlIf.yes (decide_eq_true ?a) ?_; (case a => (simp only [fd128, fm128, fd16, fm16, List.size_toArray]; omega))))))
local macro_rules | `(tactic| walk_at "call type:bytes") => `(tactic| (k_here; (with_reducible show wpAny _ _ (call (Value.type _) [Value.ref _]) _ _ _); k_dflt (refine' bytes_K ?F ?N ?l ?i ?r ?z ?h ?_; (case F => k_asm); (case N => k_asm); (case l => is_list); (case i => repeat constructor); (case r => (simp only [List.forall_mem_cons, List.not_mem_nil, false_implies, implies_true, and_true, fd128, fm128, fd16, fm16, List.size_toArray]; (repeat' apply And.intro) <;> omega)); (case z => (simp only [sizeLine_eq, List.length_cons, List.length_nil]; decide)); (case h => with_unfolding_all rfl); k_whole); intro h' t' k' F' N' hB'; (try dsimp only [List.map]); (try k_sweep)))
local macro_rules | `(tactic| walk_at "CompEnd") => `(tactic| ((with_reducible rename News _ _ _ _ => NN); k_dflt (refine LCg.CompEnd.intro (by assumption) NN _ (fun p hp => hp) ?o ?s ?_; (case o => first | assumption | (simp only [LCg.Off3, and_true]; first | done | assumption)); (case s => first | lcg_src | assumption))))
local macro_rules | `(tactic| walk_at "binaryOp Mult ref int") => `(tactic| (k_here; (with_reducible show wpAny _ _ (binaryOp Operator.Mult (Value.ref _) (Value.int _ _)) _ _ _); (with_reducible rename (_ : Int) = 0 ∨ _ => HR); refine halt_of ?_))
theorem hdL_end {tail : List UInt8} {p s sh k : Nat} (h : p < 128) : hdL tail p s sh k = some (s, k) := by
  cases tail <;> rw [hdL, if_pos h]
theorem head1 {n sz : Nat} {a : UInt8} (h0 : a.toNat < 128) (hn : a.toNat / 16 % 8 = n) (hs : a.toNat % 16 = sz) : HeadOk n sz [a] := by
  refine ⟨a, [], rfl, by simp, hn, fun tail k => ?_⟩
  rw [hdL_end h0, hs]; rfl
theorem head2 {n sz : Nat} {a b : UInt8} (h0 : 128 ≤ a.toNat) (h1 : b.toNat < 128) (hn : a.toNat / 16 % 8 = n) (hs : a.toNat % 16 + b.toNat % 128 * 16 = sz) : HeadOk n sz [a, b] := by
  refine ⟨a, [b], rfl, by simp, hn, fun tail k => ?_⟩
  rw [List.cons_append, hdL, if_neg (Nat.not_lt_of_le h0), hdL_end h1, ← hs]; rfl
theorem head3 {n sz : Nat} {a b c : UInt8} (h0 : 128 ≤ a.toNat) (h1 : 128 ≤ b.toNat) (h2 : c.toNat < 128) (hn : a.toNat / 16 % 8 = n) (hs : a.toNat % 16 + b.toNat % 128 * 16 + c.toNat % 128 * 2048 = sz) : HeadOk n sz [a, b, c] := by
  refine ⟨a, [b, c], rfl, by simp, hn, fun tail k => ?_⟩
  rw [List.cons_append, hdL, if_neg (Nat.not_lt_of_le h0), List.cons_append, hdL, if_neg (Nat.not_lt_of_le h1), hdL_end h2, ← hs]; rfl
theorem head4 {n sz : Nat} {a b c d : UInt8} (h0 : 128 ≤ a.toNat) (h1 : 128 ≤ b.toNat) (h2 : 128 ≤ c.toNat) (h3 : d.toNat < 128) (hn : a.toNat / 16 % 8 = n) (hs : a.toNat % 16 + b.toNat % 128 * 16 + c.toNat % 128 * 2048 + d.toNat % 128 * 262144 = sz) : HeadOk n sz [a, b, c, d] := by
  refine ⟨a, [b, c, d], rfl, by simp, hn, fun tail k => ?_⟩
  rw [List.cons_append, hdL, if_neg (Nat.not_lt_of_le h0), List.cons_append, hdL, if_neg (Nat.not_lt_of_le h1), List.cons_append, hdL, if_neg (Nat.not_lt_of_le h2), hdL_end h3, ← hs]; rfl
theorem fm16n (s : Nat) : (s : Int).fmod 16 = ((s % 16 : Nat) : Int) := by rw [fm16]; rfl
theorem fd16n (s : Nat) : (s : Int).fdiv 16 = ((s / 16 : Nat) : Int) := by rw [fd16]; rfl
theorem fm128n (s : Nat) : (s : Int).fmod 128 = ((s % 128 : Nat) : Int) := by rw [fm128]; rfl
theorem hxA {n x a : Nat} (hn : n ≤ 7) (hx : x < 16) (h : a = n * 16 + x) : a < 128 ∧ a / 16 % 8 = n ∧ a % 16 = x := by omega
theorem hxB {n x a : Nat} (hn : n ≤ 7) (hx : x < 16) (h : a = n * 16 + x + 128) : 128 ≤ a ∧ a / 16 % 8 = n ∧ a % 16 = x := by omega
theorem hx_a0 {n sz : Nat} {a : UInt8} (hn : n ≤ 7) (hv : sz < 16) (h0 : (a.toNat : Int) = (n : Int) * 16 + (sz : Int).fmod 16) : HeadOk n sz [a] := by
  rw [fm16n, Nat.mod_eq_of_lt hv] at h0
  obtain ⟨p1, p2, p3⟩ := hxA hn hv (Int.ofNat.inj h0)
  exact head1 p1 p2 p3
theorem hxC {n sz : Nat} {a : UInt8} (hn : n ≤ 7) (h0 : (a.toNat : Int) = (n : Int) * 16 + (sz : Int).fmod 16 + 128) : 128 ≤ a.toNat ∧ a.toNat / 16 % 8 = n ∧ a.toNat % 16 = sz % 16 := by
  rw [fm16n] at h0
  exact hxB hn (Nat.mod_lt _ (Nat.succ_pos 15)) (Int.ofNat.inj h0)
theorem hxD {sz : Nat} (hv : sz < 1024) : sz / 16 < 128 := Nat.div_lt_of_lt_mul (Nat.lt_trans hv (Nat.le_of_ble_eq_true rfl))
theorem hxE {b : UInt8} {q : Nat} (h : b.toNat = q + 128) : 128 ≤ b.toNat := h ▸ Nat.le_add_left 128 q
theorem hx_a1 {n sz : Nat} {a b : UInt8} (hn : n ≤ 7) (hv : sz < 16) (h0 : (a.toNat : Int) = (n : Int) * 16 + (sz : Int).fmod 16 + 128) (h1 : (b.toNat : Int) = 0) : HeadOk n sz [a, b] := by
  obtain ⟨p1, p2, p3⟩ := hxC hn h0
  have e1 : b.toNat = 0 := Int.ofNat.inj h1
  exact head2 p1 (by rw [e1]; decide) p2 (by rw [p3, e1, Nat.mod_eq_of_lt hv]; rfl)
theorem hx_a2 {n sz : Nat} {a b c : UInt8} (hn : n ≤ 7) (hv : sz < 16) (h0 : (a.toNat : Int) = (n : Int) * 16 + (sz : Int).fmod 16 + 128) (h1 : (b.toNat : Int) = 0 + 128) (h2 : (c.toNat : Int) = 0) : HeadOk n sz [a, b, c] := by
  obtain ⟨p1, p2, p3⟩ := hxC hn h0
  have e1 : b.toNat = 0 + 128 := Int.ofNat.inj h1
  have e2 : c.toNat = 0 := Int.ofNat.inj h2
  exact head3 p1 (hxE e1) (by rw [e2]; decide) p2 (by rw [p3, e1, e2, Nat.mod_eq_of_lt hv]; rfl)
theorem hx_b0 {n sz : Nat} {a b : UInt8} (hn : n ≤ 7) (_hv : 16 ≤ sz) (hv2 : sz < 1024) (h0 : (a.toNat : Int) = (n : Int) * 16 + (sz : Int).fmod 16 + 128) (h1 : (b.toNat : Int) = ((sz : Int).fdiv 16).fmod 128) : HeadOk n sz [a, b] := by
  obtain ⟨p1, p2, p3⟩ := hxC hn h0
  rw [fd16n, fm128n, Nat.mod_eq_of_lt (hxD hv2)] at h1
  have e1 : b.toNat = sz / 16 := Int.ofNat.inj h1
  exact head2 p1 (e1 ▸ hxD hv2) p2 (by rw [p3, e1, Nat.mod_eq_of_lt (hxD hv2), Nat.mod_add_div'])
theorem hx_b1 {n sz : Nat} {a b c : UInt8} (hn : n ≤ 7) (_hv : 16 ≤ sz) (hv2 : sz < 1024) (h0 : (a.toNat : Int) = (n : Int) * 16 + (sz : Int).fmod 16 + 128) (h1 : (b.toNat : Int) = ((sz : Int).fdiv 16).fmod 128 + 128) (h2 : (c.toNat : Int) = 0) : HeadOk n sz [a, b, c] := by
  obtain ⟨p1, p2, p3⟩ := hxC hn h0
  rw [fd16n, fm128n, Nat.mod_eq_of_lt (hxD hv2)] at h1
  have e1 : b.toNat = sz / 16 + 128 := Int.ofNat.inj h1
  have e2 : c.toNat = 0 := Int.ofNat.inj h2
  exact head3 p1 (hxE e1) (by rw [e2]; decide) p2 (by rw [p3, e1, e2, Nat.add_mod_right, Nat.mod_eq_of_lt (hxD hv2), Nat.mod_add_div']; rfl)
theorem hx_b2 {n sz : Nat} {a b c d : UInt8} (hn : n ≤ 7) (_hv : 16 ≤ sz) (hv2 : sz < 1024) (h0 : (a.toNat : Int) = (n : Int) * 16 + (sz : Int).fmod 16 + 128) (h1 : (b.toNat : Int) = ((sz : Int).fdiv 16).fmod 128 + 128) (h2 : (c.toNat : Int) = 0 + 128) (h3 : (d.toNat : Int) = 0) : HeadOk n sz [a, b, c, d] := by
  obtain ⟨p1, p2, p3⟩ := hxC hn h0
  rw [fd16n, fm128n, Nat.mod_eq_of_lt (hxD hv2)] at h1
  have e1 : b.toNat = sz / 16 + 128 := Int.ofNat.inj h1
  have e2 : c.toNat = 0 + 128 := Int.ofNat.inj h2
  have e3 : d.toNat = 0 := Int.ofNat.inj h3
  exact head4 p1 (hxE e1) (hxE e2) (by rw [e3]; decide) p2 (by rw [p3, e1, e2, e3, Nat.add_mod_right, Nat.mod_eq_of_lt (hxD hv2), Nat.mod_add_div']; rfl)
set_option maxHeartbeats 8000000 in
theorem spec_head (w : World) (n sz : Nat) (r : Int) (t t1 t2 : Tok) (hn : n ≤ 7) (hv : sz < 1024) (h0 : 0 ≤ r) (h3 : r < 3) (news : List (Addr × Obj)) :
    Spec w 222 [.int n t, .int sz t1, .int r t2] news 12
      (fun r news' => ∃ b t', HeadOk n sz b ∧ r = .bytes b.toArray t' ∧ news' = news) (fun _ => False) := by
  have hv2 := hv
  have hr : r = 0 ∨ r = 1 ∨ r = 2 := by omega
  unfold Spec
  k_fill
  intro mean mg mb dp un gd cn cs' a ccd outer A₀ base h₀ L m s Q E B F X N Tt XB TB D hk hd' hu hret hexc
  refine wpAny_call ?_
  k_dflt (refine' code_defS ?k1 ?k2 ?k3 ?k4 ?k5 ?XB ?TB ?D ?T0 ?kA ?k6 ?k7 ?k8 ?k9 ?kB ?_ ?cK ?c2 ?c3 ?c4 ?c5; (case kA => exact rfl); (case k2 => k_asm); (case k1 => k_asm); (case XB => assumption); (case TB => assumption); (case D => assumption); (case T0 => exact KtsTurn.refl); (case k3 => k_asm); (case k4 => k_asm); (case k5 => k_asm); (case k6 => k_is); (case k7 => k_is); (case k8 => ktr_room); (case k9 => first | exact binds_K (X.keeps F.keep) rfl (by k_is) rfl rfl rfl | exact BindsTo.of_eq rfl); (case kB => exact locs rfl); (case cK => assumption); (case c2 => exact rfl); (case c3 => exact rfl); (case c4 => exact rfl); (case c5 => decide); k_whole; intro g' L' h' FG' F' N' B' X' T' D'; (try dsimp only); (try k_fold))
  k_with_none
  k_steps
  by_cases hv : sz < 16
  · k_steps
    unfold Halt
    rename (_ : Int) = 0 ∨ _ => hr
    rcases hr with rfl | rfl | rfl
    · k_steps
      rename News h₀ L _ _ => N8
      rename Fr h₀ L _ m => F8
      rename AllB _ => A8
      exact hret _ _ _ _ ⟨_, _, hx_a0 hn hv A8.head, rfl, rfl⟩ F8 (fun p hp => N8 p (by simp only [List.mem_cons]; simp [hp]))
    · k_steps
      rename News h₀ L _ _ => N8
      rename Fr h₀ L _ m => F8
      rename AllB _ => A8
      exact hret _ _ _ _ ⟨_, _, hx_a1 hn hv A8.head A8.tail.head, rfl, rfl⟩ F8 (fun p hp => N8 p (by simp only [List.mem_cons]; simp [hp]))
    · k_steps
      rename News h₀ L _ _ => N8
      rename Fr h₀ L _ m => F8
      rename AllB _ => A8
      exact hret _ _ _ _ ⟨_, _, hx_a2 hn hv A8.head A8.tail.head A8.tail.tail.head, rfl, rfl⟩ F8 (fun p hp => N8 p (by simp only [List.mem_cons]; simp [hp]))
  · replace hv : 16 ≤ sz := by omega
    k_steps
    unfold Halt
    rename (_ : Int) = 0 ∨ _ => hr
    rcases hr with rfl | rfl | rfl
    · k_steps
      rename News h₀ L _ _ => N8
      rename Fr h₀ L _ m => F8
      rename AllB _ => A8
      exact hret _ _ _ _ ⟨_, _, hx_b0 hn hv hv2 A8.head A8.tail.head, rfl, rfl⟩ F8 (fun p hp => N8 p (by simp only [List.mem_cons]; simp [hp]))
    · k_steps
      rename News h₀ L _ _ => N8
      rename Fr h₀ L _ m => F8
      rename AllB _ => A8
      exact hret _ _ _ _ ⟨_, _, hx_b1 hn hv hv2 A8.head A8.tail.head A8.tail.tail.head, rfl, rfl⟩ F8 (fun p hp => N8 p (by simp only [List.mem_cons]; simp [hp]))
    · k_steps
      rename News h₀ L _ _ => N8
      rename Fr h₀ L _ m => F8
      rename AllB _ => A8
      exact hret _ _ _ _ ⟨_, _, hx_b2 hn hv hv2 A8.head A8.tail.head A8.tail.tail.head A8.tail.tail.tail.head, rfl, rfl⟩ F8 (fun p hp => N8 p (by simp only [List.mem_cons]; simp [hp]))
end Mine

namespace Mine
theorem off28 : True := by w_top off; trivial
open PySem.Calls
local macro_rules | `(tactic| k_extra "exc") => `(tactic| (intro C9 c9 x9 tx9 e9 d9 k9 G9 h9 tk9 X9 F9 R9 c9' U9; obtain ⟨eC9, nn9⟩ := X9; subst eC9; clear c9'; (try dsimp only)))
local macro_rules | `(tactic| k_extra "pr") => `(tactic| (iterate 14 first | done | assumption | apply And.right))
local macro_rules | `(tactic| k_extra "pj") => `(tactic| first | (k_extra "pr"; done) | (apply And.left; k_extra "pr"; done))
local macro_rules | `(tactic| k_ne) => `(tactic| (refine neN ?_; (try dsimp only); with_reducible first | k_extra "pj" | (apply Nat.ne_of_lt; k_extra "pj") | (apply Nat.ne_of_gt; k_extra "pj") | (apply Ne.symm; k_extra "pj")))
local macro_rules | `(tactic| walk_at "pad") => `(tactic| fail)
local macro_rules | `(tactic| walk_at "exec Raise some none") => `(tactic| (k_here; refine raise_own rfl ?_))
local macro_rules | `(tactic| walk_at "call ref") => `(tactic| (k_here; k_dflt (refine' exc_made ?k1 ?k2 ?k3 ?k4 ?k5 ?k6 ?k7 ?k8 ?k9 ?k10 ?k11 ?k12 ?k13 ?_; (case k1 => k_asm); (case k2 => k_asm); (case k3 => k_asm); (case k4 => k_asm); (case k5 => k_asm); (case k6 => exact rfl); (case k7 => exact rfl); (case k8 => exact rfl); (case k9 => first | ktr_room | (dsimp only [Around.mark, Around.deeper, topA]; omega)); (case k10 => first | exact exc69 _ | exact exc45 _ | exact exc57 _); (case k11 => k_is); (case k12 => k_is); (case k13 => k_is); k_whole); intro e9 t9 d9 k9 tk9 h9 F9 N9 l9 l10 l11; (try k_sweep); (have ne9 := ne_of_lts N9 l9 l10 l11)))
local macro_rules | `(tactic| walk_at "RaisableO") => `(tactic| (k_here; k_dflt (refine raisableO_of (by assumption) (by assumption) (by assumption) (by first | exact exc69 _ | exact exc45 _ | exact exc57 _) ?_)))
local macro_rules | `(tactic| walk_at "leaving ref") => `(tactic| (k_here; k_dflt (refine leave_first (by assumption) (by assumption) (by assumption) rfl rfl rfl rfl rfl rfl (by assumption) ?_ rfl); intro h8 R8 U8))
local macro_rules | `(tactic| walk_at "binaryOp LShift int int") => `(tactic| (k_here; k_dflt (refine lshift_int (by first | decide | k_extra "shl0") (by k_extra "shl") ?_)))

local macro_rules | `(tactic| walk_at "subscriptTail") => `(tactic| (k_here; (with_reducible show wpAny _ _ (subscriptTail _ _ (Value.bytes (List.toArray _) _) (Value.ref _)) _ _ _); (with_reducible rename Fr _ _ _ _ => F'); (with_reducible rename News _ _ _ _ => N'); (refine cut_K (s := ⟨_, _, _, _, _⟩) F' N' (by constructor) (by constructor) ?hz ?_); (case hz => omega); intro h' t' k' F' N' cut9; (try k_sweep)))
local macro_rules | `(tactic| k_mem) => `(tactic| assumption)
theorem pack_ok1 {c : List UInt8} {b : UInt8} (hv : c.length < 128) (h : (b.toNat : Int) = (c.toArray.size : Int).fmod 128) : PackOk c ([b] ++ c) := by
  rw [fm128, List.size_toArray] at h
  refine ⟨[b], rfl, by simp, by simp, fun tail k => ?_⟩
  simp only [List.cons_append, List.nil_append, sizeP]
  rw [if_pos (by omega)]
  simp only [List.length_cons, List.length_nil]
  congr 2
  omega
theorem pack_ok2 {c : List UInt8} {b d : UInt8} (hv : 128 ≤ c.length) (hv2 : c.length < 512) (h : (b.toNat : Int) = (c.toArray.size : Int).fmod 128 + 128) (h2 : (d.toNat : Int) = ((c.toArray.size : Int).fdiv 128).fmod 128) : PackOk c ([b, d] ++ c) := by
  rw [fm128, List.size_toArray] at h
  rw [fm128, fd128, List.size_toArray] at h2
  refine ⟨[b, d], rfl, by simp, by simp, fun tail k => ?_⟩
  simp only [List.cons_append, List.nil_append, sizeP]
  rw [if_neg (by omega), if_pos (by omega)]
  simp only [List.length_cons, List.length_nil]
  congr 2
  omega
local macro_rules | `(tactic| walk_at "WhlIf") => `(tactic| (k_dflt (first | (refine WhlIf.no (decide_eq_false ?a) ?_; (case a => (simp only [fd128, fm128, fd16, fm16, List.size_toArray]; omega))) | (refine WhlIf.yes (decide_eq_true ?a) ?_; (case a => (simp only [fd128, fm128, fd16, fm16, List.size_toArray]; omega))))))
local macro_rules | `(tactic| walk_at "call type:bytes") => `(tactic| (k_here; (with_reducible show wpAny _ _ (call (Value.type _) [Value.ref _]) _ _ _); k_dflt (refine' bytes_K ?F ?N ?l ?i ?r ?z ?h ?_; (case F => k_asm); (case N => k_asm); (case l => is_list); (case i => repeat constructor); (case r => (simp only [List.forall_mem_cons, List.not_mem_nil, false_implies, implies_true, and_true, fd128, fm128, fd16, fm16, List.size_toArray]; (repeat' apply And.intro) <;> omega)); (case z => (simp only [sizeLine_eq, List.length_cons, List.length_nil]; decide)); (case h => with_unfolding_all rfl); k_whole); intro h' t' k' F' N' hB'; (try dsimp only [List.map]); (try k_sweep)))
local macro_rules | `(tactic| walk_at "CompEnd") => `(tactic| ((with_reducible rename News _ _ _ _ => NN); k_dflt (refine LCg.CompEnd.intro (by assumption) NN _ (fun p hp => hp) ?o ?s ?_; (case o => first | assumption | (simp only [LCg.Off3, and_true]; first | done | assumption)); (case s => first | lcg_src | assumption))))
local macro_rules | `(tactic| walk_at "binaryOp Add bytes bytes") => `(tactic| (k_here; k_dflt (refine' bytes_add_K ?z rfl ?_; (case z => (simp only [List.size_toArray, List.length_cons, List.length_nil]; omega)); k_whole); intro _ _))
set_option maxHeartbeats 8000000 in
theorem spec_pack1 (w : World) (c : List UInt8) (t : Tok) (hv : c.length < 128) (news : List (Addr × Obj)) :
    Spec w 234 [.bytes c.toArray t] news 12
      (fun r news' => ∃ b t', PackOk c b ∧ r = .bytes b.toArray t' ∧ news' = news) (fun _ => False) := by
  unfold Spec
  k_fill
  intro mean mg mb dp un gd cn cs' a ccd outer A₀ base h₀ L m s Q E B F X N Tt XB TB D hk hd' hu hret hexc
  refine wpAny_call ?_
  k_dflt (refine' code_defS ?k1 ?k2 ?k3 ?k4 ?k5 ?XB ?TB ?D ?T0 ?kA ?k6 ?k7 ?k8 ?k9 ?kB ?_ ?cK ?c2 ?c3 ?c4 ?c5; (case kA => exact rfl); (case k2 => k_asm); (case k1 => k_asm); (case XB => assumption); (case TB => assumption); (case D => assumption); (case T0 => exact KtsTurn.refl); (case k3 => k_asm); (case k4 => k_asm); (case k5 => k_asm); (case k6 => k_is); (case k7 => k_is); (case k8 => ktr_room); (case k9 => first | exact binds_K (X.keeps F.keep) rfl (by k_is) rfl rfl rfl | exact BindsTo.of_eq rfl); (case kB => exact locs rfl); (case cK => assumption); (case c2 => exact rfl); (case c3 => exact rfl); (case c4 => exact rfl); (case c5 => decide); k_whole; intro g' L' h' FG' F' N' B' X' T' D'; (try dsimp only); (try k_fold))
  k_with_none
  k_steps
  rename News h₀ L _ _ => N8
  rename Fr h₀ L _ m => F8
  rename AllB _ => A8
  exact hret _ _ _ _ ⟨_, _, pack_ok1 hv A8.head, rfl, rfl⟩ F8 (fun p hp => N8 p (by simp only [List.mem_cons]; simp [hp]))
set_option maxHeartbeats 8000000 in
theorem spec_pack2 (w : World) (c : List UInt8) (t : Tok) (hv : 128 ≤ c.length) (hv2 : c.length < 512) (news : List (Addr × Obj)) :
    Spec w 234 [.bytes c.toArray t] news 12
      (fun r news' => ∃ b t', PackOk c b ∧ r = .bytes b.toArray t' ∧ news' = news) (fun _ => False) := by
  unfold Spec
  k_fill
  intro mean mg mb dp un gd cn cs' a ccd outer A₀ base h₀ L m s Q E B F X N Tt XB TB D hk hd' hu hret hexc
  refine wpAny_call ?_
  k_dflt (refine' code_defS ?k1 ?k2 ?k3 ?k4 ?k5 ?XB ?TB ?D ?T0 ?kA ?k6 ?k7 ?k8 ?k9 ?kB ?_ ?cK ?c2 ?c3 ?c4 ?c5; (case kA => exact rfl); (case k2 => k_asm); (case k1 => k_asm); (case XB => assumption); (case TB => assumption); (case D => assumption); (case T0 => exact KtsTurn.refl); (case k3 => k_asm); (case k4 => k_asm); (case k5 => k_asm); (case k6 => k_is); (case k7 => k_is); (case k8 => ktr_room); (case k9 => first | exact binds_K (X.keeps F.keep) rfl (by k_is) rfl rfl rfl | exact BindsTo.of_eq rfl); (case kB => exact locs rfl); (case cK => assumption); (case c2 => exact rfl); (case c3 => exact rfl); (case c4 => exact rfl); (case c5 => decide); k_whole; intro g' L' h' FG' F' N' B' X' T' D'; (try dsimp only); (try k_fold))
  k_with_none
  k_steps
  rename News h₀ L _ _ => N8
  rename Fr h₀ L _ m => F8
  rename AllB _ => A8
  exact hret _ _ _ _ ⟨_, _, pack_ok2 hv hv2 A8.head A8.tail.head, rfl, rfl⟩ F8 (fun p hp => N8 p (by simp only [List.mem_cons]; simp [hp]))
theorem spec_pack (w : World) (c : List UInt8) (t : Tok) (hv : c.length < 512) (news : List (Addr × Obj)) :
    Spec w 234 [.bytes c.toArray t] news 12
      (fun r news' => ∃ b t', PackOk c b ∧ r = .bytes b.toArray t' ∧ news' = news) (fun _ => False) := by
  by_cases h : c.length < 128
  · exact spec_pack1 w c t h news
  · exact spec_pack2 w c t (by omega) hv news
end Mine

namespace Mine
theorem off29 : True := by w_top off; trivial
open PySem.Calls
local macro_rules | `(tactic| k_extra "exc") => `(tactic| (intro C9 c9 x9 tx9 e9 d9 k9 G9 h9 tk9 X9 F9 R9 c9' U9; obtain ⟨eC9, nn9⟩ := X9; subst eC9; clear c9'; (try dsimp only)))
local macro_rules | `(tactic| k_extra "pr") => `(tactic| (iterate 14 first | done | assumption | apply And.right))
local macro_rules | `(tactic| k_extra "pj") => `(tactic| first | (k_extra "pr"; done) | (apply And.left; k_extra "pr"; done))
local macro_rules | `(tactic| k_ne) => `(tactic| (refine neN ?_; (try dsimp only); with_reducible first | k_extra "pj" | (apply Nat.ne_of_lt; k_extra "pj") | (apply Nat.ne_of_gt; k_extra "pj") | (apply Ne.symm; k_extra "pj")))
local macro_rules | `(tactic| walk_at "exec Raise some none") => `(tactic| (k_here; refine raise_own rfl ?_))
local macro_rules | `(tactic| walk_at "call ref") => `(tactic| (k_here; k_dflt (refine' exc_made ?k1 ?k2 ?k3 ?k4 ?k5 ?k6 ?k7 ?k8 ?k9 ?k10 ?k11 ?k12 ?k13 ?_; (case k1 => k_asm); (case k2 => k_asm); (case k3 => k_asm); (case k4 => k_asm); (case k5 => k_asm); (case k6 => exact rfl); (case k7 => exact rfl); (case k8 => exact rfl); (case k9 => first | ktr_room | (dsimp only [Around.mark, Around.deeper, topA]; omega)); (case k10 => first | exact exc69 _ | exact exc45 _ | exact exc57 _); (case k11 => k_is); (case k12 => k_is); (case k13 => k_is); k_whole); intro e9 t9 d9 k9 tk9 h9 F9 N9 l9 l10 l11; (try k_sweep); (have ne9 := ne_of_lts N9 l9 l10 l11)))
local macro_rules | `(tactic| walk_at "RaisableO") => `(tactic| (k_here; k_dflt (refine raisableO_of (by assumption) (by assumption) (by assumption) (by first | exact exc69 _ | exact exc45 _ | exact exc57 _) ?_)))
local macro_rules | `(tactic| walk_at "leaving ref") => `(tactic| (k_here; k_dflt (refine leave_first (by assumption) (by assumption) (by assumption) rfl rfl rfl rfl rfl rfl (by assumption) ?_ rfl); intro h8 R8 U8))
local macro_rules | `(tactic| walk_at "binaryOp LShift int int") => `(tactic| (k_here; k_dflt (refine lshift_int (by first | decide | k_extra "shl0") (by k_extra "shl") ?_)))

local macro_rules | `(tactic| walk_at "subscriptTail") => `(tactic| (k_here; (with_reducible show wpAny _ _ (subscriptTail _ _ (Value.bytes (List.toArray _) _) (Value.ref _)) _ _ _); (with_reducible rename Fr _ _ _ _ => F'); (with_reducible rename News _ _ _ _ => N'); (refine cut_K (s := ⟨_, _, _, _, _⟩) F' N' (by constructor) (by constructor) ?hz ?_); (case hz => omega); intro h' t' k' F' N' cut9; (try k_sweep)))
local macro_rules | `(tactic| k_mem) => `(tactic| assumption)
theorem headOk_len {n sz : Nat} {b : List UInt8} (h : HeadOk n sz b) : 0 < b.length ∧ b.length ≤ 6 := by
  obtain ⟨o, r, rfl, h, _⟩ := h
  exact ⟨Nat.succ_pos _, h⟩
theorem packOk_len {c b : List UInt8} {sz : Nat} (h : PackOk c b) (e : c.length = sz) (k : sz ≤ 130) : 0 < b.length ∧ b.length ≤ 133 := by
  obtain ⟨p, rfl, h, h', _⟩ := h
  rw [List.length_append]; omega
theorem app_le {a b : List UInt8} {x y : Nat} (h : a.length ≤ x := by k_extra "le") (k : b.length ≤ y := by k_extra "le") : (a ++ b).length ≤ x + y := by rw [List.length_append]; exact Nat.add_le_add h k
theorem z_add {a b : List UInt8} {x y : Nat} (h : a.length ≤ x := by k_extra "le") (k : b.length ≤ y := by k_extra "le") (z : x + y ≤ 16777216 := by exact Nat.le_of_ble_eq_true rfl) : a.toArray.size + b.toArray.size ≤ 16777216 := Nat.le_trans (Nat.add_le_add h k) z
theorem z_len {a : List UInt8} {x : Nat} (h : a.length ≤ x := by k_extra "le") (z : x ≤ 1099511627776 := by exact Nat.le_of_ble_eq_true rfl) : a.toArray.size ≤ 1099511627776 := Nat.le_trans h z
theorem ent_len {a b c : List UInt8} (h : 0 < a.length ∧ a.length ≤ 6) (k : b.length ≤ 4) (l : 0 < c.length ∧ c.length ≤ 133) : (a ++ b ++ c).length ≤ 400 ∧ 0 < (a ++ b ++ c).length := by
  simp only [List.length_append]; omega
theorem gt4 {n : Nat} (b : n ≤ 7) (h : ¬ (n = 0 ∨ n = 5)) : 4 < (n : Int) ↔ n = 6 ∨ n = 7 := by omega
theorem is6 {n : Nat} (h : (n : Int) = 6) : n = 6 := Int.ofNat.inj h
theorem not6 {n : Nat} {P : Prop} (h : (n : Int) ≠ 6) : ¬ (n = 6 ∧ P) := fun q => h (congrArg Int.ofNat q.1)
theorem ne_succ {c sz : Nat} (h : c = sz) : ¬ c = sz + 1 := fun e => Nat.succ_ne_self sz (e.symm.trans h)
theorem told_eq (sz : Nat) (way : Int) : (sz : Int) + (if (way == 4) = true then 1 else 0) = ((sz + if way = 4 then 1 else 0 : Nat) : Int) := by
  by_cases h : way = 4
  · subst h; rfl
  · rw [if_neg h, if_neg (by rw [beq_iff_eq]; exact h)]; rfl
theorem told_lt {sz : Nat} {way : Int} (h : sz ≤ 130) : sz + (if way = 4 then 1 else 0) < 1024 := by split <;> omega
theorem pk_lt {c : List UInt8} {sz : Nat} (h : c.length = sz) (h2 : sz ≤ 130) : c.length < 512 := by omega
section
variable {w : World} {mean : ExcName → Option Value} {mg mb : Str → Option Value} {dp un : Nat} {gd : Option (List Code)} {cn : Str} {cs : Scope} {a : Addr} {ccd : Value} {A₀ : Around} {base h₀ : Heap} {L : Addr} {m : Str → Option Value} {s : Shared} {Q E : Value → Shared → Prop} {news : List (Addr × Obj)}
theorem Spec.goF {f : Addr} {vs : List Value} {k : Nat} {Ret : Value → List (Addr × Obj) → Prop} (S : Spec w f vs news k Ret (fun _ => False))
    (B : Below A₀ base [] h₀) (F : Fr h₀ L s.heap m) (X : (hd.heap_39 w.params).In h₀) (N : News h₀ L s.heap news) (T : Top VW LS mean mg mb h₀) (XB : (hd.heap_39 w.params).In base) (TB : Top VW LS mean mg mb base) (hk : cs.kind = .function) (hd : dp + k < recursionLimit) (hu : un + 8 * k < cLine)
    (h : ∀ v news' h' tk', Ret v news' → Fr h₀ L h' m → News h₀ L h' news' → Q v { s with heap := h', toks := tk' }) :
    wpAny (model PySem.Challenge.rw_pb0100_01.row.prog w) (topA dp un gd cn cs L a ccd []) (call (.ref f) vs) Q E s :=
  S _ _ _ _ _ _ _ _ _ _ _ _ _ _ _ _ _ _ _ B F X N T XB TB (kts_nil _) hk hd hu h (fun _ _ _ _ _ _ _ _ _ _ h => h.elim)
theorem use_head {n sz : Nat} {i r : Int} {t t1 t2 : Tok}
    (h : ∀ b t' h' tk', HeadOk n sz b → (0 < b.length ∧ b.length ≤ 6) → Fr h₀ L h' m → News h₀ L h' news → Q (.bytes b.toArray t') { s with heap := h', toks := tk' })
    (B : Below A₀ base [] h₀ := by k_asm) (F : Fr h₀ L s.heap m := by k_asm) (X : (hd.heap_39 w.params).In h₀ := by k_asm) (N : News h₀ L s.heap news := by k_asm) (T : Top VW LS mean mg mb h₀ := by k_asm) (XB : (hd.heap_39 w.params).In base := by k_asm) (TB : Top VW LS mean mg mb base := by k_asm) (hk : cs.kind = .function := by exact rfl) (hd : dp + 12 < recursionLimit := by first | ktr_room | k_room) (hu : un + 8 * 12 < cLine := by first | ktr_units | ke_room)
    (hi : i = (sz : Int) := by first | exact told_eq _ _ | exact rfl) (hn : n ≤ 7 := by assumption) (hv : sz < 1024 := by first | exact told_lt (by assumption) | omega) (h0 : 0 ≤ r := by assumption) (h3 : r < 3 := by assumption) :
    wpAny (model PySem.Challenge.rw_pb0100_01.row.prog w) (topA dp un gd cn cs L a ccd []) (call (.ref 222) [.int n t, .int i t1, .int r t2]) Q E s := by
  subst hi
  refine (spec_head w n sz r t t1 t2 hn hv h0 h3 news).goF B F X N T XB TB hk hd hu fun v n' h' tk' R F' N' => ?_
  obtain ⟨b, t', ok, rfl, rfl⟩ := R
  exact h b t' h' tk' ok (headOk_len ok) F' N'
theorem use_pack {c : List UInt8} {t : Tok} {sz : Nat}
    (h : ∀ b t' h' tk', PackOk c b → (0 < b.length ∧ b.length ≤ 133) → Fr h₀ L h' m → News h₀ L h' news → Q (.bytes b.toArray t') { s with heap := h', toks := tk' })
    (B : Below A₀ base [] h₀ := by k_asm) (F : Fr h₀ L s.heap m := by k_asm) (X : (hd.heap_39 w.params).In h₀ := by k_asm) (N : News h₀ L s.heap news := by k_asm) (T : Top VW LS mean mg mb h₀ := by k_asm) (XB : (hd.heap_39 w.params).In base := by k_asm) (TB : Top VW LS mean mg mb base := by k_asm) (hk : cs.kind = .function := by exact rfl) (hd : dp + 12 < recursionLimit := by first | ktr_room | k_room) (hu : un + 8 * 12 < cLine := by first | ktr_units | ke_room)
    (hv : c.length = sz := by assumption) (hz : sz ≤ 130 := by assumption) :
    wpAny (model PySem.Challenge.rw_pb0100_01.row.prog w) (topA dp un gd cn cs L a ccd []) (call (.ref 234) [.bytes c.toArray t]) Q E s := by
  refine (spec_pack w c t (pk_lt hv hz) news).goF B F X N T XB TB hk hd hu fun v n' h' tk' R F' N' => ?_
  obtain ⟨b, t', ok, rfl, rfl⟩ := R
  exact h b t' h' tk' ok (packOk_len ok hv hz) F' N'
theorem use_off {v : Nat} {i : Int} {t : Tok}
    (h : ∀ b t' h' tk', OffOk v b → b.length ≤ 3 → Fr h₀ L h' m → News h₀ L h' news → Q (.bytes b.toArray t') { s with heap := h', toks := tk' })
    (B : Below A₀ base [] h₀ := by k_asm) (F : Fr h₀ L s.heap m := by k_asm) (X : (hd.heap_39 w.params).In h₀ := by k_asm) (N : News h₀ L s.heap news := by k_asm) (T : Top VW LS mean mg mb h₀ := by k_asm) (XB : (hd.heap_39 w.params).In base := by k_asm) (TB : Top VW LS mean mg mb base := by k_asm) (hk : cs.kind = .function := by exact rfl) (hd : dp + 12 < recursionLimit := by first | ktr_room | k_room) (hu : un + 8 * 12 < cLine := by first | ktr_units | ke_room)
    (hi : i = (v : Int) := by exact offV_eq (by assumption) (by assumption)) (hv : v < 512 := by exact offV_lt (by assumption) (by assumption)) :
    wpAny (model PySem.Challenge.rw_pb0100_01.row.prog w) (topA dp un gd cn cs L a ccd []) (call (.ref 229) [.int i t]) Q E s := by
  subst hi
  refine (spec_off w v t hv news).goF B F X N T XB TB hk hd hu fun v n' h' tk' R F' N' => ?_
  obtain ⟨b, t', ok, rfl, rfl⟩ := R
  exact h b t' h' tk' ok ok.1 F' N'
theorem use_next {b : Int} {t : Tok} {T C : Addr} {o oc : Obj}
    (h : ∀ r t' o' oc' h' tk', 0 ≤ r → r < b → TapeO w T C o' oc' → Fr h₀ L h' m → News h₀ L h' ((T, o') :: (C, oc') :: news) → Q (.int r t') { s with heap := h', toks := tk' })
    (H : TapeO w T C o oc := by first | with_reducible assumption | k_extra "tape")
    (B : Below A₀ base [] h₀ := by k_asm) (F : Fr h₀ L s.heap m := by k_asm) (X : (hd.heap_39 w.params).In h₀ := by k_asm)
    (N : News h₀ L s.heap ((T, o) :: (C, oc) :: news) := by (with_reducible rename News _ _ _ _ => NN); first | exact NN | exact rot1 NN | exact rot2 NN | exact rot3 NN | exact rot4 NN | exact rot5 NN | exact rot6 NN | exact rot1' NN)
    (TT : Top VW LS mean mg mb h₀ := by k_asm) (XB : (hd.heap_39 w.params).In base := by k_asm) (TB : Top VW LS mean mg mb base := by k_asm) (hk : cs.kind = .function := by exact rfl) (hd : dp + 12 < recursionLimit := by first | ktr_room | k_room) (hu : un + 8 * 12 < cLine := by first | ktr_units | ke_room)
    (hb : 0 < b := by first | omega | (simp only [List.size_toArray]; omega)) (hb2 : b ≤ 1000000 := by first | omega | (simp only [List.size_toArray]; omega)) (hTC : T ≠ C := by first | assumption | k_ne) (hT : ∀ p ∈ news, p.1 ≠ T := by k_all) (hC : ∀ p ∈ news, p.1 ≠ C := by k_all) :
    wpAny (model PySem.Challenge.rw_pb0100_01.row.prog w) (topA dp un gd cn cs L a ccd []) (call (.ref 217) [.ref T, .int b t]) Q E s := by
  refine (spec_next w b t T C o oc news hb hb2 H hTC hT hC).goF B F X N TT XB TB hk hd hu fun v n' h' tk' R F' N' => ?_
  obtain ⟨r, t', o', oc', lo, hi, rfl, H', rfl⟩ := R
  exact h r t' o' oc' h' tk' lo hi H' F' N'
theorem use_told {l : List UInt8} {hx hdx kx sx : Addr} {so : Obj} {kvs : List (Int × Value)} {n1 many at0 : Nat} {tm ka kb t1 t2 : Tok} {ha hb i : Int}
    (h : ∀ v news' h' tk', ((scanP l at0 many (kvs.map (·.1)) = none ∧ v = .none ∧ news' = news) ∨ ∃ z D o, scanP l at0 many (kvs.map (·.1)) = some z ∧ v = .ref D ∧ toldT at0 z o ∧ news' = (D, o) :: news ∧ ∀ p ∈ news, p.1 < D) → Fr h₀ L h' m → News h₀ L h' news' → Q v { s with heap := h', toks := tk' })
    (B : Below A₀ base [] h₀ := by k_asm) (F : Fr h₀ L s.heap m := by k_asm) (X : (hd.heap_39 w.params).In h₀ := by k_asm) (N : News h₀ L s.heap news := by k_asm) (T : Top VW LS mean mg mb h₀ := by k_asm) (XB : (hd.heap_39 w.params).In base := by k_asm) (TB : Top VW LS mean mg mb base := by k_asm) (hk : cs.kind = .function := by exact rfl) (hd : dp + 40 < recursionLimit := by first | ktr_room | k_room) (hu : un + 8 * 40 < cLine := by first | ktr_units | ke_room)
    (hi : i = (at0 : Int) := by exact rfl) (hh1 : (hx, instObj 122 hdx) ∈ news := by k_mem) (hh2 : (hdx, dictOf [⟨ha, .str "size" ka, .int many tm⟩, ⟨hb, .str "known" kb, .ref kx⟩] n1) ∈ news := by k_mem)
    (hs1 : (sx, so) ∈ news := by k_mem) (hs2 : so.IsDictOf (PySem.intKind PySem.Challenge.rw_pb0100_01.row.prog w) kvs := by assumption) (hs3 : (sx == sysModules) = false := by assumption)
    (hl : l.length < 4096 := by (simp only [List.length_append, List.length_replicate, List.length_take, List.size_toArray]; omega)) (h0 : at0 ≤ l.length := by (simp only [List.length_append, List.length_replicate, List.length_take, List.size_toArray]; omega)) :
    wpAny (model PySem.Challenge.rw_pb0100_01.row.prog w) (topA dp un gd cn cs L a ccd []) (call (.ref 241) [.bytes l.toArray t1, .int i t2, .ref hx, .ref sx]) Q E s :=
  (spec_told' w l hx hdx kx sx so kvs n1 many tm ka kb ha hb t1 t2 at0 i hi hl h0 news hh1 hh2 hs1 hs2 hs3).use B F X N T XB TB hk hd hu h
end
end Mine

namespace Mine
theorem off30 : True := by w_top off; trivial
open PySem.Calls
local macro_rules | `(tactic| k_extra "exc") => `(tactic| (intro C9 c9 x9 tx9 e9 d9 k9 G9 h9 tk9 X9 F9 R9 c9' U9; obtain ⟨eC9, nn9⟩ := X9; subst eC9; clear c9'; (try dsimp only)))
local macro_rules | `(tactic| k_extra "pr") => `(tactic| (iterate 14 first | done | assumption | apply And.right))
local macro_rules | `(tactic| k_extra "pj") => `(tactic| first | (k_extra "pr"; done) | (apply And.left; k_extra "pr"; done))
local macro_rules | `(tactic| k_ne) => `(tactic| (refine neN ?_; (try dsimp only); with_reducible first | k_extra "pj" | (apply Nat.ne_of_lt; k_extra "pj") | (apply Nat.ne_of_gt; k_extra "pj") | (apply Ne.symm; k_extra "pj")))
local macro_rules | `(tactic| walk_at "exec Raise some none") => `(tactic| (k_here; refine raise_own rfl ?_))
local macro_rules | `(tactic| walk_at "call ref") => `(tactic| (k_here; k_dflt (refine' exc_made ?k1 ?k2 ?k3 ?k4 ?k5 ?k6 ?k7 ?k8 ?k9 ?k10 ?k11 ?k12 ?k13 ?_; (case k1 => k_asm); (case k2 => k_asm); (case k3 => k_asm); (case k4 => k_asm); (case k5 => k_asm); (case k6 => exact rfl); (case k7 => exact rfl); (case k8 => exact rfl); (case k9 => first | ktr_room | (dsimp only [Around.mark, Around.deeper, topA]; omega)); (case k10 => first | exact exc69 _ | exact exc45 _ | exact exc57 _); (case k11 => k_is); (case k12 => k_is); (case k13 => k_is); k_whole); intro e9 t9 d9 k9 tk9 h9 F9 N9 l9 l10 l11; (try k_sweep); (have ne9 := ne_of_lts N9 l9 l10 l11)))
local macro_rules | `(tactic| walk_at "RaisableO") => `(tactic| (k_here; k_dflt (refine raisableO_of (by assumption) (by assumption) (by assumption) (by first | exact exc69 _ | exact exc45 _ | exact exc57 _) ?_)))
local macro_rules | `(tactic| walk_at "leaving ref") => `(tactic| (k_here; k_dflt (refine leave_first (by assumption) (by assumption) (by assumption) rfl rfl rfl rfl rfl rfl (by assumption) ?_ rfl); intro h8 R8 U8))
local macro_rules | `(tactic| walk_at "exec") => `(tactic| (k_here; (with_reducible show wpAny _ _ (exec (Stmt.While _ _ _ _) _) _ _ _); k_dflt (k_extra "whl")))
local macro_rules | `(tactic| walk_at "binaryOp LShift int int") => `(tactic| (k_here; k_dflt (refine lshift_int (by first | decide | k_extra "shl0") (by k_extra "shl") ?_)))

local macro_rules | `(tactic| walk_at "subscriptTail") => `(tactic| (k_here; (with_reducible show wpAny _ _ (subscriptTail _ _ (Value.bytes (List.toArray _) _) (Value.ref _)) _ _ _); (with_reducible rename Fr _ _ _ _ => F'); (with_reducible rename News _ _ _ _ => N'); (refine cut_K (s := ⟨_, _, _, _, _⟩) F' N' (by constructor) (by constructor) ?hz ?_); (case hz => omega); intro h' t' k' F' N' cut9; (try k_sweep)))
local macro_rules | `(tactic| k_mem) => `(tactic| assumption)
theorem body_elim {K : Frag} {f : Addr} {oc oc' : Value} {od od' : Option Addr} {name name' qual qual' : Str} {params params' : Arguments} {body body' : List Stmt} {scope scope' : Scope} {dV kV doc pm dV' kV' doc' pm' : Value} {an an' : Option Addr} {cdv ct cdv' ct' : Value} {osl osl' : Array (Option Value)} (P : Str → List Stmt → Scope → Prop)
    (h : K.lookup f = some ⟨oc, od, .func (fnOf name qual params body scope dV kV doc pm an cdv ct), osl⟩) (h' : K.lookup f = some ⟨oc', od', .func (fnOf name' qual' params' body' scope' dV' kV' doc' pm' an' cdv' ct'), osl'⟩) (k : P qual' body' scope') : P qual body scope := by
  rw [h] at h'
  simp only [Option.some.injEq, Obj.mk.injEq, Data.func.injEq, fnOf, FuncData.mk.injEq] at h'
  obtain ⟨_, _, h', _⟩ := h'
  have e1 : body = body' := by simp_all
  have e2 : scope = scope' := by simp_all
  have e3 : qual = qual' := by simp_all
  subst e1 e2 e3
  exact k
local macro_rules | `(tactic| walk_at "eval Name") => `(tactic| ((with_reducible show wpAny _ _ (eval (Expr.Name _ _) (envOf _ _ _ _ _)) _ _ _); (refine' ld ?hF ?hm ?_ (by kernel_rfl!) (by kernel_rfl!) (by decide +kernel)); (case hF => assumption); (case hm => ((try dsimp only); (repeat rw [if_neg (by decide +kernel)]); first | exact if_pos rfl | assumption))))
def Only (x : Option Scan) (z : Scan) : Prop := ∀ z', x = some z' → z' = z
def CutOk (l : List UInt8) (a n many : Nat) (keys : List Int) : Prop := ∀ c, c < n → scanP (l.take (a + c)) a many keys = none
theorem cutL_to {l : List UInt8} {k : Nat} : cutL l none (some (k : Int)) = l.take k := by
  unfold cutL
  simp only [Option.elim, List.drop_zero, Nat.sub_zero]
  rw [clipAt_nat]
  by_cases h : k ≤ l.length
  · rw [Nat.min_eq_left h]
  · rw [Nat.min_eq_right (by omega), List.take_of_length_le (Nat.le_refl _), List.take_of_length_le (by omega)]
theorem cut_to {prog : Program} {w : World} {A : Around} {E : Value → Shared → Prop} {s : Shared} {value slice : PySem.Expr} {ls : List UInt8} {t : Tok} {h₀ : Heap} {L : Addr} {m : PySem.Str → Option Value} {news : List (Addr × Obj)} {l u : Value} {i : Int} {c : Nat} {Q : Value → Shared → Prop}
    (hF : Fr h₀ L s.heap m) (hN : News h₀ L s.heap news) (hl : IsPart l none) (hu : IsPart u (some i)) (hz : ls.length ≤ 16777216) (hi : i = (c : Int))
    (h : ∀ h' t' k, Fr h₀ L h' m → News h₀ L h' news → Q (.bytes (ls.take c).toArray t') { s with heap := h', toks := k })
    (hs : subscripted slice false (.bytes ls.toArray t) (.ref s.heap.objs.size) = operate [.ref s.heap.objs.size, .bytes ls.toArray t] (getItem (.bytes ls.toArray t) (.ref s.heap.objs.size)) := by with_unfolding_all rfl)
    (ht : ∀ r, letTemporaryGo value (.bytes ls.toArray t) r = pure () := by intro _; with_unfolding_all rfl) :
    wpAny (model prog w) A (subscriptTail value slice (.bytes ls.toArray t) (.ref s.heap.objs.size)) Q E { s with heap := s.heap.push { cls := .type "slice", data := .fields #[l, u, .none] } } := by
  subst hi
  refine cut_K hF hN hl hu hz (fun h' t' k F N _ => ?_) hs ht
  rw [cutL_to]
  exact h h' t' k F N
theorem tab_at {w : World} {h₀ h : Heap} {L a : Addr} {oa : Obj} {news : List (Addr × Obj)} {ka : List (Int × Value)} {D : List (PyData × PyData)} (N : News h₀ L h news) (pa : (a, oa) ∈ news) (da : oa.IsDictOf (PySem.intKind PySem.Challenge.rw_pb0100_01.row.prog w) ka) (la : (a == sysModules) = false) (hf : PyProof.V.FlatPairs PyData.int ka D) :
    TabAt (PySem.intKind PySem.Challenge.rw_pb0100_01.row.prog w) PyData.int h a D := ⟨la, ka, Heap.dictOf_iff.mpr ⟨oa, (N _ pa).1, da⟩, hf⟩
theorem pre_eq (n : Nat) (e : List UInt8) : (List.replicate (n : Int).toNat [(80 : UInt8)]).flatten ++ e = List.replicate n 80 ++ e := by
  rw [Int.toNat_natCast]
  congr 1
  induction n with
  | zero => rfl
  | succ n ih => rw [List.replicate_succ, List.flatten_cons, ih, List.replicate_succ]; rfl
local macro_rules | `(tactic| walk_at "binaryOp Add bytes bytes") => `(tactic| (k_here; k_dflt ((first | refine' bytes_add_K ?z (pre_eq _ _) ?_ | refine' bytes_add_K ?z rfl ?_); (case z => (simp only [List.size_toArray, List.length_append, List.length_replicate, List.length_flatten, List.map_replicate, List.sum_replicate_nat, List.length_cons, List.length_nil]; omega)); k_whole); intro _ _))
local macro_rules | `(tactic| walk_at "call ref") => `(tactic| (k_here; (with_reducible show wpAny _ _ (call (Value.ref 241) _) _ _ _); k_dflt (refine' use_told ?_); intro v9 n9 h9 tk9 R9 F9 N9; (rcases R9 with ⟨sc9, ev9, en9⟩ | ⟨z9, D9, o9, sc9, ev9, td9, en9, lt9⟩); (all_goals first | (exfalso; first | exact no_both (by assumption) (by assumption) | k_dflt (exact no_both scan_far sc9)) | ((try ((with_reducible rename Only _ _ => HO); k_dflt (have ez9 := HO _ sc9); subst ez9)); subst ev9; subst en9; (try (have lx9 := allLt_of lt9; dsimp only [AllLt] at lx9)); (try dsimp only)))))
local macro_rules | `(tactic| walk_at "call type:dict") => `(tactic| (k_here; (with_reducible show wpAny _ _ (call (Value.type "dict") [Value.ref _]) _ _ _); k_dflt ((with_reducible rename News _ _ _ _ => NN); (refine' kt_dict_K (knd := PySem.intKind _ _) (enc := PyData.int) ?F NN ?n (tab_at NN ?m ?d ?l ?f) ?z ?_); (case F => k_asm); (case n => exact Top.nolimit (by assumption)); (case m => k_mem); (case d => assumption); (case l => assumption); (case f => assumption); (case z => (rw [PySem.sizeLine_eq]; omega))); intro d' h' o' kvs' F' N' l1 lo' hd' hf'; (have l2 := allLt_of l1); (try dsimp only [AllLt] at l2)))
local macro_rules | `(tactic| walk_at "compareOp NotEq ref ref") => `(tactic| (k_here; k_dflt ((with_reducible rename News _ _ _ _ => NN); (refine' kne_tabs (knd := PySem.intKind _ _) (enc := PyData.int) PyProof.V.same_int (tab_at NN ?m ?d ?l ?f) (tab_at NN ?m' ?d' ?l' ?f') rfl ?u ?r ?_); (case m => k_mem); (case m' => k_mem); (case d => assumption); (case l => assumption); (case d' => assumption); (case l' => assumption); (case r => assumption); (case f => assumption); (case f' => assumption); (case u => first | ktr_units | ke_room | k_units))))
local macro_rules | `(tactic| walk_at "subscriptTail") => `(tactic| (k_here; (with_reducible show wpAny _ _ (subscriptTail _ _ (Value.bytes (List.toArray _) _) (Value.ref _)) _ _ _); (with_reducible rename Fr _ _ _ _ => F'); (with_reducible rename News _ _ _ _ => N'); (refine cut_to (s := ⟨_, _, _, _, _⟩) F' N' (by constructor) (by constructor) ?hz (Int.natCast_add _ _).symm ?_); (case hz => (simp only [List.length_append, List.length_replicate]; omega)); intro h' t' k' F' N'; (try k_sweep)))
local macro_rules | `(tactic| walk_at "call builtin:len") => `(tactic| (k_here; (with_reducible show wpAny _ _ (call (Value.builtin "len") [Value.bytes _ _]) _ _ _); k_dflt (refine len_bytes ?z ?_; (case z => (simp only [List.size_toArray, List.length_append, List.length_replicate]; omega)))))
local macro_rules | `(tactic| walk_at "compareOp NotEq ref ref") => `(tactic| (k_here; k_dflt ((with_reducible rename News _ _ _ _ => NN); (refine' ne_told ?a ?b NN ?m ?n ?u ?_; (case m => k_mem); (case n => k_mem); (case a => assumption); (case b => assumption); (case u => first | ktr_units | ke_room | k_units)))))
local macro_rules | `(tactic| walk_at "call ref") => `(tactic| (k_here; (with_reducible show wpAny _ _ (call (Value.ref 217) _) _ _ _); k_dflt (refine' use_next ?_); intro r9 t9 o9 c9 h9 tk9 lo9 hi9 H9 F9 N9; k_dflt (obtain ⟨cc9, ec9⟩ := Int.eq_ofNat_of_zero_le lo9); subst ec9; k_dflt (rw [List.size_toArray] at hi9); k_dflt (have hc9 := Int.ofNat_lt.mp hi9); (with_reducible rename CutOk _ _ _ _ _ => HC); k_dflt (have hk9 := HC _ hc9); (try dsimp only)))
local macro_rules | `(tactic| k_all) => `(tactic| assumption)
local macro_rules | `(tactic| k_mem) => `(tactic| assumption)
set_option maxHeartbeats 2000000 in
theorem law_T12 (w : World) {mean : ExcName → Option Value} {mg mb : Str → Option Value} {h₀ : Heap} {L a : Addr} {ccd : Value} {m : Str → Option Value} {s : Shared} {Q : Flow → Shared → Prop} {E : Value → Shared → Prop}
    {name qual : Str} {params : Arguments} {body : List Stmt} {scope : Scope} {dV kV doc pm cdv ct oc9 : Value} {an od : Option Addr} {osl : Array (Option Value)} {rest : List (Addr × Obj)}
    (hb : (hd.heap_39 w.params).lookup 246 = some ⟨oc9, od, .func (fnOf name qual params body scope dV kV doc pm an cdv ct), osl⟩)
    (B : Below callerA h₀ [] h₀) (F : Fr h₀ L s.heap m) (X : (hd.heap_39 w.params).In h₀) (T : Top VW LS mean mg mb h₀)
    (ent beh : List UInt8) (at0 many n1 : Nat) (ta te tb tm ka kb : Tok) (hx hdx kx sx Tp C : Addr) (so o oc : Obj) (kvs : List (Int × Value)) (ha hbb : Int) (vd : Value)
    (m_at : m (Str.ofString "at") = some (.int at0 ta)) (m_en : m (Str.ofString "entry") = some (.bytes ent.toArray te)) (m_be : m (Str.ofString "behind") = some (.bytes beh.toArray tb)) (m_ha : m (Str.ofString "hasher") = some (.ref hx)) (m_st : m (Str.ofString "starts") = some (.ref sx)) (m_du : m (Str.ofString "due") = some vd) (m_ta : m (Str.ofString "tape") = some (.ref Tp))
    (N : News h₀ L s.heap ((Tp, o) :: (C, oc) :: rest)) (H : TapeO w Tp C o oc) (hTC : Tp ≠ C) (hT : ∀ p ∈ rest, p.1 ≠ Tp) (hC : ∀ p ∈ rest, p.1 ≠ C)
    (hh1 : (hx, instObj 122 hdx) ∈ rest) (hh2 : (hdx, dictOf [⟨ha, .str "size" ka, .int many tm⟩, ⟨hbb, .str "known" kb, .ref kx⟩] n1) ∈ rest)
    (hs1 : (sx, so) ∈ rest) (hs2 : so.IsDictOf (PySem.intKind PySem.Challenge.rw_pb0100_01.row.prog w) kvs) (hs3 : (sx == sysModules) = false) (Dk : List (PyData × PyData)) (hfl : PyProof.V.FlatPairs PyData.int kvs Dk) (hrw : KeqRows Dk Dk true) (hDl : Dk.length ≤ 3)
    (b1 : at0 ≤ 300) (b2 : ent.length ≤ 400) (b3 : 0 < ent.length) (b4 : beh.length ≤ 3)
    (hdue : (vd = .none ∧ scanP (List.replicate at0 80 ++ ent ++ beh) at0 many (kvs.map (·.1)) = none) ∨ ∃ z D o, vd = .ref D ∧ (D, o) ∈ rest ∧ toldT at0 z o ∧ scanP (List.replicate at0 80 ++ ent ++ beh) at0 many (kvs.map (·.1)) = some z)
    (hcut : CutOk (List.replicate at0 80 ++ ent ++ beh) at0 ent.length many (kvs.map (·.1)))
    (hret : ∀ h' m' news' tk, Fr h₀ L h' m' → News h₀ L h' news' → Q (.ret (.bool true)) { s with heap := h', toks := tk }) :
    wpAny (model PySem.Challenge.rw_pb0100_01.row.prog w) (callerA.deeper (envOf qual scope L a ccd)) (execs (body.drop 12) (envOf qual scope L a ccd)) Q E s := by
  revert X hb
  k_fill
  intro hb X
  refine' body_elim (fun q b sc => wpAny (model PySem.Challenge.rw_pb0100_01.row.prog w) (callerA.deeper (envOf q sc L a ccd)) (execs (b.drop 12) (envOf q sc L a ccd)) Q E s) hb ?hk ?_
  case hk => k_is
  clear hb
  simp only [List.drop_succ_cons, List.drop_zero]
  rcases hdue with ⟨rfl, hno⟩ | ⟨z, Dd, od9, rfl, hdm, htd, hso⟩
  rotate_left 1
  have hon : Only (scanP (List.replicate at0 80 ++ ent ++ beh) at0 many (kvs.map (·.1))) z := fun z' h' => same_scan h' hso
  all_goals
    k_with_none
    k_steps
  all_goals (rename News h₀ L _ _ => N8)
  all_goals (rename Fr h₀ L _ _ => F8)
  all_goals (exact hret _ _ _ _ F8 N8)
end Mine

namespace Mine
theorem off31 : True := by w_top off; trivial
open PySem.Calls
local macro_rules | `(tactic| k_extra "exc") => `(tactic| (intro C9 c9 x9 tx9 e9 d9 k9 G9 h9 tk9 X9 F9 R9 c9' U9; obtain ⟨eC9, nn9⟩ := X9; subst eC9; clear c9'; (try dsimp only)))
local macro_rules | `(tactic| k_extra "pr") => `(tactic| (iterate 14 first | done | assumption | apply And.right))
local macro_rules | `(tactic| k_extra "pj") => `(tactic| first | (k_extra "pr"; done) | (apply And.left; k_extra "pr"; done))
local macro_rules | `(tactic| k_ne) => `(tactic| (refine neN ?_; (try dsimp only); with_reducible first | k_extra "pj" | (apply Nat.ne_of_lt; k_extra "pj") | (apply Nat.ne_of_gt; k_extra "pj") | (apply Ne.symm; k_extra "pj")))
local macro_rules | `(tactic| walk_at "exec Raise some none") => `(tactic| (k_here; refine raise_own rfl ?_))
local macro_rules | `(tactic| walk_at "call ref") => `(tactic| (k_here; k_dflt (refine' exc_made ?k1 ?k2 ?k3 ?k4 ?k5 ?k6 ?k7 ?k8 ?k9 ?k10 ?k11 ?k12 ?k13 ?_; (case k1 => k_asm); (case k2 => k_asm); (case k3 => k_asm); (case k4 => k_asm); (case k5 => k_asm); (case k6 => exact rfl); (case k7 => exact rfl); (case k8 => exact rfl); (case k9 => first | ktr_room | (dsimp only [Around.mark, Around.deeper, topA]; omega)); (case k10 => first | exact exc69 _ | exact exc45 _ | exact exc57 _); (case k11 => k_is); (case k12 => k_is); (case k13 => k_is); k_whole); intro e9 t9 d9 k9 tk9 h9 F9 N9 l9 l10 l11; (try k_sweep); (have ne9 := ne_of_lts N9 l9 l10 l11)))
local macro_rules | `(tactic| walk_at "RaisableO") => `(tactic| (k_here; k_dflt (refine raisableO_of (by assumption) (by assumption) (by assumption) (by first | exact exc69 _ | exact exc45 _ | exact exc57 _) ?_)))
local macro_rules | `(tactic| walk_at "leaving ref") => `(tactic| (k_here; k_dflt (refine leave_first (by assumption) (by assumption) (by assumption) rfl rfl rfl rfl rfl rfl (by assumption) ?_ rfl); intro h8 R8 U8))
local macro_rules | `(tactic| walk_at "binaryOp LShift int int") => `(tactic| (k_here; k_dflt (refine lshift_int (by first | decide | k_extra "shl0") (by k_extra "shl") ?_)))

local macro_rules | `(tactic| walk_at "subscriptTail") => `(tactic| (k_here; (with_reducible show wpAny _ _ (subscriptTail _ _ (Value.bytes (List.toArray _) _) (Value.ref _)) _ _ _); (with_reducible rename Fr _ _ _ _ => F'); (with_reducible rename News _ _ _ _ => N'); (refine cut_K (s := ⟨_, _, _, _, _⟩) F' N' (by constructor) (by constructor) ?hz ?_); (case hz => omega); intro h' t' k' F' N' cut9; (try k_sweep)))
local macro_rules | `(tactic| k_mem) => `(tactic| assumption)
theorem told_data {at0 : Nat} {z : Scan} {o : Obj} (h : toldT at0 z o) : o.cls = .type "tuple" ∧ ∃ a c, o.data = .seq a c := by
  obtain ⟨t1, t2, t3, t4, t5, t6, t7, c, rfl⟩ := h
  exact ⟨rfl, _, _, rfl⟩
theorem told_off {w : World} {h₀ h : Heap} {L D Tp C : Addr} {at0 : Nat} {z : Scan} {od o oc : Obj} {news : List (Addr × Obj)} (N : News h₀ L h news) (hD : (D, od) ∈ news) (h1 : (Tp, o) ∈ news) (h2 : (C, oc) ∈ news) (H : TapeO w Tp C o oc) (td : toldT at0 z od) : D ≠ Tp ∧ D ≠ C := by
  obtain ⟨c1, a, c, c2⟩ := told_data td
  obtain ⟨_, sd, ts, ys, n, cs, ⟨es, ep, _, hd, _⟩, _, rfl, _⟩ := H
  refine ⟨fun q => ?_, fun q => ?_⟩
  · subst q
    have e := (N _ hD).1.symm.trans (N _ h1).1
    simp only [Option.some.injEq] at e
    subst e
    rw [c2] at hd; cases hd
  · subst q
    have e := (N _ hD).1.symm.trans (N _ h2).1
    simp only [Option.some.injEq] at e
    subst e
    have c3 : (Value.type "list") = Value.type "tuple" := c1
    simp only [Value.type.injEq] at c3
    exact absurd c3 (by decide)
theorem law_fin (w : World) {mean : ExcName → Option Value} {mg mb : Str → Option Value} {h₀ : Heap} {L a : Addr} {ccd : Value} {m : Str → Option Value} {s : Shared} {Q : Flow → Shared → Prop} {E : Value → Shared → Prop}
    {name qual : Str} {params : Arguments} {body : List Stmt} {scope : Scope} {dV kV doc pm cdv ct oc9 : Value} {an od : Option Addr} {osl : Array (Option Value)} {rest news : List (Addr × Obj)}
    (hb : (hd.heap_39 w.params).lookup 246 = some ⟨oc9, od, .func (fnOf name qual params body scope dV kV doc pm an cdv ct), osl⟩)
    (B : Below callerA h₀ [] h₀) (F : Fr h₀ L s.heap m) (X : (hd.heap_39 w.params).In h₀) (T : Top VW LS mean mg mb h₀)
    {ent beh : List UInt8} {at0 many n1 : Nat} {ta te tb tm ka kb : Tok} {hx hdx kx sx Tp C : Addr} {so o oc : Obj} {kvs : List (Int × Value)} {ha hbb : Int} {vd : Value}
    (m_at : m (Str.ofString "at") = some (.int at0 ta)) (m_en : m (Str.ofString "entry") = some (.bytes ent.toArray te)) (m_be : m (Str.ofString "behind") = some (.bytes beh.toArray tb)) (m_ha : m (Str.ofString "hasher") = some (.ref hx)) (m_st : m (Str.ofString "starts") = some (.ref sx)) (m_du : m (Str.ofString "due") = some vd) (m_ta : m (Str.ofString "tape") = some (.ref Tp))
    (N : News h₀ L s.heap news) (sub : ∀ p ∈ (Tp, o) :: (C, oc) :: rest, p ∈ news) (H : TapeO w Tp C o oc) (hTC : Tp ≠ C) (hT : ∀ p ∈ rest, p.1 ≠ Tp) (hC : ∀ p ∈ rest, p.1 ≠ C)
    (hh1 : (hx, instObj 122 hdx) ∈ rest) (hh2 : (hdx, dictOf [⟨ha, .str "size" ka, .int many tm⟩, ⟨hbb, .str "known" kb, .ref kx⟩] n1) ∈ rest)
    (hs1 : (sx, so) ∈ rest) (hs2 : so.IsDictOf (PySem.intKind PySem.Challenge.rw_pb0100_01.row.prog w) kvs) (hs3 : (sx == sysModules) = false) {Dk : List (PyData × PyData)} (hfl : PyProof.V.FlatPairs PyData.int kvs Dk) (hrw : KeqRows Dk Dk true) (hDl : Dk.length ≤ 3)
    (b1 : at0 ≤ 300) (b2 : ent.length ≤ 400) (b3 : 0 < ent.length) (b4 : beh.length ≤ 3)
    (hdue : (vd = .none ∧ scanP (List.replicate at0 80 ++ ent ++ beh) at0 many (kvs.map (·.1)) = none) ∨ ∃ z D o, vd = .ref D ∧ (D, o) ∈ news ∧ toldT at0 z o ∧ scanP (List.replicate at0 80 ++ ent ++ beh) at0 many (kvs.map (·.1)) = some z ∧ z.behind = at0 + ent.length)
    (hret : ∀ h' m' news' tk, Fr h₀ L h' m' → News h₀ L h' news' → Q (.ret (.bool true)) { s with heap := h', toks := tk }) :
    wpAny (model PySem.Challenge.rw_pb0100_01.row.prog w) (callerA.deeper (envOf qual scope L a ccd)) (execs (body.drop 12) (envOf qual scope L a ccd)) Q E s := by
  rcases hdue with ⟨hv, hn⟩ | ⟨z, D, od9, hv, hD, td, hz, hbeh⟩
  · exact law_T12 w hb B F X T ent beh at0 many n1 ta te tb tm ka kb hx hdx kx sx Tp C so o oc kvs ha hbb vd m_at m_en m_be m_ha m_st m_du m_ta (fun p hp => N p (sub p hp)) H hTC hT hC hh1 hh2 hs1 hs2 hs3 Dk hfl hrw hDl b1 b2 b3 b4 (.inl ⟨hv, hn⟩)
      (fun c hc => cut_none (fun z hz => by rw [hn] at hz; cases hz) hc) hret
  · obtain ⟨o1, o2⟩ := told_off N hD (sub _ (.head _)) (sub _ (.tail _ (.head _))) H td
    exact law_T12 w (rest := (D, od9) :: rest) hb B F X T ent beh at0 many n1 ta te tb tm ka kb hx hdx kx sx Tp C so o oc kvs ha hbb vd m_at m_en m_be m_ha m_st m_du m_ta
      (fun p hp => N p (by
        rcases List.mem_cons.mp hp with rfl | hp
        · exact sub _ (.head _)
        rcases List.mem_cons.mp hp with rfl | hp
        · exact sub _ (.tail _ (.head _))
        rcases List.mem_cons.mp hp with rfl | hp
        · exact hD
        · exact sub _ (.tail _ (.tail _ hp)))) H hTC
      (fun p hp => by
        rcases List.mem_cons.mp hp with rfl | hp
        · exact o1
        · exact hT p hp)
      (fun p hp => by
        rcases List.mem_cons.mp hp with rfl | hp
        · exact o2
        · exact hC p hp)
      (.tail _ hh1) (.tail _ hh2) (.tail _ hs1) hs2 hs3 Dk hfl hrw hDl b1 b2 b3 b4 (.inr ⟨z, D, od9, hv, .head _, td, hz⟩)
      (fun c hc => cut_none (fun z' hz' => by rw [hz] at hz'; cases hz'; exact hbeh) hc) hret
end Mine

namespace Mine
theorem off32 : True := by w_top off; trivial
open PySem.Calls
local macro_rules | `(tactic| k_extra "exc") => `(tactic| (intro C9 c9 x9 tx9 e9 d9 k9 G9 h9 tk9 X9 F9 R9 c9' U9; obtain ⟨eC9, nn9⟩ := X9; subst eC9; clear c9'; (try dsimp only)))
local macro_rules | `(tactic| k_extra "pr") => `(tactic| (iterate 14 first | done | assumption | apply And.right))
local macro_rules | `(tactic| k_extra "pj") => `(tactic| first | (k_extra "pr"; done) | (apply And.left; k_extra "pr"; done))
local macro_rules | `(tactic| k_ne) => `(tactic| (refine neN ?_; (try dsimp only); with_reducible first | k_extra "pj" | (apply Nat.ne_of_lt; k_extra "pj") | (apply Nat.ne_of_gt; k_extra "pj") | (apply Ne.symm; k_extra "pj")))
local macro_rules | `(tactic| walk_at "exec Raise some none") => `(tactic| (k_here; refine raise_own rfl ?_))
local macro_rules | `(tactic| walk_at "call ref") => `(tactic| (k_here; k_dflt (refine' exc_made ?k1 ?k2 ?k3 ?k4 ?k5 ?k6 ?k7 ?k8 ?k9 ?k10 ?k11 ?k12 ?k13 ?_; (case k1 => k_asm); (case k2 => k_asm); (case k3 => k_asm); (case k4 => k_asm); (case k5 => k_asm); (case k6 => exact rfl); (case k7 => exact rfl); (case k8 => exact rfl); (case k9 => first | ktr_room | (dsimp only [Around.mark, Around.deeper, topA]; omega)); (case k10 => first | exact exc69 _ | exact exc45 _ | exact exc57 _); (case k11 => k_is); (case k12 => k_is); (case k13 => k_is); k_whole); intro e9 t9 d9 k9 tk9 h9 F9 N9 l9 l10 l11; (try k_sweep); (have ne9 := ne_of_lts N9 l9 l10 l11)))
local macro_rules | `(tactic| walk_at "RaisableO") => `(tactic| (k_here; k_dflt (refine raisableO_of (by assumption) (by assumption) (by assumption) (by first | exact exc69 _ | exact exc45 _ | exact exc57 _) ?_)))
local macro_rules | `(tactic| walk_at "leaving ref") => `(tactic| (k_here; k_dflt (refine leave_first (by assumption) (by assumption) (by assumption) rfl rfl rfl rfl rfl rfl (by assumption) ?_ rfl); intro h8 R8 U8))
local macro_rules | `(tactic| walk_at "exec") => `(tactic| (k_here; (with_reducible show wpAny _ _ (exec (Stmt.While _ _ _ _) _) _ _ _); k_dflt (k_extra "whl")))
local macro_rules | `(tactic| walk_at "binaryOp LShift int int") => `(tactic| (k_here; k_dflt (refine lshift_int (by first | decide | k_extra "shl0") (by k_extra "shl") ?_)))

local macro_rules | `(tactic| walk_at "subscriptTail") => `(tactic| (k_here; (with_reducible show wpAny _ _ (subscriptTail _ _ (Value.bytes (List.toArray _) _) (Value.ref _)) _ _ _); (with_reducible rename Fr _ _ _ _ => F'); (with_reducible rename News _ _ _ _ => N'); (refine cut_K (s := ⟨_, _, _, _, _⟩) F' N' (by constructor) (by constructor) ?hz ?_); (case hz => omega); intro h' t' k' F' N' cut9; (try k_sweep)))
local macro_rules | `(tactic| k_mem) => `(tactic| assumption)
def IsLaw (K : Frag) (qual : Str) (body : List Stmt) (scope : Scope) : Prop := ∃ oc9 od name params dV kV doc pm an cdv ct osl, K.lookup 246 = some ⟨oc9, od, .func (fnOf name qual params body scope dV kV doc pm an cdv ct), osl⟩
theorem body_keep {K : Frag} {oc' : Value} {od' : Option Addr} {name' qual qual' : Str} {params' : Arguments} {body body' : List Stmt} {scope scope' : Scope} {dV' kV' doc' pm' : Value} {an' : Option Addr} {cdv' ct' : Value} {osl' : Array (Option Value)} (P : Str → List Stmt → Scope → Prop)
    (h : IsLaw K qual body scope) (h' : K.lookup 246 = some ⟨oc', od', .func (fnOf name' qual' params' body' scope' dV' kV' doc' pm' an' cdv' ct'), osl'⟩) (k : IsLaw K qual' body' scope' → P qual' body' scope') : P qual body scope := by
  obtain ⟨oc9, od, name, params, dV, kV, doc, pm, an, cdv, ct, osl, h⟩ := h
  exact body_elim P h h' (k ⟨_, _, _, _, _, _, _, _, _, _, _, _, h'⟩)
def Stop (P : Prop) : Prop := P
theorem stop_of {P : Prop} (h : Stop P) : P := h
def StartsK (w : World) (so : Obj) (kvs : List (Int × Value)) : Prop := so.IsDictOf (PySem.intKind PySem.Challenge.rw_pb0100_01.row.prog w) kvs ∧ ∃ Dk, PyProof.V.FlatPairs PyData.int kvs Dk ∧ KeqRows Dk Dk true ∧ Dk.length ≤ 3
def ValI (v : Value) (b : Option Int) : Prop := ∃ t, v = match b with | some b => .int b t | none => .none
def ValB (v : Value) (b : Option (List UInt8)) : Prop := ∃ t, v = match b with | some b => .bytes b.toArray t | none => .none
/-- what the law's entry is to the reading -/
def Sem (n sz many at0 : Nat) (way : Int) (cont lb : List UInt8) (ba : Option Int) (bi : Option (List UInt8)) (keys : List Int) : Prop :=
  ∀ (told : Nat) (hb pb beh : List UInt8), HeadOk n told hb → PackOk cont pb →
    (cont.length = told → ¬ (n = 0 ∨ n = 5) → ¬ (n = 6 ∧ (way = 5 ∨ way = 8 ∨ way = 9)) → scanP (List.replicate at0 80 ++ (hb ++ lb ++ pb) ++ beh) at0 many keys = some ⟨n, told, ba, bi, cont, at0 + (hb ++ lb ++ pb).length⟩) ∧
    (¬ cont.length = told ∨ (n = 0 ∨ n = 5) ∨ (n = 6 ∧ (way = 5 ∨ way = 8 ∨ way = 9)) → scanP (List.replicate at0 80 ++ (hb ++ lb ++ pb) ++ beh) at0 many keys = none)
theorem any05 {n : Nat} (h : ([(0 : Int), 5].any fun x => x == (n : Int)) = true) : n = 0 ∨ n = 5 := by
  simp at h; omega
theorem no05 {n : Nat} (h : ([(0 : Int), 5].any fun x => x == (n : Int)) = false) : ¬ (n = 0 ∨ n = 5) := by
  simp at h; omega
theorem any589 {n : Int} (h : ([(5 : Int), 8, 9].any fun x => x == n) = true) : n = 5 ∨ n = 8 ∨ n = 9 := by
  simp at h; omega
theorem no589 {n : Int} (h : ([(5 : Int), 8, 9].any fun x => x == n) = false) : ¬ (n = 5 ∨ n = 8 ∨ n = 9) := by
  simp at h; omega
theorem due_told {at0 n told sz e : Nat} {cont ent : List UInt8} {vb vi : Value} {ba : Option Int} {bi : Option (List UInt8)} {ta tn ts tc tk : Tok} {b : Bool} (hvb : ValI vb ba) (hvi : ValB vi bi) (hz : told = sz) (he : e = at0 + ent.length) (hb : b = decide (n = 6 ∨ n = 7)) :
    toldT at0 ⟨n, told, ba, bi, cont, e⟩ { cls := .type "tuple", data := .seq #[.int at0 ta, .int n tn, .int sz ts, vb, vi, .bytes cont.toArray tc, .int ((at0 : Int) + (ent.toArray.size : Int)) tk, .bool b] } := by
  obtain ⟨t4, rfl⟩ := hvb
  obtain ⟨t5, rfl⟩ := hvi
  subst hz he hb
  exact ⟨ta, tn, ts, t4, t5, tc, tk, 0, by
    have e9 : ((at0 : Int) + (ent.toArray.size : Int)) = ((at0 + ent.length : Nat) : Int) := by rw [List.size_toArray, Int.natCast_add]
    rw [e9]
    cases ba <;> cases bi <;> rfl⟩
local macro_rules | `(tactic| walk_at "eval Name") => `(tactic| ((with_reducible show wpAny _ _ (eval (Expr.Name _ _) (envOf _ _ _ _ _)) _ _ _); (refine' ld ?hF ?hm ?_ (by kernel_rfl!) (by kernel_rfl!) (by decide +kernel)); (case hF => assumption); (case hm => ((try dsimp only); (repeat rw [if_neg (by decide +kernel)]); first | exact if_pos rfl | assumption))))
local macro_rules | `(tactic| walk_at "call ref") => `(tactic| (k_here; (with_reducible show wpAny _ _ (call (Value.ref 217) _) _ _ _); k_dflt (refine' use_next ?_); intro r9 t9 o9 c9 h9 tk9 lo9 hi9 H9 F9 N9; (try dsimp only)))
local macro_rules | `(tactic| walk_at "call ref") => `(tactic| (k_here; (with_reducible show wpAny _ _ (call (Value.ref 222) _) _ _ _); k_dflt (refine' use_head ?_); intro b9 t9 h9 tk9 ok9 ol9 F9 N9; (try dsimp only)))
local macro_rules | `(tactic| walk_at "call ref") => `(tactic| (k_here; (with_reducible show wpAny _ _ (call (Value.ref 234) _) _ _ _); k_dflt (refine' use_pack ?_); intro b9 t9 h9 tk9 ok9 ol9 F9 N9; (try dsimp only)))
local macro_rules | `(tactic| walk_at "binaryOp Add bytes bytes") => `(tactic| (k_here; k_dflt (refine' bytes_add_K z_add rfl ?_; k_whole); intro _ _))
local macro_rules | `(tactic| walk_at "call builtin:len") => `(tactic| (k_here; (with_reducible show wpAny _ _ (call (Value.builtin "len") [Value.bytes _ _]) _ _ _); k_dflt (refine len_bytes z_len ?_)))
local macro_rules | `(tactic| k_extra "le") => `(tactic| with_reducible first | assumption | exact And.right (by assumption) | exact app_le)
local macro_rules | `(tactic| walk_at "subscriptTail") => `(tactic| (k_here; (with_reducible show wpAny _ _ (subscriptTail _ _ (Value.ref _) (Value.int _ _)) _ _ _); k_dflt (refine' pick_bytes (ls := [[], [120, 121, 122], [0]]) (ts := [_, _, _]) ?l ?v ?n ?i ?j ?z ?b ?_; (case l => is_list); (case v => exact rfl); (case n => exact rfl); (case i => assumption); (case j => assumption); (case z => decide); (case b => decide)); intro l9 t9 len9))
local macro_rules | `(tactic| walk_at "execs cons") => `(tactic| (k_here; (with_reducible show wpAny _ _ (execs (Stmt.Assign [Expr.Tuple [Expr.Name (Str.ofString "body") _, _] _ _] _ _ :: _) _) _ _ _); refine stop_of ?_))
local macro_rules | `(tactic| k_all) => `(tactic| assumption)
local macro_rules | `(tactic| k_mem) => `(tactic| assumption)
set_option maxHeartbeats 8000000 in
theorem law_T8 (w : World) {mean : ExcName → Option Value} {mg mb : Str → Option Value} {h₀ : Heap} {L a : Addr} {ccd : Value} {m : Str → Option Value} {s : Shared} {Q : Flow → Shared → Prop} {E : Value → Shared → Prop}
    {qual : Str} {body : List Stmt} {scope : Scope} {rest : List (Addr × Obj)}
    (hb : IsLaw (hd.heap_39 w.params) qual body scope)
    (B : Below callerA h₀ [] h₀) (F : Fr h₀ L s.heap m) (X : (hd.heap_39 w.params).In h₀) (T : Top VW LS mean mg mb h₀)
    (Tp C : Addr) (o oc : Obj) (N : News h₀ L s.heap ((Tp, o) :: (C, oc) :: rest)) (H : TapeO w Tp C o oc) (hTC : Tp ≠ C) (hT : ∀ p ∈ rest, p.1 ≠ Tp) (hC : ∀ p ∈ rest, p.1 ≠ C)
    (hx hdx kx sx : Addr) (so : Obj) (kvs : List (Int × Value)) (ha hbb : Int) (n1 many : Nat) (tm ka kb : Tok) (hh1 : (hx, instObj 122 hdx) ∈ rest) (hh2 : (hdx, dictOf [⟨ha, .str "size" ka, .int many tm⟩, ⟨hbb, .str "known" kb, .ref kx⟩] n1) ∈ rest)
    (hs1 : (sx, so) ∈ rest) (hsk : StartsK w so kvs) (hs3 : (sx == sysModules) = false)
    (cont lb : List UInt8) (at0 n sz : Nat) (way : Int) (vb vi : Value) (ba : Option Int) (bi : Option (List UInt8)) (tn tw ts ta tc tl : Tok)
    (m_numb : m (Str.ofString "number") = some (.int n tn)) (m_way : m (Str.ofString "way") = some (.int way tw)) (m_size : m (Str.ofString "size") = some (.int sz ts)) (m_at : m (Str.ofString "at") = some (.int at0 ta)) (m_cont : m (Str.ofString "content") = some (.bytes cont.toArray tc)) (m_hash : m (Str.ofString "hasher") = some (.ref hx)) (m_star : m (Str.ofString "starts") = some (.ref sx)) (m_baseat : m (Str.ofString "base_at") = some vb) (m_baseid : m (Str.ofString "base_id") = some vi) (m_link : m (Str.ofString "link") = some (.bytes lb.toArray tl)) (m_tape : m (Str.ofString "tape") = some (.ref Tp))
    (b1 : n ≤ 7) (b2 : sz ≤ 130) (b3 : cont.length = sz) (b4 : at0 ≤ 300) (b5 : lb.length ≤ 4) (hvb : ValI vb ba) (hvi : ValB vi bi) (sem : Sem n sz many at0 way cont lb ba bi (kvs.map (·.1)))
    (hret : ∀ h' m' news' tk, Fr h₀ L h' m' → News h₀ L h' news' → Q (.ret (.bool true)) { s with heap := h', toks := tk }) :
    wpAny (model PySem.Challenge.rw_pb0100_01.row.prog w) (callerA.deeper (envOf qual scope L a ccd)) (execs (body.drop 8) (envOf qual scope L a ccd)) Q E s := by
  revert X hb
  k_fill
  intro hb X
  refine' body_keep (fun q b sc => wpAny (model PySem.Challenge.rw_pb0100_01.row.prog w) (callerA.deeper (envOf q sc L a ccd)) (execs (b.drop 8) (envOf q sc L a ccd)) Q E s) hb ?hk ?_
  case hk => k_is
  clear hb
  intro hb
  simp only [List.drop_succ_cons, List.drop_zero]
  k_with_none
  k_steps
  all_goals (rename News h₀ L _ _ => N8)
  all_goals (rename Fr h₀ L _ _ => F8)
  all_goals (rename HeadOk _ _ _ => HK)
  all_goals (rename PackOk _ _ => PK)
  all_goals (rename TapeO _ _ _ _ _ => HT8)
  all_goals (rename List UInt8 => beh8)
  all_goals (have SM := sem _ _ _ beh8 HK PK)
  all_goals (have l8 := headOk_len HK)
  all_goals (have l9 := packOk_len PK b3 b2)
  all_goals (have el8 := ent_len l8 b5 l9)
  · unfold Stop
    obtain ⟨hs2, Dk, hfl, hrw, hDl⟩ := hsk
    obtain ⟨oc9, od9, name9, params9, dV9, kV9, doc9, pm9, an9, cdv9, ct9, osl9, hb⟩ := hb
    refine' law_fin w hb B F8 X T ?m0_0 ?m1_0 ?m2_0 ?m3_0 ?m4_0 ?m5_0 ?m6_0 N8 ?sub_0 HT8 hTC hT hC hh1 hh2 hs1 hs2 hs3 hfl hrw hDl b4 ?b2_0 ?b3_0 ?b4_0 ?due_0 ?ret_0
    case m0_0 => ((try dsimp only); (repeat rw [if_neg (by decide +kernel)]); first | exact if_pos rfl | assumption)
    case m1_0 => ((try dsimp only); (repeat rw [if_neg (by decide +kernel)]); first | exact if_pos rfl | assumption)
    case m2_0 => ((try dsimp only); (repeat rw [if_neg (by decide +kernel)]); first | exact if_pos rfl | assumption)
    case m3_0 => ((try dsimp only); (repeat rw [if_neg (by decide +kernel)]); first | exact if_pos rfl | assumption)
    case m4_0 => ((try dsimp only); (repeat rw [if_neg (by decide +kernel)]); first | exact if_pos rfl | assumption)
    case m5_0 => ((try dsimp only); (repeat rw [if_neg (by decide +kernel)]); first | exact if_pos rfl | assumption)
    case m6_0 => ((try dsimp only); (repeat rw [if_neg (by decide +kernel)]); first | exact if_pos rfl | assumption)
    case sub_0 =>
      refine List.cons_subset.mpr ⟨by k_mem, List.cons_subset.mpr ⟨by k_mem, ?_⟩⟩
      intro p hp
      repeat (first | exact hp | apply List.Mem.tail)
    case b2_0 => exact el8.1
    case b3_0 => exact el8.2
    case b4_0 => assumption
    case ret_0 => exact hret
    case due_0 => exact .inl ⟨rfl, SM.2 (.inr (.inl (any05 (by assumption))))⟩
  · unfold Stop
    obtain ⟨hs2, Dk, hfl, hrw, hDl⟩ := hsk
    obtain ⟨oc9, od9, name9, params9, dV9, kV9, doc9, pm9, an9, cdv9, ct9, osl9, hb⟩ := hb
    refine' law_fin w hb B F8 X T ?m0_1 ?m1_1 ?m2_1 ?m3_1 ?m4_1 ?m5_1 ?m6_1 N8 ?sub_1 HT8 hTC hT hC hh1 hh2 hs1 hs2 hs3 hfl hrw hDl b4 ?b2_1 ?b3_1 ?b4_1 ?due_1 ?ret_1
    case m0_1 => ((try dsimp only); (repeat rw [if_neg (by decide +kernel)]); first | exact if_pos rfl | assumption)
    case m1_1 => ((try dsimp only); (repeat rw [if_neg (by decide +kernel)]); first | exact if_pos rfl | assumption)
    case m2_1 => ((try dsimp only); (repeat rw [if_neg (by decide +kernel)]); first | exact if_pos rfl | assumption)
    case m3_1 => ((try dsimp only); (repeat rw [if_neg (by decide +kernel)]); first | exact if_pos rfl | assumption)
    case m4_1 => ((try dsimp only); (repeat rw [if_neg (by decide +kernel)]); first | exact if_pos rfl | assumption)
    case m5_1 => ((try dsimp only); (repeat rw [if_neg (by decide +kernel)]); first | exact if_pos rfl | assumption)
    case m6_1 => ((try dsimp only); (repeat rw [if_neg (by decide +kernel)]); first | exact if_pos rfl | assumption)
    case sub_1 =>
      refine List.cons_subset.mpr ⟨by k_mem, List.cons_subset.mpr ⟨by k_mem, ?_⟩⟩
      intro p hp
      repeat (first | exact hp | apply List.Mem.tail)
    case b2_1 => exact el8.1
    case b3_1 => exact el8.2
    case b4_1 => assumption
    case ret_1 => exact hret
    case due_1 => exact .inl ⟨rfl, SM.2 (.inr (.inr ⟨is6 (by assumption), any589 (by assumption)⟩))⟩
  · unfold Stop
    obtain ⟨hs2, Dk, hfl, hrw, hDl⟩ := hsk
    obtain ⟨oc9, od9, name9, params9, dV9, kV9, doc9, pm9, an9, cdv9, ct9, osl9, hb⟩ := hb
    refine' law_fin w hb B F8 X T ?m0_2 ?m1_2 ?m2_2 ?m3_2 ?m4_2 ?m5_2 ?m6_2 N8 ?sub_2 HT8 hTC hT hC hh1 hh2 hs1 hs2 hs3 hfl hrw hDl b4 ?b2_2 ?b3_2 ?b4_2 ?due_2 ?ret_2
    case m0_2 => ((try dsimp only); (repeat rw [if_neg (by decide +kernel)]); first | exact if_pos rfl | assumption)
    case m1_2 => ((try dsimp only); (repeat rw [if_neg (by decide +kernel)]); first | exact if_pos rfl | assumption)
    case m2_2 => ((try dsimp only); (repeat rw [if_neg (by decide +kernel)]); first | exact if_pos rfl | assumption)
    case m3_2 => ((try dsimp only); (repeat rw [if_neg (by decide +kernel)]); first | exact if_pos rfl | assumption)
    case m4_2 => ((try dsimp only); (repeat rw [if_neg (by decide +kernel)]); first | exact if_pos rfl | assumption)
    case m5_2 => ((try dsimp only); (repeat rw [if_neg (by decide +kernel)]); first | exact if_pos rfl | assumption)
    case m6_2 => ((try dsimp only); (repeat rw [if_neg (by decide +kernel)]); first | exact if_pos rfl | assumption)
    case sub_2 =>
      refine List.cons_subset.mpr ⟨by k_mem, List.cons_subset.mpr ⟨by k_mem, ?_⟩⟩
      intro p hp
      repeat (first | exact hp | apply List.Mem.tail)
    case b2_2 => exact el8.1
    case b3_2 => exact el8.2
    case b4_2 => assumption
    case ret_2 => exact hret
    case due_2 => 
      rename List.any _ (fun x => x == way) = false => N6
      rename List.any _ (fun x => x == (n : Int)) = false => N5
      rename way ≠ 4 => w4
      have n5 := no05 N5
      have n6 := no589 N6
      have e4 : (sz + if way = 4 then 1 else 0) = sz := by rw [if_neg w4]; rfl
      exact .inr ⟨_, _, _, rfl, List.Mem.head _, due_told hvb hvi e4 rfl (decide_eq_decide.mpr (gt4 b1 n5)), SM.1 (b3.trans e4.symm) n5 (fun q => n6 q.2), rfl⟩
  · unfold Stop
    obtain ⟨hs2, Dk, hfl, hrw, hDl⟩ := hsk
    obtain ⟨oc9, od9, name9, params9, dV9, kV9, doc9, pm9, an9, cdv9, ct9, osl9, hb⟩ := hb
    refine' law_fin w hb B F8 X T ?m0_3 ?m1_3 ?m2_3 ?m3_3 ?m4_3 ?m5_3 ?m6_3 N8 ?sub_3 HT8 hTC hT hC hh1 hh2 hs1 hs2 hs3 hfl hrw hDl b4 ?b2_3 ?b3_3 ?b4_3 ?due_3 ?ret_3
    case m0_3 => ((try dsimp only); (repeat rw [if_neg (by decide +kernel)]); first | exact if_pos rfl | assumption)
    case m1_3 => ((try dsimp only); (repeat rw [if_neg (by decide +kernel)]); first | exact if_pos rfl | assumption)
    case m2_3 => ((try dsimp only); (repeat rw [if_neg (by decide +kernel)]); first | exact if_pos rfl | assumption)
    case m3_3 => ((try dsimp only); (repeat rw [if_neg (by decide +kernel)]); first | exact if_pos rfl | assumption)
    case m4_3 => ((try dsimp only); (repeat rw [if_neg (by decide +kernel)]); first | exact if_pos rfl | assumption)
    case m5_3 => ((try dsimp only); (repeat rw [if_neg (by decide +kernel)]); first | exact if_pos rfl | assumption)
    case m6_3 => ((try dsimp only); (repeat rw [if_neg (by decide +kernel)]); first | exact if_pos rfl | assumption)
    case sub_3 =>
      refine List.cons_subset.mpr ⟨by k_mem, List.cons_subset.mpr ⟨by k_mem, ?_⟩⟩
      intro p hp
      repeat (first | exact hp | apply List.Mem.tail)
    case b2_3 => exact el8.1
    case b3_3 => exact el8.2
    case b4_3 => assumption
    case ret_3 => exact hret
    case due_3 => 
      rename List.any _ (fun x => x == (n : Int)) = false => N5
      rename way ≠ 4 => w4
      have n5 := no05 N5
      have e4 : (sz + if way = 4 then 1 else 0) = sz := by rw [if_neg w4]; rfl
      exact .inr ⟨_, _, _, rfl, List.Mem.head _, due_told hvb hvi e4 rfl (decide_eq_decide.mpr (gt4 b1 n5)), SM.1 (b3.trans e4.symm) n5 (not6 (by assumption)), rfl⟩
  · unfold Stop
    obtain ⟨hs2, Dk, hfl, hrw, hDl⟩ := hsk
    obtain ⟨oc9, od9, name9, params9, dV9, kV9, doc9, pm9, an9, cdv9, ct9, osl9, hb⟩ := hb
    refine' law_fin w hb B F8 X T ?m0_4 ?m1_4 ?m2_4 ?m3_4 ?m4_4 ?m5_4 ?m6_4 N8 ?sub_4 HT8 hTC hT hC hh1 hh2 hs1 hs2 hs3 hfl hrw hDl b4 ?b2_4 ?b3_4 ?b4_4 ?due_4 ?ret_4
    case m0_4 => ((try dsimp only); (repeat rw [if_neg (by decide +kernel)]); first | exact if_pos rfl | assumption)
    case m1_4 => ((try dsimp only); (repeat rw [if_neg (by decide +kernel)]); first | exact if_pos rfl | assumption)
    case m2_4 => ((try dsimp only); (repeat rw [if_neg (by decide +kernel)]); first | exact if_pos rfl | assumption)
    case m3_4 => ((try dsimp only); (repeat rw [if_neg (by decide +kernel)]); first | exact if_pos rfl | assumption)
    case m4_4 => ((try dsimp only); (repeat rw [if_neg (by decide +kernel)]); first | exact if_pos rfl | assumption)
    case m5_4 => ((try dsimp only); (repeat rw [if_neg (by decide +kernel)]); first | exact if_pos rfl | assumption)
    case m6_4 => ((try dsimp only); (repeat rw [if_neg (by decide +kernel)]); first | exact if_pos rfl | assumption)
    case sub_4 =>
      refine List.cons_subset.mpr ⟨by k_mem, List.cons_subset.mpr ⟨by k_mem, ?_⟩⟩
      intro p hp
      repeat (first | exact hp | apply List.Mem.tail)
    case b2_4 => exact el8.1
    case b3_4 => exact el8.2
    case b4_4 => assumption
    case ret_4 => exact hret
    case due_4 => 
      rename way = 4 => w4
      refine .inl ⟨rfl, SM.2 (.inl ?_)⟩
      rw [if_pos w4]
      exact ne_succ b3
end Mine

namespace Mine
theorem off33 : True := by w_top off; trivial
open PySem.Calls
local macro_rules | `(tactic| k_extra "exc") => `(tactic| (intro C9 c9 x9 tx9 e9 d9 k9 G9 h9 tk9 X9 F9 R9 c9' U9; obtain ⟨eC9, nn9⟩ := X9; subst eC9; clear c9'; (try dsimp only)))
local macro_rules | `(tactic| k_extra "pr") => `(tactic| (iterate 14 first | done | assumption | apply And.right))
local macro_rules | `(tactic| k_extra "pj") => `(tactic| first | (k_extra "pr"; done) | (apply And.left; k_extra "pr"; done))
local macro_rules | `(tactic| k_ne) => `(tactic| (refine neN ?_; (try dsimp only); with_reducible first | k_extra "pj" | (apply Nat.ne_of_lt; k_extra "pj") | (apply Nat.ne_of_gt; k_extra "pj") | (apply Ne.symm; k_extra "pj")))
local macro_rules | `(tactic| walk_at "exec Raise some none") => `(tactic| (k_here; refine raise_own rfl ?_))
local macro_rules | `(tactic| walk_at "call ref") => `(tactic| (k_here; k_dflt (refine' exc_made ?k1 ?k2 ?k3 ?k4 ?k5 ?k6 ?k7 ?k8 ?k9 ?k10 ?k11 ?k12 ?k13 ?_; (case k1 => k_asm); (case k2 => k_asm); (case k3 => k_asm); (case k4 => k_asm); (case k5 => k_asm); (case k6 => exact rfl); (case k7 => exact rfl); (case k8 => exact rfl); (case k9 => first | ktr_room | (dsimp only [Around.mark, Around.deeper, topA]; omega)); (case k10 => first | exact exc69 _ | exact exc45 _ | exact exc57 _); (case k11 => k_is); (case k12 => k_is); (case k13 => k_is); k_whole); intro e9 t9 d9 k9 tk9 h9 F9 N9 l9 l10 l11; (try k_sweep); (have ne9 := ne_of_lts N9 l9 l10 l11)))
local macro_rules | `(tactic| walk_at "RaisableO") => `(tactic| (k_here; k_dflt (refine raisableO_of (by assumption) (by assumption) (by assumption) (by first | exact exc69 _ | exact exc45 _ | exact exc57 _) ?_)))
local macro_rules | `(tactic| walk_at "leaving ref") => `(tactic| (k_here; k_dflt (refine leave_first (by assumption) (by assumption) (by assumption) rfl rfl rfl rfl rfl rfl (by assumption) ?_ rfl); intro h8 R8 U8))
local macro_rules | `(tactic| walk_at "binaryOp LShift int int") => `(tactic| (k_here; k_dflt (refine lshift_int (by first | decide | k_extra "shl0") (by k_extra "shl") ?_)))

local macro_rules | `(tactic| walk_at "subscriptTail") => `(tactic| (k_here; (with_reducible show wpAny _ _ (subscriptTail _ _ (Value.bytes (List.toArray _) _) (Value.ref _)) _ _ _); (with_reducible rename Fr _ _ _ _ => F'); (with_reducible rename News _ _ _ _ => N'); (refine cut_K (s := ⟨_, _, _, _, _⟩) F' N' (by constructor) (by constructor) ?hz ?_); (case hz => omega); intro h' t' k' F' N' cut9; (try k_sweep)))
local macro_rules | `(tactic| k_mem) => `(tactic| assumption)
theorem ne_all_of_lt {news : List (Addr × Obj)} {d : Addr} (h : ∀ p ∈ news, p.1 < d) : ∀ p ∈ news, p.1 ≠ d := fun p hp => Nat.ne_of_lt (h p hp)
section
open PyProof.V
variable {w : World} {A : Around} {E : Value → Shared → Prop} {s : Shared} {h₀ : Heap} {L d : Addr} {m : Str → Option Value} {news : List (Addr × Obj)} {o : Obj} {Q : Value → Shared → Prop}
theorem flat_i (i : Int) (t : Tok) : Flat (.int i t) (.int i) := by
  have := flat_getD (v := .int i t) rfl
  exact this
theorem kdn_done {vs : List (Value × Value)} {kvs : List (Int × Value)} (F : Fr h₀ L s.heap m) (N : News h₀ L s.heap ((d, o) :: news)) (hne : ∀ p ∈ news, p.1 ≠ d) (hd : o.IsDictOf (PySem.intKind PySem.Challenge.rw_pb0100_01.row.prog w) []) (hc : Carries (PySem.intKind PySem.Challenge.rw_pb0100_01.row.prog w) vs kvs)
    (h : ∀ h' o', Fr h₀ L h' m → News h₀ L h' ((d, o') :: news) → o'.IsDictOf (PySem.intKind PySem.Challenge.rw_pb0100_01.row.prog w) (merged [] kvs) → Q (.ref d) { s with heap := h', toks := s.toks + vs.length }) :
    KdnMade PySem.Challenge.rw_pb0100_01.row.prog w (PySem.intKind PySem.Challenge.rw_pb0100_01.row.prog w) d Q vs s := by
  have hm := N (d, o) (.head _)
  refine ⟨kvs, hc, Heap.dictOf_iff.mpr ⟨o, hm.1, hd⟩, fun h' hmm hs => ?_⟩
  obtain ⟨o', ho', hd'⟩ := Heap.dictOf_iff.mp hmm
  exact h h' o' (F.change hs hm.2.1 hm.2.2) (News.setIn (own := []) N (fun p hp => nomatch hp) hne hs ho') hd'
theorem startsK_two {o' : Obj} {i k : Int} {a b : Int} {t1 t2 : Tok} (hd : o'.IsDictOf (PySem.intKind PySem.Challenge.rw_pb0100_01.row.prog w) [(i, .int a t1), (k, .int b t2)]) (hne : i ≠ k) : StartsK w o' [(i, .int a t1), (k, .int b t2)] := by
  refine ⟨hd, _, .cons (flat_i _ _) (.cons (flat_i _ _) .nil), ?_, by simp⟩
  have r : KeqRows [(PyData.int i, PyData.int a), (PyData.int k, PyData.int b)] [(PyData.int i, PyData.int a), (PyData.int k, PyData.int b)] (PyData.eqv (.int a) (.int a) && (PyData.eqv (.int b) (.int b) && true)) := by
    refine .hit ?_ (.hit ?_ .nil)
    · simp only [PySem.Spec.lookup]
      rw [if_pos (by rw [same_int]; simp)]
    · simp only [PySem.Spec.lookup]
      rw [if_neg (by rw [same_int]; simp [hne]), if_pos (by rw [same_int]; simp)]
  simpa [PyData.eqv] using r
theorem startsK_one {o' : Obj} {i : Int} {a : Int} {t1 : Tok} (hd : o'.IsDictOf (PySem.intKind PySem.Challenge.rw_pb0100_01.row.prog w) [(i, .int a t1)]) : StartsK w o' [(i, .int a t1)] := by
  refine ⟨hd, _, .cons (flat_i _ _) .nil, ?_, by simp⟩
  have r : KeqRows [(PyData.int i, PyData.int a)] [(PyData.int i, PyData.int a)] (PyData.eqv (.int a) (.int a) && true) := by
    refine .hit ?_ .nil
    · simp only [PySem.Spec.lookup]
      rw [if_pos (by rw [same_int]; simp)]
  simpa [PyData.eqv] using r
theorem starts_two {i k a b : Int} {ti t1 tk t2 : Tok} (F : Fr h₀ L s.heap m) (N : News h₀ L s.heap ((d, o) :: news)) (hne : ∀ p ∈ news, p.1 ≠ d) (hd : o.IsDictOf (PySem.intKind PySem.Challenge.rw_pb0100_01.row.prog w) [])
    (h : ∀ h' o' kvs tk, Fr h₀ L h' m → News h₀ L h' ((d, o') :: news) → StartsK w o' kvs → (∀ x, x ∈ kvs.map (·.1) ↔ x = i ∨ x = k) → Q (.ref d) { s with heap := h', toks := tk }) :
    KdnMade PySem.Challenge.rw_pb0100_01.row.prog w (PySem.intKind PySem.Challenge.rw_pb0100_01.row.prog w) d Q [(.int i ti, .int a t1), (.int k tk, .int b t2)] s := by
  refine kdn_done (kvs := [(i, .int a t1), (k, .int b t2)]) F N hne hd ⟨intKind_is _ w i ti, rfl, intKind_is _ w k tk, rfl, trivial⟩ fun h' o' F' N' hd' => ?_
  by_cases e : i = k
  · subst e
    have em : merged [] [(i, Value.int a t1), (i, .int b t2)] = [(i, .int b t2)] := by simp [merged, stored]
    rw [em] at hd'
    exact h h' o' _ _ F' N' (startsK_one hd') (fun x => by simp)
  · have em : merged [] [(i, Value.int a t1), (k, .int b t2)] = [(i, .int a t1), (k, .int b t2)] := merged_nil_of_nodup _ (by simp [e])
    rw [em] at hd'
    exact h h' o' _ _ F' N' (startsK_two hd' e) (fun x => by simp)
theorem starts_one {i a : Int} {ti t1 : Tok} (F : Fr h₀ L s.heap m) (N : News h₀ L s.heap ((d, o) :: news)) (hne : ∀ p ∈ news, p.1 ≠ d) (hd : o.IsDictOf (PySem.intKind PySem.Challenge.rw_pb0100_01.row.prog w) [])
    (h : ∀ h' o' kvs tk, Fr h₀ L h' m → News h₀ L h' ((d, o') :: news) → StartsK w o' kvs → (∀ x, x ∈ kvs.map (·.1) ↔ x = i) → Q (.ref d) { s with heap := h', toks := tk }) :
    KdnMade PySem.Challenge.rw_pb0100_01.row.prog w (PySem.intKind PySem.Challenge.rw_pb0100_01.row.prog w) d Q [(.int i ti, .int a t1)] s := by
  refine kdn_done (kvs := [(i, .int a t1)]) F N hne hd ⟨intKind_is _ w i ti, rfl, trivial⟩ fun h' o' F' N' hd' => ?_
  have em : merged [] [(i, Value.int a t1)] = [(i, .int a t1)] := rfl
  rw [em] at hd'
  exact h h' o' _ _ F' N' (startsK_one hd') (fun x => by simp)
end
end Mine

namespace Mine
theorem off34 : True := by w_top off; trivial
open PySem.Calls
local macro_rules | `(tactic| k_extra "exc") => `(tactic| (intro C9 c9 x9 tx9 e9 d9 k9 G9 h9 tk9 X9 F9 R9 c9' U9; obtain ⟨eC9, nn9⟩ := X9; subst eC9; clear c9'; (try dsimp only)))
local macro_rules | `(tactic| k_extra "pr") => `(tactic| (iterate 14 first | done | assumption | apply And.right))
local macro_rules | `(tactic| k_extra "pj") => `(tactic| first | (k_extra "pr"; done) | (apply And.left; k_extra "pr"; done))
local macro_rules | `(tactic| k_ne) => `(tactic| (refine neN ?_; (try dsimp only); with_reducible first | k_extra "pj" | (apply Nat.ne_of_lt; k_extra "pj") | (apply Nat.ne_of_gt; k_extra "pj") | (apply Ne.symm; k_extra "pj")))
local macro_rules | `(tactic| walk_at "exec Raise some none") => `(tactic| (k_here; refine raise_own rfl ?_))
local macro_rules | `(tactic| walk_at "call ref") => `(tactic| (k_here; k_dflt (refine' exc_made ?k1 ?k2 ?k3 ?k4 ?k5 ?k6 ?k7 ?k8 ?k9 ?k10 ?k11 ?k12 ?k13 ?_; (case k1 => k_asm); (case k2 => k_asm); (case k3 => k_asm); (case k4 => k_asm); (case k5 => k_asm); (case k6 => exact rfl); (case k7 => exact rfl); (case k8 => exact rfl); (case k9 => first | ktr_room | (dsimp only [Around.mark, Around.deeper, topA]; omega)); (case k10 => first | exact exc69 _ | exact exc45 _ | exact exc57 _); (case k11 => k_is); (case k12 => k_is); (case k13 => k_is); k_whole); intro e9 t9 d9 k9 tk9 h9 F9 N9 l9 l10 l11; (try k_sweep); (have ne9 := ne_of_lts N9 l9 l10 l11)))
local macro_rules | `(tactic| walk_at "RaisableO") => `(tactic| (k_here; k_dflt (refine raisableO_of (by assumption) (by assumption) (by assumption) (by first | exact exc69 _ | exact exc45 _ | exact exc57 _) ?_)))
local macro_rules | `(tactic| walk_at "leaving ref") => `(tactic| (k_here; k_dflt (refine leave_first (by assumption) (by assumption) (by assumption) rfl rfl rfl rfl rfl rfl (by assumption) ?_ rfl); intro h8 R8 U8))
local macro_rules | `(tactic| walk_at "binaryOp LShift int int") => `(tactic| (k_here; k_dflt (refine lshift_int (by first | decide | k_extra "shl0") (by k_extra "shl") ?_)))

local macro_rules | `(tactic| walk_at "subscriptTail") => `(tactic| (k_here; (with_reducible show wpAny _ _ (subscriptTail _ _ (Value.bytes (List.toArray _) _) (Value.ref _)) _ _ _); (with_reducible rename Fr _ _ _ _ => F'); (with_reducible rename News _ _ _ _ => N'); (refine cut_K (s := ⟨_, _, _, _, _⟩) F' N' (by constructor) (by constructor) ?hz ?_); (case hz => omega); intro h' t' k' F' N' cut9; (try k_sweep)))
local macro_rules | `(tactic| k_mem) => `(tactic| assumption)
def offV (way : Int) (ah at0 : Nat) : Nat := if way = 8 then 0 else if way = 9 then at0 + 9 else ah
theorem offV_eq {way : Int} {ah at0 : Nat} (w0 : 0 ≤ way) (w9 : way < 10) : [(ah : Int), (ah : Int), (ah : Int), 0, (at0 : Int) + 9].getD (if way - 5 > 0 then way - 5 else 0).toNat 0 = ((offV way ah at0 : Nat) : Int) := by
  obtain ⟨k, rfl⟩ := Int.eq_ofNat_of_zero_le w0
  replace w9 : k < 10 := Int.ofNat_lt.mp w9
  match k, w9 with
  | 0, _ | 1, _ | 2, _ | 3, _ | 4, _ | 5, _ | 6, _ | 7, _ | 8, _ | 9, _ => rfl
theorem offV_lt {way : Int} {ah at0 : Nat} (h1 : at0 ≤ 300) (h2 : ah ≤ 200) : offV way ah at0 < 512 := by
  unfold offV
  split
  · omega
  split <;> omega
theorem offV_ah {way : Int} {ah at0 : Nat} (h : ¬ (way = 5 ∨ way = 8 ∨ way = 9)) : offV way ah at0 = ah := by
  unfold offV
  rw [if_neg (by omega), if_neg (by omega)]
theorem offV_5 {way : Int} {ah at0 : Nat} (h : way = 5) : offV way ah at0 = ah := by
  unfold offV
  rw [if_neg (by omega), if_neg (by omega)]
theorem offV_bad {way : Int} {ah at0 : Nat} {keys : List Int} (h : way ≠ 5) (q : way = 5 ∨ way = 8 ∨ way = 9) (b : 12 + ah ≤ at0) (hk : ∀ x, x ∈ keys → x = 12 ∨ x = (at0 : Int) - ah) : offV way ah at0 = 0 ∨ ((at0 : Int) - (offV way ah at0 : Nat)) ∉ keys := by
  rcases q with q | q | q
  · exact absurd q h
  · left; unfold offV; rw [if_pos q]
  · right
    have e : offV way ah at0 = at0 + 9 := by unfold offV; rw [if_neg (by omega), if_pos q]
    rw [e]
    intro z
    have := hk _ z
    omega
theorem sem6 {n sz many at0 ah : Nat} {way : Int} {cont lb : List UInt8} {keys : List Int} (hn : (n : Int) = 6) (O : OffOk (offV way ah at0) lb) (h1 : 1 ≤ ah)
    (hg : ¬ (way = 5 ∨ way = 8 ∨ way = 9) → ((at0 : Int) - ah) ∈ keys) (hb : way = 5 ∨ way = 8 ∨ way = 9 → offV way ah at0 = 0 ∨ ((at0 : Int) - (offV way ah at0 : Nat)) ∉ keys) :
    Sem n sz many at0 way cont lb (some ((at0 : Int) - ah)) none keys := by
  obtain rfl : n = 6 := by omega
  intro told hb' pb beh H P
  have e := scan_off (many := many) (pre := List.replicate at0 80) (beh := beh) (keys := keys) H O P
  rw [List.length_replicate] at e
  refine ⟨fun h2 _ h4 => ?_, fun h => ?_⟩
  · have h5 : ¬ (way = 5 ∨ way = 8 ∨ way = 9) := fun q => h4 ⟨rfl, q⟩
    have h6 := hg h5
    rw [offV_ah h5] at e
    rw [e, if_neg (fun q => q.elim (fun q => by omega) (fun q => q h6)), if_pos h2]
  · rw [e]
    split
    · rfl
    · rename_i h7
      rcases h with h | h | ⟨_, h⟩
      · rw [if_neg h]
      · omega
      · exact absurd (hb h) h7
theorem sem7 {n sz many at0 : Nat} {way : Int} {cont lb : List UInt8} {keys : List Int} (hn : (n : Int) = 7) (hl : lb.length = many) : Sem n sz many at0 way cont lb none (some lb) keys := by
  obtain rfl : n = 7 := by omega
  intro told hb' pb beh H P
  have e := scan_id (many := many) (pre := List.replicate at0 80) (beh := beh) (keys := keys) H hl P
  rw [List.length_replicate] at e
  refine ⟨fun h2 _ h4 => ?_, fun h => ?_⟩
  · rw [e, if_pos h2]
  · rw [e]
    rcases h with h | h | ⟨h, _⟩
    · rw [if_neg h]
    · omega
    · omega
theorem sort_bad {n : Nat} (h : n = 0 ∨ n = 5) : n ∉ [1, 2, 3, 4, 6, 7] := by rcases h with rfl | rfl <;> decide
theorem sort_plain : ∀ n : Nat, n < 8 → n ∈ [1, 2, 3, 4] ∨ (n = 0 ∨ n = 5) ∨ (n : Int) = 6 ∨ (n : Int) = 7 := by decide
theorem semo {n sz many at0 : Nat} {way : Int} {cont : List UInt8} {keys : List Int} (h6 : (n : Int) ≠ 6) (h7 : (n : Int) ≠ 7) (h8 : n ≤ 7) : Sem n sz many at0 way cont [] none none keys := by
  intro told hb' pb beh H P
  by_cases hn : n = 0 ∨ n = 5
  · refine ⟨fun _ h3 _ => absurd hn h3, fun _ => ?_⟩
    have e := scan_bad (many := many) (pre := List.replicate at0 80) (beh := beh) (keys := keys) (x := [] ++ pb) H (sort_bad hn)
    rw [List.length_replicate] at e
    rw [← List.append_assoc hb' [] pb] at e
    exact e
  · have e := scan_plain (many := many) (pre := List.replicate at0 80) (beh := beh) (keys := keys) H P ((sort_plain n (Nat.lt_succ_of_le h8)).resolve_right fun q => q.elim hn (fun q => q.elim h6 h7))
    rw [List.length_replicate] at e
    refine ⟨fun h2 _ h4 => ?_, fun h => ?_⟩
    · rw [e, if_pos h2]
    · rw [e]
      rcases h with h | h | ⟨h, _⟩
      · rw [if_neg h]
      · exact absurd h hn
      · subst h; exact absurd rfl h6
end Mine

namespace Mine
theorem off35 : True := by w_top off; trivial
open PySem.Calls
local macro_rules | `(tactic| k_extra "exc") => `(tactic| (intro C9 c9 x9 tx9 e9 d9 k9 G9 h9 tk9 X9 F9 R9 c9' U9; obtain ⟨eC9, nn9⟩ := X9; subst eC9; clear c9'; (try dsimp only)))
local macro_rules | `(tactic| k_extra "pr") => `(tactic| (iterate 14 first | done | assumption | apply And.right))
local macro_rules | `(tactic| k_extra "pj") => `(tactic| first | (k_extra "pr"; done) | (apply And.left; k_extra "pr"; done))
local macro_rules | `(tactic| k_ne) => `(tactic| (refine neN ?_; (try dsimp only); with_reducible first | k_extra "pj" | (apply Nat.ne_of_lt; k_extra "pj") | (apply Nat.ne_of_gt; k_extra "pj") | (apply Ne.symm; k_extra "pj")))
local macro_rules | `(tactic| walk_at "exec Raise some none") => `(tactic| (k_here; refine raise_own rfl ?_))
local macro_rules | `(tactic| walk_at "call ref") => `(tactic| (k_here; k_dflt (refine' exc_made ?k1 ?k2 ?k3 ?k4 ?k5 ?k6 ?k7 ?k8 ?k9 ?k10 ?k11 ?k12 ?k13 ?_; (case k1 => k_asm); (case k2 => k_asm); (case k3 => k_asm); (case k4 => k_asm); (case k5 => k_asm); (case k6 => exact rfl); (case k7 => exact rfl); (case k8 => exact rfl); (case k9 => first | ktr_room | (dsimp only [Around.mark, Around.deeper, topA]; omega)); (case k10 => first | exact exc69 _ | exact exc45 _ | exact exc57 _); (case k11 => k_is); (case k12 => k_is); (case k13 => k_is); k_whole); intro e9 t9 d9 k9 tk9 h9 F9 N9 l9 l10 l11; (try k_sweep); (have ne9 := ne_of_lts N9 l9 l10 l11)))
local macro_rules | `(tactic| walk_at "RaisableO") => `(tactic| (k_here; k_dflt (refine raisableO_of (by assumption) (by assumption) (by assumption) (by first | exact exc69 _ | exact exc45 _ | exact exc57 _) ?_)))
local macro_rules | `(tactic| walk_at "leaving ref") => `(tactic| (k_here; k_dflt (refine leave_first (by assumption) (by assumption) (by assumption) rfl rfl rfl rfl rfl rfl (by assumption) ?_ rfl); intro h8 R8 U8))
local macro_rules | `(tactic| walk_at "exec") => `(tactic| (k_here; (with_reducible show wpAny _ _ (exec (Stmt.While _ _ _ _) _) _ _ _); k_dflt (k_extra "whl")))
local macro_rules | `(tactic| walk_at "binaryOp LShift int int") => `(tactic| (k_here; k_dflt (refine lshift_int (by first | decide | k_extra "shl0") (by k_extra "shl") ?_)))

local macro_rules | `(tactic| walk_at "subscriptTail") => `(tactic| (k_here; (with_reducible show wpAny _ _ (subscriptTail _ _ (Value.bytes (List.toArray _) _) (Value.ref _)) _ _ _); (with_reducible rename Fr _ _ _ _ => F'); (with_reducible rename News _ _ _ _ => N'); (refine cut_K (s := ⟨_, _, _, _, _⟩) F' N' (by constructor) (by constructor) ?hz ?_); (case hz => omega); intro h' t' k' F' N' cut9; (try k_sweep)))
local macro_rules | `(tactic| k_mem) => `(tactic| assumption)
local macro_rules | `(tactic| walk_at "eval Name") => `(tactic| ((with_reducible show wpAny _ _ (eval (Expr.Name _ _) (envOf _ _ _ _ _)) _ _ _); (refine' ld ?hF ?hm ?_ (by kernel_rfl!) (by kernel_rfl!) (by decide +kernel)); (case hF => assumption); (case hm => ((try dsimp only); (repeat rw [if_neg (by decide +kernel)]); first | exact if_pos rfl | assumption))))
local macro_rules | `(tactic| walk_at "call ref") => `(tactic| (k_here; (with_reducible show wpAny _ _ (call (Value.ref 229) _) _ _ _); k_dflt (refine' use_off ?_); intro b9 t9 h9 tk9 ok9 ol9 F9 N9; (try dsimp only)))
local macro_rules | `(tactic| walk_at "eval Dict") => `(tactic| (k_here; (with_reducible show wpAny _ _ (eval (Expr.Dict (_ :: _) _ _) _) _ _ _); k_dflt (refine' kdn_eval (knd := PySem.intKind _ _) ?F ?N ?b ?a ?l ?e ?n ?_; (case F => k_asm); (case N => k_asm); (case b => exact Top.nolimit (by k_asm)); (case a => rfl); (case l => rfl); (case e => exact List.cons_ne_nil _ _); (case n => exact Nat.le_of_ble_eq_true rfl)); intro d' h' o' F' N' l1 lo' hd'; k_dflt (have l2 := allLt_of l1); k_dflt (dsimp only [AllLt] at l2); k_dflt (have l3 := ne_all_of_lt l1)))
local macro_rules | `(tactic| walk_at "KdnMade") => `(tactic| (k_here; (k_dflt (with_reducible rename News _ _ _ _ => NN)); k_dflt (first
  | (refine' starts_two ?F NN ?h ?d ?_; (case F => k_asm); (case h => assumption); (case d => assumption))
  | (refine' starts_one ?F NN ?h ?d ?_; (case F => k_asm); (case h => assumption); (case d => assumption))); intro h' o' kvs' tk' F' N' sk' ks'))
local macro_rules | `(tactic| walk_at "CompEnd") => `(tactic| ((with_reducible rename News _ _ _ _ => NN); k_dflt (refine LCg.CompEnd.intro (by assumption) NN _ (fun p hp => hp) ?o ?s ?_; (case o => first | assumption | (simp only [LCg.Off3, and_true]; first | done | assumption)); (case s => first | lcg_src | assumption))))
local macro_rules | `(tactic| walk_at "execs cons") => `(tactic| (k_here; (with_reducible show wpAny _ _ (execs (Stmt.Assign [Expr.Name (Str.ofString "told_size") _] _ _ :: _) _) _ _ _); refine stop_of ?_))
local macro_rules | `(tactic| walk_at "subscriptTail") => `(tactic| (k_here; (with_reducible show wpAny _ _ (subscriptTail _ _ (Value.ref _) (Value.int _ _)) _ _ _); k_dflt (refine' pick_int [_, _, _, _, _] ?l ?v ?i ?j ?z ?_; (case l => is_list); (case v => repeat constructor); (case i => omega); (case j => (simp only [List.length_cons, List.length_nil]; omega)); (case z => (simp only [List.length_cons, List.length_nil]; decide))); intro t9))
set_option maxHeartbeats 8000000 in
theorem law_T5 (w : World) {mean : ExcName → Option Value} {mg mb : Str → Option Value} {h₀ : Heap} {L a : Addr} {ccd : Value} {m : Str → Option Value} {s : Shared} {Q : Flow → Shared → Prop} {E : Value → Shared → Prop}
    {qual : Str} {body : List Stmt} {scope : Scope}
    (hb : IsLaw (hd.heap_39 w.params) qual body scope)
    (B : Below callerA h₀ [] h₀) (F : Fr h₀ L s.heap m) (X : (hd.heap_39 w.params).In h₀) (T : Top VW LS mean mg mb h₀)
    (Tp C : Addr) (o oc : Obj) (N : News h₀ L s.heap [(Tp, o), (C, oc)]) (H : TapeO w Tp C o oc) (hTC : Tp ≠ C)
    (cont : List UInt8) (at0 n sz ah many : Nat) (way : Int) (tn tw ts ta tc tm th : Tok)
    (m_numb : m (Str.ofString "number") = some (.int n tn)) (m_way : m (Str.ofString "way") = some (.int way tw)) (m_size : m (Str.ofString "size") = some (.int sz ts)) (m_many : m (Str.ofString "many") = some (.int many tm)) (m_ah : m (Str.ofString "ahead") = some (.int ah th)) (m_at : m (Str.ofString "at") = some (.int at0 ta)) (m_cont : m (Str.ofString "content") = some (.bytes cont.toArray tc)) (m_tape : m (Str.ofString "tape") = some (.ref Tp))
    (b1 : n ≤ 7) (b2 : sz ≤ 130) (b3 : cont.length = sz) (b4 : at0 ≤ 300) (b5 : 12 + ah ≤ at0) (b6 : 1 ≤ ah) (b7 : ah ≤ 200) (b8 : 2 ≤ many) (b9 : many ≤ 4) (w0 : 0 ≤ way) (w9 : way < 10)
    (hret : ∀ h' m' news' tk, Fr h₀ L h' m' → News h₀ L h' news' → Q (.ret (.bool true)) { s with heap := h', toks := tk }) :
    wpAny (model PySem.Challenge.rw_pb0100_01.row.prog w) (callerA.deeper (envOf qual scope L a ccd)) (execs (body.drop 5) (envOf qual scope L a ccd)) Q E s := by
  revert X hb
  k_fill
  intro hb X
  refine' body_keep (fun q b sc => wpAny (model PySem.Challenge.rw_pb0100_01.row.prog w) (callerA.deeper (envOf q sc L a ccd)) (execs (b.drop 5) (envOf q sc L a ccd)) Q E s) hb ?hk ?_
  case hk => k_is
  clear hb
  intro hb
  simp only [List.drop_succ_cons, List.drop_zero]
  k_with_none
  k_steps
  · unfold Stop
    rename News h₀ L _ _ => N8
    rename Fr h₀ L _ _ => F8
    rename ∀ x : Int, x ∈ List.map _ _ ↔ _ => KS
    rename StartsK _ _ _ => SK
    rename OffOk _ _ => OK
    refine' law_T8 w (rest := [(_, _), (_, instObj 122 _), (_, dictOf [⟨_, .str "size" _, .int _ _⟩, ⟨_, .str "known" _, .ref _⟩] _)]) hb B F8 X T Tp C o oc ?N_0 H hTC ?hT_0 ?hC_0 _ _ _ _ _ _ _ _ _ many _ _ _ (.tail _ (.head _)) (.tail _ (.tail _ (.head _))) (.head _) SK ?hs3_0 cont _ at0 n sz way _ _ (some ((at0 : Int) - ah)) none _ _ _ _ _ _ ?m0_0 ?m1_0 ?m2_0 ?m3_0 ?m4_0 ?m5_0 ?m6_0 ?m7_0 ?m8_0 ?m9_0 ?m10_0 b1 b2 b3 b4 ?b5_0 ?hvb_0 ?hvi_0 ?sem_0 hret
    case m0_0 => ((try dsimp only); (repeat rw [if_neg (by decide +kernel)]); first | exact if_pos rfl | assumption)
    case m1_0 => ((try dsimp only); (repeat rw [if_neg (by decide +kernel)]); first | exact if_pos rfl | assumption)
    case m2_0 => ((try dsimp only); (repeat rw [if_neg (by decide +kernel)]); first | exact if_pos rfl | assumption)
    case m3_0 => ((try dsimp only); (repeat rw [if_neg (by decide +kernel)]); first | exact if_pos rfl | assumption)
    case m4_0 => ((try dsimp only); (repeat rw [if_neg (by decide +kernel)]); first | exact if_pos rfl | assumption)
    case m5_0 => ((try dsimp only); (repeat rw [if_neg (by decide +kernel)]); first | exact if_pos rfl | assumption)
    case m6_0 => ((try dsimp only); (repeat rw [if_neg (by decide +kernel)]); first | exact if_pos rfl | assumption)
    case m7_0 => ((try dsimp only); (repeat rw [if_neg (by decide +kernel)]); first | exact if_pos rfl | assumption)
    case m8_0 => ((try dsimp only); (repeat rw [if_neg (by decide +kernel)]); first | exact if_pos rfl | assumption)
    case m9_0 => ((try dsimp only); (repeat rw [if_neg (by decide +kernel)]); first | exact if_pos rfl | assumption)
    case m10_0 => ((try dsimp only); (repeat rw [if_neg (by decide +kernel)]); first | exact if_pos rfl | assumption)
    case N_0 =>
      intro p hp
      refine N8 p ?_
      revert p hp
      refine List.cons_subset.mpr ⟨?_, List.cons_subset.mpr ⟨?_, List.cons_subset.mpr ⟨?_, List.cons_subset.mpr ⟨?_, List.cons_subset.mpr ⟨?_, List.nil_subset _⟩⟩⟩⟩⟩
      all_goals (repeat (first | with_reducible exact List.mem_cons_self | with_reducible refine List.mem_cons_of_mem _ ?_))
    case hT_0 => refine List.forall_mem_cons.mpr ⟨?_, List.forall_mem_cons.mpr ⟨?_, List.forall_mem_cons.mpr ⟨?_, List.forall_mem_nil _⟩⟩⟩ <;> k_ne
    case hC_0 => refine List.forall_mem_cons.mpr ⟨?_, List.forall_mem_cons.mpr ⟨?_, List.forall_mem_cons.mpr ⟨?_, List.forall_mem_nil _⟩⟩⟩ <;> k_ne
    case hs3_0 => assumption
    case b5_0 => omega
    case hvb_0 => exact ⟨_, rfl⟩
    case hvi_0 => exact ⟨0, rfl⟩
    case sem_0 => exact sem6 (by assumption) OK b6 (fun q => absurd (.inl (by assumption)) q) (fun _ => .inr (fun q => by have q' := (KS _).mp q; rw [offV_5 (by assumption)] at q'; omega))
  · unfold Stop
    rename News h₀ L _ _ => N8
    rename Fr h₀ L _ _ => F8
    rename ∀ x : Int, x ∈ List.map _ _ ↔ _ => KS
    rename StartsK _ _ _ => SK
    rename OffOk _ _ => OK
    refine' law_T8 w (rest := [(_, _), (_, instObj 122 _), (_, dictOf [⟨_, .str "size" _, .int _ _⟩, ⟨_, .str "known" _, .ref _⟩] _)]) hb B F8 X T Tp C o oc ?N_1 H hTC ?hT_1 ?hC_1 _ _ _ _ _ _ _ _ _ many _ _ _ (.tail _ (.head _)) (.tail _ (.tail _ (.head _))) (.head _) SK ?hs3_1 cont _ at0 n sz way _ _ (some ((at0 : Int) - ah)) none _ _ _ _ _ _ ?m0_1 ?m1_1 ?m2_1 ?m3_1 ?m4_1 ?m5_1 ?m6_1 ?m7_1 ?m8_1 ?m9_1 ?m10_1 b1 b2 b3 b4 ?b5_1 ?hvb_1 ?hvi_1 ?sem_1 hret
    case m0_1 => ((try dsimp only); (repeat rw [if_neg (by decide +kernel)]); first | exact if_pos rfl | assumption)
    case m1_1 => ((try dsimp only); (repeat rw [if_neg (by decide +kernel)]); first | exact if_pos rfl | assumption)
    case m2_1 => ((try dsimp only); (repeat rw [if_neg (by decide +kernel)]); first | exact if_pos rfl | assumption)
    case m3_1 => ((try dsimp only); (repeat rw [if_neg (by decide +kernel)]); first | exact if_pos rfl | assumption)
    case m4_1 => ((try dsimp only); (repeat rw [if_neg (by decide +kernel)]); first | exact if_pos rfl | assumption)
    case m5_1 => ((try dsimp only); (repeat rw [if_neg (by decide +kernel)]); first | exact if_pos rfl | assumption)
    case m6_1 => ((try dsimp only); (repeat rw [if_neg (by decide +kernel)]); first | exact if_pos rfl | assumption)
    case m7_1 => ((try dsimp only); (repeat rw [if_neg (by decide +kernel)]); first | exact if_pos rfl | assumption)
    case m8_1 => ((try dsimp only); (repeat rw [if_neg (by decide +kernel)]); first | exact if_pos rfl | assumption)
    case m9_1 => ((try dsimp only); (repeat rw [if_neg (by decide +kernel)]); first | exact if_pos rfl | assumption)
    case m10_1 => ((try dsimp only); (repeat rw [if_neg (by decide +kernel)]); first | exact if_pos rfl | assumption)
    case N_1 =>
      intro p hp
      refine N8 p ?_
      revert p hp
      refine List.cons_subset.mpr ⟨?_, List.cons_subset.mpr ⟨?_, List.cons_subset.mpr ⟨?_, List.cons_subset.mpr ⟨?_, List.cons_subset.mpr ⟨?_, List.nil_subset _⟩⟩⟩⟩⟩
      all_goals (repeat (first | with_reducible exact List.mem_cons_self | with_reducible refine List.mem_cons_of_mem _ ?_))
    case hT_1 => refine List.forall_mem_cons.mpr ⟨?_, List.forall_mem_cons.mpr ⟨?_, List.forall_mem_cons.mpr ⟨?_, List.forall_mem_nil _⟩⟩⟩ <;> k_ne
    case hC_1 => refine List.forall_mem_cons.mpr ⟨?_, List.forall_mem_cons.mpr ⟨?_, List.forall_mem_cons.mpr ⟨?_, List.forall_mem_nil _⟩⟩⟩ <;> k_ne
    case hs3_1 => assumption
    case b5_1 => omega
    case hvb_1 => exact ⟨_, rfl⟩
    case hvi_1 => exact ⟨0, rfl⟩
    case sem_1 => exact sem6 (by assumption) OK b6 (fun q => absurd (.inl (by assumption)) q) (fun _ => .inr (fun q => by have q' := (KS _).mp q; rw [offV_5 (by assumption)] at q'; omega))
  · unfold Stop
    rename News h₀ L _ _ => N8
    rename Fr h₀ L _ _ => F8
    rename ∀ x : Int, x ∈ List.map _ _ ↔ _ => KS
    rename StartsK _ _ _ => SK
    rename OffOk _ _ => OK
    refine' law_T8 w (rest := [(_, _), (_, instObj 122 _), (_, dictOf [⟨_, .str "size" _, .int _ _⟩, ⟨_, .str "known" _, .ref _⟩] _)]) hb B F8 X T Tp C o oc ?N_2 H hTC ?hT_2 ?hC_2 _ _ _ _ _ _ _ _ _ many _ _ _ (.tail _ (.head _)) (.tail _ (.tail _ (.head _))) (.head _) SK ?hs3_2 cont _ at0 n sz way _ _ (some ((at0 : Int) - ah)) none _ _ _ _ _ _ ?m0_2 ?m1_2 ?m2_2 ?m3_2 ?m4_2 ?m5_2 ?m6_2 ?m7_2 ?m8_2 ?m9_2 ?m10_2 b1 b2 b3 b4 ?b5_2 ?hvb_2 ?hvi_2 ?sem_2 hret
    case m0_2 => ((try dsimp only); (repeat rw [if_neg (by decide +kernel)]); first | exact if_pos rfl | assumption)
    case m1_2 => ((try dsimp only); (repeat rw [if_neg (by decide +kernel)]); first | exact if_pos rfl | assumption)
    case m2_2 => ((try dsimp only); (repeat rw [if_neg (by decide +kernel)]); first | exact if_pos rfl | assumption)
    case m3_2 => ((try dsimp only); (repeat rw [if_neg (by decide +kernel)]); first | exact if_pos rfl | assumption)
    case m4_2 => ((try dsimp only); (repeat rw [if_neg (by decide +kernel)]); first | exact if_pos rfl | assumption)
    case m5_2 => ((try dsimp only); (repeat rw [if_neg (by decide +kernel)]); first | exact if_pos rfl | assumption)
    case m6_2 => ((try dsimp only); (repeat rw [if_neg (by decide +kernel)]); first | exact if_pos rfl | assumption)
    case m7_2 => ((try dsimp only); (repeat rw [if_neg (by decide +kernel)]); first | exact if_pos rfl | assumption)
    case m8_2 => ((try dsimp only); (repeat rw [if_neg (by decide +kernel)]); first | exact if_pos rfl | assumption)
    case m9_2 => ((try dsimp only); (repeat rw [if_neg (by decide +kernel)]); first | exact if_pos rfl | assumption)
    case m10_2 => ((try dsimp only); (repeat rw [if_neg (by decide +kernel)]); first | exact if_pos rfl | assumption)
    case N_2 =>
      intro p hp
      refine N8 p ?_
      revert p hp
      refine List.cons_subset.mpr ⟨?_, List.cons_subset.mpr ⟨?_, List.cons_subset.mpr ⟨?_, List.cons_subset.mpr ⟨?_, List.cons_subset.mpr ⟨?_, List.nil_subset _⟩⟩⟩⟩⟩
      all_goals (repeat (first | with_reducible exact List.mem_cons_self | with_reducible refine List.mem_cons_of_mem _ ?_))
    case hT_2 => refine List.forall_mem_cons.mpr ⟨?_, List.forall_mem_cons.mpr ⟨?_, List.forall_mem_cons.mpr ⟨?_, List.forall_mem_nil _⟩⟩⟩ <;> k_ne
    case hC_2 => refine List.forall_mem_cons.mpr ⟨?_, List.forall_mem_cons.mpr ⟨?_, List.forall_mem_cons.mpr ⟨?_, List.forall_mem_nil _⟩⟩⟩ <;> k_ne
    case hs3_2 => assumption
    case b5_2 => omega
    case hvb_2 => exact ⟨_, rfl⟩
    case hvi_2 => exact ⟨0, rfl⟩
    case sem_2 => exact sem6 (by assumption) OK b6 (fun q => (KS _).mpr (.inr rfl)) (fun q => offV_bad (by assumption) q b5 (fun x => (KS x).mp))
  · unfold Stop
    rename News h₀ L _ _ => N8
    rename Fr h₀ L _ _ => F8
    rename ∀ x : Int, x ∈ List.map _ _ ↔ _ => KS
    rename StartsK _ _ _ => SK
    refine' law_T8 w (rest := [(_, _), (_, instObj 122 _), (_, dictOf [⟨_, .str "size" _, .int _ _⟩, ⟨_, .str "known" _, .ref _⟩] _)]) hb B F8 X T Tp C o oc ?N_3 H hTC ?hT_3 ?hC_3 _ _ _ _ _ _ _ _ _ many _ _ _ (.tail _ (.head _)) (.tail _ (.tail _ (.head _))) (.head _) SK ?hs3_3 cont (List.map (fun n : Int => n.toNat.toUInt8) (List.map (fun k : Int => 200 + k) (rangeKs 0 ((many : Int) - 0).toNat))) at0 n sz way _ _ none (some (List.map (fun n : Int => n.toNat.toUInt8) (List.map (fun k : Int => 200 + k) (rangeKs 0 ((many : Int) - 0).toNat)))) _ _ _ _ _ _ ?m0_3 ?m1_3 ?m2_3 ?m3_3 ?m4_3 ?m5_3 ?m6_3 ?m7_3 ?m8_3 ?m9_3 ?m10_3 b1 b2 b3 b4 ?b5_3 ?hvb_3 ?hvi_3 ?sem_3 hret
    case m0_3 => ((try dsimp only); (repeat rw [if_neg (by decide +kernel)]); first | exact if_pos rfl | assumption)
    case m1_3 => ((try dsimp only); (repeat rw [if_neg (by decide +kernel)]); first | exact if_pos rfl | assumption)
    case m2_3 => ((try dsimp only); (repeat rw [if_neg (by decide +kernel)]); first | exact if_pos rfl | assumption)
    case m3_3 => ((try dsimp only); (repeat rw [if_neg (by decide +kernel)]); first | exact if_pos rfl | assumption)
    case m4_3 => ((try dsimp only); (repeat rw [if_neg (by decide +kernel)]); first | exact if_pos rfl | assumption)
    case m5_3 => ((try dsimp only); (repeat rw [if_neg (by decide +kernel)]); first | exact if_pos rfl | assumption)
    case m6_3 => ((try dsimp only); (repeat rw [if_neg (by decide +kernel)]); first | exact if_pos rfl | assumption)
    case m7_3 => ((try dsimp only); (repeat rw [if_neg (by decide +kernel)]); first | exact if_pos rfl | assumption)
    case m8_3 => ((try dsimp only); (repeat rw [if_neg (by decide +kernel)]); first | exact if_pos rfl | assumption)
    case m9_3 => ((try dsimp only); (repeat rw [if_neg (by decide +kernel)]); first | exact if_pos rfl | assumption)
    case m10_3 => ((try dsimp only); (repeat rw [if_neg (by decide +kernel)]); first | exact if_pos rfl | assumption)
    case N_3 =>
      intro p hp
      refine N8 p ?_
      revert p hp
      refine List.cons_subset.mpr ⟨?_, List.cons_subset.mpr ⟨?_, List.cons_subset.mpr ⟨?_, List.cons_subset.mpr ⟨?_, List.cons_subset.mpr ⟨?_, List.nil_subset _⟩⟩⟩⟩⟩
      all_goals (repeat (first | with_reducible exact List.mem_cons_self | with_reducible refine List.mem_cons_of_mem _ ?_))
    case hT_3 => refine List.forall_mem_cons.mpr ⟨?_, List.forall_mem_cons.mpr ⟨?_, List.forall_mem_cons.mpr ⟨?_, List.forall_mem_nil _⟩⟩⟩ <;> k_ne
    case hC_3 => refine List.forall_mem_cons.mpr ⟨?_, List.forall_mem_cons.mpr ⟨?_, List.forall_mem_cons.mpr ⟨?_, List.forall_mem_nil _⟩⟩⟩ <;> k_ne
    case hs3_3 => assumption
    case b5_3 => (rw [List.length_map, List.length_map, rangeKs_length]; omega)
    case hvb_3 => exact ⟨0, rfl⟩
    case hvi_3 => exact ⟨_, rfl⟩
    case sem_3 => exact sem7 (by assumption) (by rw [List.length_map, List.length_map, rangeKs_length]; omega)
  · unfold Stop
    rename News h₀ L _ _ => N8
    rename Fr h₀ L _ _ => F8
    rename ∀ x : Int, x ∈ List.map _ _ ↔ _ => KS
    rename StartsK _ _ _ => SK
    refine' law_T8 w (rest := [(_, _), (_, instObj 122 _), (_, dictOf [⟨_, .str "size" _, .int _ _⟩, ⟨_, .str "known" _, .ref _⟩] _)]) hb B F8 X T Tp C o oc ?N_4 H hTC ?hT_4 ?hC_4 _ _ _ _ _ _ _ _ _ many _ _ _ (.tail _ (.head _)) (.tail _ (.tail _ (.head _))) (.head _) SK ?hs3_4 cont _ at0 n sz way _ _ none none _ _ _ _ _ _ ?m0_4 ?m1_4 ?m2_4 ?m3_4 ?m4_4 ?m5_4 ?m6_4 ?m7_4 ?m8_4 ?m9_4 ?m10_4 b1 b2 b3 b4 ?b5_4 ?hvb_4 ?hvi_4 ?sem_4 hret
    case m0_4 => ((try dsimp only); (repeat rw [if_neg (by decide +kernel)]); first | exact if_pos rfl | assumption)
    case m1_4 => ((try dsimp only); (repeat rw [if_neg (by decide +kernel)]); first | exact if_pos rfl | assumption)
    case m2_4 => ((try dsimp only); (repeat rw [if_neg (by decide +kernel)]); first | exact if_pos rfl | assumption)
    case m3_4 => ((try dsimp only); (repeat rw [if_neg (by decide +kernel)]); first | exact if_pos rfl | assumption)
    case m4_4 => ((try dsimp only); (repeat rw [if_neg (by decide +kernel)]); first | exact if_pos rfl | assumption)
    case m5_4 => ((try dsimp only); (repeat rw [if_neg (by decide +kernel)]); first | exact if_pos rfl | assumption)
    case m6_4 => ((try dsimp only); (repeat rw [if_neg (by decide +kernel)]); first | exact if_pos rfl | assumption)
    case m7_4 => ((try dsimp only); (repeat rw [if_neg (by decide +kernel)]); first | exact if_pos rfl | assumption)
    case m8_4 => ((try dsimp only); (repeat rw [if_neg (by decide +kernel)]); first | exact if_pos rfl | assumption)
    case m9_4 => ((try dsimp only); (repeat rw [if_neg (by decide +kernel)]); first | exact if_pos rfl | assumption)
    case m10_4 => ((try dsimp only); (repeat rw [if_neg (by decide +kernel)]); first | exact if_pos rfl | assumption)
    case N_4 =>
      intro p hp
      refine N8 p ?_
      revert p hp
      refine List.cons_subset.mpr ⟨?_, List.cons_subset.mpr ⟨?_, List.cons_subset.mpr ⟨?_, List.cons_subset.mpr ⟨?_, List.cons_subset.mpr ⟨?_, List.nil_subset _⟩⟩⟩⟩⟩
      all_goals (repeat (first | with_reducible exact List.mem_cons_self | with_reducible refine List.mem_cons_of_mem _ ?_))
    case hT_4 => refine List.forall_mem_cons.mpr ⟨?_, List.forall_mem_cons.mpr ⟨?_, List.forall_mem_cons.mpr ⟨?_, List.forall_mem_nil _⟩⟩⟩ <;> k_ne
    case hC_4 => refine List.forall_mem_cons.mpr ⟨?_, List.forall_mem_cons.mpr ⟨?_, List.forall_mem_cons.mpr ⟨?_, List.forall_mem_nil _⟩⟩⟩ <;> k_ne
    case hs3_4 => assumption
    case b5_4 => simp
    case hvb_4 => exact ⟨0, rfl⟩
    case hvi_4 => exact ⟨0, rfl⟩
    case sem_4 => exact semo (by assumption) (by assumption) b1
end Mine

namespace Mine
theorem off36 : True := by w_top off; trivial
open PySem.Calls
local macro_rules | `(tactic| k_extra "exc") => `(tactic| (intro C9 c9 x9 tx9 e9 d9 k9 G9 h9 tk9 X9 F9 R9 c9' U9; obtain ⟨eC9, nn9⟩ := X9; subst eC9; clear c9'; (try dsimp only)))
local macro_rules | `(tactic| k_extra "pr") => `(tactic| (iterate 14 first | done | assumption | apply And.right))
local macro_rules | `(tactic| k_extra "pj") => `(tactic| first | (k_extra "pr"; done) | (apply And.left; k_extra "pr"; done))
local macro_rules | `(tactic| k_ne) => `(tactic| (refine neN ?_; (try dsimp only); with_reducible first | k_extra "pj" | (apply Nat.ne_of_lt; k_extra "pj") | (apply Nat.ne_of_gt; k_extra "pj") | (apply Ne.symm; k_extra "pj")))
local macro_rules | `(tactic| walk_at "exec Raise some none") => `(tactic| (k_here; refine raise_own rfl ?_))
local macro_rules | `(tactic| walk_at "call ref") => `(tactic| (k_here; k_dflt (refine' exc_made ?k1 ?k2 ?k3 ?k4 ?k5 ?k6 ?k7 ?k8 ?k9 ?k10 ?k11 ?k12 ?k13 ?_; (case k1 => k_asm); (case k2 => k_asm); (case k3 => k_asm); (case k4 => k_asm); (case k5 => k_asm); (case k6 => exact rfl); (case k7 => exact rfl); (case k8 => exact rfl); (case k9 => first | ktr_room | (dsimp only [Around.mark, Around.deeper, topA]; omega)); (case k10 => first | exact exc69 _ | exact exc45 _ | exact exc57 _); (case k11 => k_is); (case k12 => k_is); (case k13 => k_is); k_whole); intro e9 t9 d9 k9 tk9 h9 F9 N9 l9 l10 l11; (try k_sweep); (have ne9 := ne_of_lts N9 l9 l10 l11)))
local macro_rules | `(tactic| walk_at "RaisableO") => `(tactic| (k_here; k_dflt (refine raisableO_of (by assumption) (by assumption) (by assumption) (by first | exact exc69 _ | exact exc45 _ | exact exc57 _) ?_)))
local macro_rules | `(tactic| walk_at "leaving ref") => `(tactic| (k_here; k_dflt (refine leave_first (by assumption) (by assumption) (by assumption) rfl rfl rfl rfl rfl rfl (by assumption) ?_ rfl); intro h8 R8 U8))
local macro_rules | `(tactic| walk_at "binaryOp LShift int int") => `(tactic| (k_here; k_dflt (refine lshift_int (by first | decide | k_extra "shl0") (by k_extra "shl") ?_)))

local macro_rules | `(tactic| walk_at "subscriptTail") => `(tactic| (k_here; (with_reducible show wpAny _ _ (subscriptTail _ _ (Value.bytes (List.toArray _) _) (Value.ref _)) _ _ _); (with_reducible rename Fr _ _ _ _ => F'); (with_reducible rename News _ _ _ _ => N'); (refine cut_K (s := ⟨_, _, _, _, _⟩) F' N' (by constructor) (by constructor) ?hz ?_); (case hz => omega); intro h' t' k' F' N' cut9; (try k_sweep)))
local macro_rules | `(tactic| k_mem) => `(tactic| assumption)
theorem getD_in {xs : List Int} (lo hi : Int) (hb : (xs.all fun x => decide (lo ≤ x ∧ x ≤ hi)) = true) {i : Int} (h0 : 0 ≤ i) (h1 : i < (xs.length : Int)) : lo ≤ xs.getD i.toNat 0 ∧ xs.getD i.toNat 0 ≤ hi := by
  have hlt : i.toNat < xs.length := by omega
  rw [List.getD_eq_getElem?_getD, List.getElem?_eq_getElem hlt]
  have hm := List.all_eq_true.mp hb _ (List.getElem_mem hlt)
  rw [decide_eq_true_eq] at hm
  exact hm
theorem law_T5' (w : World) {mean : ExcName → Option Value} {mg mb : Str → Option Value} {h₀ : Heap} {L a : Addr} {ccd : Value} {m : Str → Option Value} {s : Shared} {Q : Flow → Shared → Prop} {E : Value → Shared → Prop}
    {qual : Str} {body : List Stmt} {scope : Scope}
    (hb : IsLaw (hd.heap_39 w.params) qual body scope)
    (B : Below callerA h₀ [] h₀) (F : Fr h₀ L s.heap m) (X : (hd.heap_39 w.params).In h₀) (T : Top VW LS mean mg mb h₀)
    (Tp C : Addr) (o oc : Obj) (N : News h₀ L s.heap [(Tp, o), (C, oc)]) (H : TapeO w Tp C o oc) (hTC : Tp ≠ C)
    (cont : List UInt8) (i_n i_sz i_ah i_m i_at way : Int) (t0 t1 t2 t3 t4 t5 tc : Tok)
    (m_number : m (Str.ofString "number") = some (.int i_n t0)) (m_way : m (Str.ofString "way") = some (.int way t1)) (m_size : m (Str.ofString "size") = some (.int i_sz t2)) (m_many : m (Str.ofString "many") = some (.int i_m t3)) (m_ahead : m (Str.ofString "ahead") = some (.int i_ah t4)) (m_at : m (Str.ofString "at") = some (.int i_at t5)) (m_co : m (Str.ofString "content") = some (.bytes cont.toArray tc)) (m_ta : m (Str.ofString "tape") = some (.ref Tp))
    (bn : 0 ≤ i_n ∧ i_n ≤ 7) (bs : 0 ≤ i_sz ∧ i_sz ≤ 130) (bc : cont.length = (i_sz - 0).toNat) (ba : 1 ≤ i_ah ∧ i_ah ≤ 200) (bm : 2 ≤ i_m ∧ i_m ≤ 4) (bt : 12 + i_ah ≤ i_at ∧ i_at ≤ 300) (bw : 0 ≤ way ∧ way < 10)
    (hret : ∀ h' m' news' tk, Fr h₀ L h' m' → News h₀ L h' news' → Q (.ret (.bool true)) { s with heap := h', toks := tk }) :
    wpAny (model PySem.Challenge.rw_pb0100_01.row.prog w) (callerA.deeper (envOf qual scope L a ccd)) (execs (body.drop 5) (envOf qual scope L a ccd)) Q E s := by
  obtain ⟨n, rfl⟩ := Int.eq_ofNat_of_zero_le bn.1
  obtain ⟨sz, rfl⟩ := Int.eq_ofNat_of_zero_le bs.1
  obtain ⟨ah, rfl⟩ := Int.eq_ofNat_of_zero_le (show 0 ≤ i_ah by omega)
  obtain ⟨many, rfl⟩ := Int.eq_ofNat_of_zero_le (show 0 ≤ i_m by omega)
  obtain ⟨at0, rfl⟩ := Int.eq_ofNat_of_zero_le (show 0 ≤ i_at by omega)
  exact law_T5 w hb B F X T Tp C o oc N H hTC cont at0 n sz ah many way _ _ _ _ _ _ _ m_number m_way m_size m_many m_ahead m_at m_co m_ta (by omega) (by omega) (by omega) (by omega) (by omega) (by omega) (by omega) (by omega) (by omega) bw.1 bw.2 hret
theorem use_law {K : Frag} {h : Heap} {oc' : Value} {od' : Option Addr} {name' qual' : Str} {params' : Arguments} {body' : List Stmt} {scope' : Scope} {dV' kV' doc' pm' : Value} {an' : Option Addr} {cdv' ct' : Value} {osl' : Array (Option Value)} {P : Prop}
    (_ : K.In h) (h' : K.lookup 246 = some ⟨oc', od', .func (fnOf name' qual' params' body' scope' dV' kV' doc' pm' an' cdv' ct'), osl'⟩) (k : IsLaw K qual' body' scope' → P) : P := k ⟨_, _, _, _, _, _, _, _, _, _, _, _, h'⟩
theorem pick2 {w : World} {h₀ h : Heap} {L T C : Addr} {o oc : Obj} {all : List (Addr × Obj)} (N : News h₀ L h all) (_H : TapeO w T C o oc) (m1 : (T, o) ∈ all) (m2 : (C, oc) ∈ all) : News h₀ L h [(T, o), (C, oc)] := fun p hp => N p (by
  rcases List.mem_cons.mp hp with rfl | hp
  · exact m1
  rcases List.mem_cons.mp hp with rfl | hp
  · exact m2
  · cases hp)
theorem bt_of {a r : Int} (h : 1 ≤ a ∧ a ≤ 200) (h0 : 0 ≤ r) (h3 : r < 3) : 12 + a ≤ 12 + a + r ∧ 12 + a + r ≤ 300 := by omega
end Mine

namespace Mine
theorem off37 : True := by w_top off; trivial
open PySem.Calls
local macro_rules | `(tactic| k_extra "exc") => `(tactic| (intro C9 c9 x9 tx9 e9 d9 k9 G9 h9 tk9 X9 F9 R9 c9' U9; obtain ⟨eC9, nn9⟩ := X9; subst eC9; clear c9'; (try dsimp only)))
local macro_rules | `(tactic| k_extra "pr") => `(tactic| (iterate 14 first | done | assumption | apply And.right))
local macro_rules | `(tactic| k_extra "pj") => `(tactic| first | (k_extra "pr"; done) | (apply And.left; k_extra "pr"; done))
local macro_rules | `(tactic| k_ne) => `(tactic| (refine neN ?_; (try dsimp only); with_reducible first | k_extra "pj" | (apply Nat.ne_of_lt; k_extra "pj") | (apply Nat.ne_of_gt; k_extra "pj") | (apply Ne.symm; k_extra "pj")))
local macro_rules | `(tactic| walk_at "exec Raise some none") => `(tactic| (k_here; refine raise_own rfl ?_))
local macro_rules | `(tactic| walk_at "call ref") => `(tactic| (k_here; k_dflt (refine' exc_made ?k1 ?k2 ?k3 ?k4 ?k5 ?k6 ?k7 ?k8 ?k9 ?k10 ?k11 ?k12 ?k13 ?_; (case k1 => k_asm); (case k2 => k_asm); (case k3 => k_asm); (case k4 => k_asm); (case k5 => k_asm); (case k6 => exact rfl); (case k7 => exact rfl); (case k8 => exact rfl); (case k9 => first | ktr_room | (dsimp only [Around.mark, Around.deeper, topA]; omega)); (case k10 => first | exact exc69 _ | exact exc45 _ | exact exc57 _); (case k11 => k_is); (case k12 => k_is); (case k13 => k_is); k_whole); intro e9 t9 d9 k9 tk9 h9 F9 N9 l9 l10 l11; (try k_sweep); (have ne9 := ne_of_lts N9 l9 l10 l11)))
local macro_rules | `(tactic| walk_at "RaisableO") => `(tactic| (k_here; k_dflt (refine raisableO_of (by assumption) (by assumption) (by assumption) (by first | exact exc69 _ | exact exc45 _ | exact exc57 _) ?_)))
local macro_rules | `(tactic| walk_at "leaving ref") => `(tactic| (k_here; k_dflt (refine leave_first (by assumption) (by assumption) (by assumption) rfl rfl rfl rfl rfl rfl (by assumption) ?_ rfl); intro h8 R8 U8))
local macro_rules | `(tactic| walk_at "exec") => `(tactic| (k_here; (with_reducible show wpAny _ _ (exec (Stmt.While _ _ _ _) _) _ _ _); k_dflt (k_extra "whl")))
local macro_rules | `(tactic| walk_at "binaryOp LShift int int") => `(tactic| (k_here; k_dflt (refine lshift_int (by first | decide | k_extra "shl0") (by k_extra "shl") ?_)))

local macro_rules | `(tactic| walk_at "subscriptTail") => `(tactic| (k_here; (with_reducible show wpAny _ _ (subscriptTail _ _ (Value.bytes (List.toArray _) _) (Value.ref _)) _ _ _); (with_reducible rename Fr _ _ _ _ => F'); (with_reducible rename News _ _ _ _ => N'); (refine cut_K (s := ⟨_, _, _, _, _⟩) F' N' (by constructor) (by constructor) ?hz ?_); (case hz => omega); intro h' t' k' F' N' cut9; (try k_sweep)))
local macro_rules | `(tactic| k_mem) => `(tactic| assumption)
local macro_rules | `(tactic| walk_at "call ref") => `(tactic| (k_here; (with_reducible show wpAny _ _ (call (Value.ref 217) _) _ _ _); k_dflt (refine' use_next ?_); intro r9 t9 o9 c9 h9 tk9 lo9 hi9 H9 F9 N9; (try dsimp only)))
local macro_rules | `(tactic| k_extra "tape") => `(tactic| ((with_reducible rename Obj.IsDictOf _ _ _ => DD); (with_reducible rename IntsAre _ _ => II); (with_reducible rename (_ == sysModules) = false => LL); with_reducible exact tape_made (n := 0) LL DD II))
local macro_rules | `(tactic| walk_at "execs cons") => `(tactic| (k_here; (with_reducible rename News _ _ _ (_ :: _ :: _ :: _) => NN); (with_reducible rename TapeO _ _ _ _ _ => HT); (have N2 := pick2 NN HT (by (repeat (first | with_reducible exact List.mem_cons_self | with_reducible refine List.mem_cons_of_mem _ ?_))) (by (repeat (first | with_reducible exact List.mem_cons_self | with_reducible refine List.mem_cons_of_mem _ ?_)))); clear NN))
local macro_rules | `(tactic| walk_at "execs cons") => `(tactic| (k_here; (with_reducible show wpAny _ _ (execs (Stmt.Assign [Expr.Tuple [Expr.Name (Str.ofString "hasher") _, _] _ _] _ _ :: _) _) _ _ _); refine stop_of ?_))
set_option maxHeartbeats 8000000 in
theorem W2 : PySem.Challenge.rw_pb0100_01.Holds := Mine.hd (by
  k_with_none
  k_fill
  k_go0
  all_goals try k_fold
  k_steps
  unfold Stop
  rename TapeO _ _ _ _ _ => HT
  rename News _ _ _ _ => N8
  rename Fr _ _ _ _ => F8
  rename Frag.In _ _ => X8
  rename Below callerA _ [] _ => B8
  refine' use_law X8 ?hk ?_
  case hk => k_is
  intro hb
  refine' law_T5' _ hb B8 F8 X8 ?T _ _ _ _ ?N HT ?hTC (List.map (fun n : Int => n.toNat.toUInt8) _) _ _ _ _ _ _ _ _ _ _ _ _ _ ?m0 ?m1 ?m2 ?m3 ?m4 ?m5 ?m6 ?m7 ?bn ?bs ?bc ?ba ?bm ?bt ?bw ?ret
  case m0 => ((try dsimp only); (repeat rw [if_neg (by decide +kernel)]); first | exact if_pos rfl | assumption)
  case m1 => ((try dsimp only); (repeat rw [if_neg (by decide +kernel)]); first | exact if_pos rfl | assumption)
  case m2 => ((try dsimp only); (repeat rw [if_neg (by decide +kernel)]); first | exact if_pos rfl | assumption)
  case m3 => ((try dsimp only); (repeat rw [if_neg (by decide +kernel)]); first | exact if_pos rfl | assumption)
  case m4 => ((try dsimp only); (repeat rw [if_neg (by decide +kernel)]); first | exact if_pos rfl | assumption)
  case m5 => ((try dsimp only); (repeat rw [if_neg (by decide +kernel)]); first | exact if_pos rfl | assumption)
  case m6 => ((try dsimp only); (repeat rw [if_neg (by decide +kernel)]); first | exact if_pos rfl | assumption)
  case m7 => ((try dsimp only); (repeat rw [if_neg (by decide +kernel)]); first | exact if_pos rfl | assumption)
  case T => k_asm
  case N =>
    intro p hp
    refine N8 p ?_
    revert p hp
    refine List.cons_subset.mpr ⟨?_, List.cons_subset.mpr ⟨?_, List.nil_subset _⟩⟩
    all_goals (repeat (first | with_reducible exact List.mem_cons_self | with_reducible refine List.mem_cons_of_mem _ ?_))
  case hTC => k_ne
  case bn => exact getD_in 0 7 (by decide) (by assumption) (by first | assumption | (simp only [List.length_cons, List.length_nil]; omega))
  case bs => exact getD_in 0 130 (by decide) (by assumption) (by first | assumption | (simp only [List.length_cons, List.length_nil]; omega))
  case bc => rw [List.length_map, List.length_map, rangeKs_length]
  case ba => exact getD_in 1 200 (by decide) (by assumption) (by first | assumption | (simp only [List.length_cons, List.length_nil]; omega))
  case bm => omega
  case bt => exact bt_of (getD_in 1 200 (by decide) (by assumption) (by first | assumption | (simp only [List.length_cons, List.length_nil]; omega))) (by assumption) (by assumption)
  case bw => exact ⟨by assumption, by assumption⟩
  case ret =>
    intro h' m' news' tk F9 N9
    k_steps)
end Mine

theorem PySem.Challenge.cw_pb0100_01_holds : PySem.Challenge.rw_pb0100_01.Holds :=
  Mine.W2
