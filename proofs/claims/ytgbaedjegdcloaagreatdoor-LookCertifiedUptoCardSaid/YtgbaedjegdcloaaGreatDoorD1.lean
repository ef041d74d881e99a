/- A part of the proof: see the last text. -/
import Derived.Test.YtgbaedjegdcloaaGreatDoorV3
import Derived.IntWalk
import Derived.KernelRfl
import Derived.Test.YtgbaedjegdcloaaGreatDoorProg
import Derived.Lib.ItoaLen
import Derived.Lib.Repeat
import Derived.Shelf.Small.Strs
import Derived.Shelf.Strconv.Itoa3
import Derived.Shelf.Strconv.ParseIntPublic10
import Derived.Shelf.Strings.Repeat
import Derived.Shelf.Strings.SlTrimAscii
import Derived.Shelf.Strings.Split
import Derived.Shelf.Strings.Builder1
import Derived.BigCall
import Derived.WalkKit
import Derived.WalkSpells
set_option linter.unusedVariables false
set_option linter.unusedSimpArgs false
set_option linter.unusedSectionVars false
set_option linter.defProp false
set_option maxRecDepth 100000
set_option maxHeartbeats 4000000
namespace Go.PM
instance instGlobals:AA:=⟨fun g=>match g with
 | 1=>some [.val (.int .u64 1),.val (.int .u64 10),.val (.int .u64 100),.val (.int .u64 1000),.val (.int .u64 10000),.val (.int .u64 100000),.val (.int .u64 1000000),.val (.int .u64 10000000),.val (.int .u64 100000000),.val (.int .u64 1000000000),.val (.int .u64 10000000000),.val (.int .u64 100000000000),.val (.int .u64 1000000000000),.val (.int .u64 10000000000000),.val (.int .u64 100000000000000),.val (.int .u64 1000000000000000),.val (.int .u64 10000000000000000),.val (.int .u64 100000000000000000),.val (.int .u64 1000000000000000000),.val (.int .u64 10000000000000000000)]
 | 2=>some [.iface 373 (.cptr [.val (.string ⟨#[105,110,118,97,108,105,100,32,115,121,110,116,97,120]⟩)])]
 | 3=>some [.iface 373 (.cptr [.val (.string ⟨#[118,97,108,117,101,32,111,117,116,32,111,102,32,114,97,110,103,101]⟩)])]
 | _=>none⟩
end Go.PM

namespace Go.PM
abbrev b8 (b:UInt8):AV:=.val (.int .u8 b.toNat)
def bs (l:List UInt8):List AV:=l.map b8
theorem Hj (l:List UInt8):(bs l).length = l.length:=by simp [bs]
theorem Zt (l:List UInt8) (n:Nat):(bs l).take n = bs (l.take n):=by simp [bs]
theorem aap (l:List UInt8) (n:Nat):(bs l).drop n = bs (l.drop n):=by simp [bs]
theorem TE {l:List UInt8} {i:Nat} (h:i < l.length):(bs l).getD i .dead = b8 (l.getD i 0):=by
 simp [bs,List.getD_eq_getElem?_getD,h]
theorem acY (l:List UInt8):Xn 1 (bs l):=by
 intro e he;obtain ⟨x,_,rfl⟩:=List.mem_map.1 he;rfl
def Ak (l:List UInt8):ByteArray:=⟨l.toArray⟩
theorem WV (l l':List UInt8):(Ak l == Ak l') = (l == l'):=by
 show (l.toArray == l'.toArray) = (l == l')
 rw [Bool.eq_iff_iff,beq_iff_eq,beq_iff_eq];exact ⟨fun e=>by simpa using e,fun e=>by rw [e]⟩
mutual
theorem Es {n m:Nat} (h:n <= m):∀ (x:AV),x.under n = true -> x.under m = true
 | .dead,_=>rfl
 | .val _,_=>rfl
 | .sl _ _,_=>rfl
 | .cptr _,_=>rfl
 | .hsl _ _ _ _,hu=>by simp only [AV.under,decide_eq_true_eq] at hu ⊢; omega
 | .ptr _ _,hu=>by simp only [AV.under,decide_eq_true_eq] at hu ⊢; omega
 | .eptr _ _ _ _,hu=>by simp only [AV.under,decide_eq_true_eq] at hu ⊢; omega
 | .yld _,hu=>by simp only [AV.under,decide_eq_true_eq] at hu ⊢; omega
 | .mp _,hu=>by simp only [AV.under,decide_eq_true_eq] at hu ⊢; omega
 | .fn _ caps,hu=>CE h caps hu
 | .iface _ x,hu=>Es h x hu
 | .agg cs,hu=>CE h cs hu
 | .tup cs,hu=>CE h cs hu
 | .bnd _ cs,hu=>CE h cs hu
 | .cmp _,_=>rfl
theorem CE {n m:Nat} (h:n <= m):∀ (l:List AV),AZ n l = true -> AZ m l = true
 | [],_=>rfl
 | x :: xs,hu=>by
  simp only [AZ,Bool.and_eq_true] at hu ⊢;exact ⟨Es h x hu.1,CE h xs hu.2⟩
end
theorem KU {n m:Nat} {b:Ah} (h:n <= m) (hu:b.under n = true):b.under m = true:=by
 cases b with
 | cells cs=>exact CE h cs hu
 | loop fn t ps asg bd st Bb =>
  simp only [Ah.under,Ji,List.all_eq_true] at hu ⊢;exact fun p hp=>Es h p.2 (hu p hp)
 | map kvs bs c =>
  simp only [Ah.under,List.all_eq_true] at hu ⊢;exact fun p hp=>Es h p.2 (hu p hp)
 | iter Jb since seen step =>
  simp only [Ah.under,decide_eq_true_eq] at hu ⊢;omega
 | _=>rfl
theorem XA (l:List Ah) (x y:Ah):(l ++ [x]).set l.length y = l ++ [y]:=by simp
theorem Vi (l:List Ah) (x:Ah):(l ++ [x])[l.length]? = some x:=by simp
theorem Gg {l:List Ah} {i:Nat} {b:Ah} (h:l[i]? = some b) (l':List Ah):(l ++ l')[i]? = some b:=by
 have:=(List.getElem?_eq_some_iff.1 h).1;rw [List.getElem?_append_left this]; exact h
theorem i64_in {n:Int} (h1 : -9223372036854775808 <= n) (h2:n <= 9223372036854775807):IntKind.i64.wrap n = n:=IntWalk.i64_in n ⟨h1,h2⟩
end Go.PM

namespace Go.Proofs.Tryz
open Go.PM
theorem Ir {P:Program} {t:TypeId} {T:Ty} {a:AV} (h:Ba P t = some T) (k:zeroOf T = a:=by simp [zeroOf,G3,JK,plain,AV.single]; try exact rfl):zeroOf T = a:=k
theorem Ip {P:Program} {t:TypeId} {T:Ty} {a:AV} (h:Ba P t = some T) (z:zeroOf T = a) (k:zeroOf T = a -> DJ T = true:=by intro z; simp [DJ,z,Ec,AV.cells,AV.single]):DJ T = true:=k z
theorem S8 {P:Program} {n e:TypeId} {T:Ty} (h:P.underlying n = some (.slice e)) (he:Ba P e = some T):Bk P n = some (e,T):=by simp [Bk,h,he]
theorem ty2:Ba prog 2 = some ⟨1,8,(.int .i64 0),(.int .i64)⟩:=by kernel_rfl
def zo2:=Ir ty2
def zk2:=Ip ty2 zo2
theorem ty3:Ba prog 3 = some ⟨1,8,(.int .i64 0),(.int .i64)⟩:=by kernel_rfl
theorem ty4:Ba prog 4 = some ⟨1,1,(.bool false),.bool⟩:=by kernel_rfl
def zo4:=Ir ty4
def zk4:=Ip ty4 zo4
theorem ty5:Ba prog 5 = some ⟨1,1,(.int .u8 0),(.int .u8)⟩:=by kernel_rfl
theorem ty9:Ba prog 9 = some ⟨1,16,(.string { data:=#[] }),.string⟩:=by kernel_rfl
theorem ahF:Ba prog 22 = some ⟨1,24,(.slice none 0 0),(.slice 47)⟩:=by kernel_rfl
theorem ai4:Ba prog 23 = some ⟨1,24,(.slice none 0 0),(.slice 70)⟩:=by kernel_rfl
theorem ajh:Ba prog 24 = some ⟨1,24,(.slice none 0 0),(.slice 74)⟩:=by kernel_rfl
theorem abd:Ba prog 26 = some ⟨5,88,(.agg #[(.slice none 0 0),(.slice none 0 0),(.slice none 0 0),(.int .i64 0),(.int .i64 0)]),(.struct #[⟨"Objs",22,0,false,"","",0⟩,⟨"Acts",23,1,false,"","",24⟩,⟨"Codes",24,2,false,"","",48⟩,⟨"NextObj",3,3,false,"","",72⟩,⟨"NextAct",3,4,false,"","",80⟩])⟩:=by kernel_rfl
def afF:=Ir abd
def aiG:=Ip abd afF
theorem acR:AG prog 26 0 = some (0,⟨1,24,(.slice none 0 0),(.slice 47)⟩):=by kernel_rfl
theorem aeD:AG prog 26 1 = some (1,⟨1,24,(.slice none 0 0),(.slice 70)⟩):=by kernel_rfl
theorem acE:AG prog 26 2 = some (2,⟨1,24,(.slice none 0 0),(.slice 74)⟩):=by kernel_rfl
theorem adT:AG prog 26 3 = some (3,⟨1,8,(.int .i64 0),(.int .i64)⟩):=by kernel_rfl
theorem acL:AG prog 26 4 = some (4,⟨1,8,(.int .i64 0),(.int .i64)⟩):=by kernel_rfl
def aja (ps:List (Nat × AV)) (K:AV -> Prop):=AL underlying26 abd ps K
theorem ajw:AM prog 26 = true:=by kernel_rfl
theorem Za:Ba prog 28 = some ⟨3,32,(.agg #[(.int .i64 0),(.int .i64 0),(.string { data:=#[] })]),(.struct #[⟨"K",3,0,false,"","",0⟩,⟨"N",3,1,false,"","",8⟩,⟨"T",9,2,false,"","",16⟩])⟩:=by kernel_rfl
def agD:=Ir Za
def ahD:=Ip Za agD
theorem acI:AG prog 28 0 = some (0,⟨1,8,(.int .i64 0),(.int .i64)⟩):=by kernel_rfl
theorem aen:AG prog 28 1 = some (1,⟨1,8,(.int .i64 0),(.int .i64)⟩):=by kernel_rfl
theorem ad9:AG prog 28 2 = some (2,⟨1,16,(.string { data:=#[] }),.string⟩):=by kernel_rfl
def ajQ (ps:List (Nat × AV)) (K:AV -> Prop):=AL underlying28 Za ps K
theorem ajs:AM prog 28 = true:=by kernel_rfl
theorem ah4:Ba prog 29 = some ⟨1,24,(.slice none 0 0),(.slice 3)⟩:=by kernel_rfl
theorem aat:Ba prog 31 = some ⟨8,96,(.agg #[(.int .i64 0),(.int .i64 0),(.int .i64 0),(.slice none 0 0),(.bool false),(.int .i64 0),(.int .i64 0),(.slice none 0 0)]),(.struct #[⟨"Kind",3,0,false,"","",0⟩,⟨"Holder",3,1,false,"","",8⟩,⟨"Slot",3,2,false,"","",16⟩,⟨"Path",29,3,false,"","",24⟩,⟨"Set",4,4,false,"","",48⟩,⟨"Holder2",3,5,false,"","",56⟩,⟨"Slot2",3,6,false,"","",64⟩,⟨"Path2",29,7,false,"","",72⟩])⟩:=by kernel_rfl
def ae2:=Ir aat
def aji:=Ip aat ae2
theorem aer:AG prog 31 0 = some (0,⟨1,8,(.int .i64 0),(.int .i64)⟩):=by kernel_rfl
theorem adU:AG prog 31 1 = some (1,⟨1,8,(.int .i64 0),(.int .i64)⟩):=by kernel_rfl
theorem adJ:AG prog 31 2 = some (2,⟨1,8,(.int .i64 0),(.int .i64)⟩):=by kernel_rfl
theorem adw:AG prog 31 3 = some (3,⟨1,24,(.slice none 0 0),(.slice 3)⟩):=by kernel_rfl
theorem ad0:AG prog 31 4 = some (4,⟨1,1,(.bool false),.bool⟩):=by kernel_rfl
theorem acp:AG prog 31 5 = some (5,⟨1,8,(.int .i64 0),(.int .i64)⟩):=by kernel_rfl
theorem ads:AG prog 31 6 = some (6,⟨1,8,(.int .i64 0),(.int .i64)⟩):=by kernel_rfl
theorem acw:AG prog 31 7 = some (7,⟨1,24,(.slice none 0 0),(.slice 3)⟩):=by kernel_rfl
def ahM (ps:List (Nat × AV)) (K:AV -> Prop):=AL underlying31 aat ps K
theorem aiC:AM prog 31 = true:=by kernel_rfl
theorem aij:Ba prog 34 = some ⟨1,8,(.int .i64 0),(.int .i64)⟩:=by kernel_rfl
theorem aho:Ba prog 44 = some ⟨1,24,(.slice none 0 0),(.slice 49)⟩:=by kernel_rfl
theorem ai5:Ba prog 45 = some ⟨1,24,(.slice none 0 0),(.slice 28)⟩:=by kernel_rfl
theorem Wx:Ba prog 47 = some ⟨6,80,(.agg #[(.int .i64 0),(.int .i64 0),(.slice none 0 0),(.slice none 0 0),(.int .i64 0),(.int .i64 0)]),(.struct #[⟨"Oid",3,0,false,"","",0⟩,⟨"Kind",3,1,false,"","",8⟩,⟨"Slots",44,2,false,"","",16⟩,⟨"Elems",45,3,false,"","",40⟩,⟨"Code",3,4,false,"","",64⟩,⟨"Up",3,5,false,"","",72⟩])⟩:=by kernel_rfl
def ag6:=Ir Wx
def ahv:=Ip Wx ag6
theorem aeE:AG prog 47 0 = some (0,⟨1,8,(.int .i64 0),(.int .i64)⟩):=by kernel_rfl
theorem acH:AG prog 47 1 = some (1,⟨1,8,(.int .i64 0),(.int .i64)⟩):=by kernel_rfl
theorem adX:AG prog 47 2 = some (2,⟨1,24,(.slice none 0 0),(.slice 49)⟩):=by kernel_rfl
theorem adK:AG prog 47 3 = some (3,⟨1,24,(.slice none 0 0),(.slice 28)⟩):=by kernel_rfl
theorem adh:AG prog 47 4 = some (4,⟨1,8,(.int .i64 0),(.int .i64)⟩):=by kernel_rfl
theorem aek:AG prog 47 5 = some (5,⟨1,8,(.int .i64 0),(.int .i64)⟩):=by kernel_rfl
def ail (ps:List (Nat × AV)) (K:AV -> Prop):=AL underlying47 Wx ps K
theorem ajB:AM prog 47 = true:=by kernel_rfl
theorem XE:Ba prog 49 = some ⟨5,56,(.agg #[(.string { data:=#[] }),(.int .i64 0),(.int .i64 0),(.int .i64 0),(.string { data:=#[] })]),(.struct #[⟨"Name",9,0,false,"","",0⟩,⟨"Kind",3,1,false,"","",16⟩,⟨"V",28,2,false,"","",24⟩])⟩:=by kernel_rfl
def agV:=Ir XE
def ajq:=Ip XE agV
theorem acF:AG prog 49 0 = some (0,⟨1,16,(.string { data:=#[] }),.string⟩):=by kernel_rfl
theorem adB:AG prog 49 1 = some (1,⟨1,8,(.int .i64 0),(.int .i64)⟩):=by kernel_rfl
theorem aex:AG prog 49 2 = some (2,⟨3,32,(.agg #[(.int .i64 0),(.int .i64 0),(.string { data:=#[] })]),(.struct #[⟨"K",3,0,false,"","",0⟩,⟨"N",3,1,false,"","",8⟩,⟨"T",9,2,false,"","",16⟩])⟩):=by kernel_rfl
def ai0 (ps:List (Nat × AV)) (K:AV -> Prop):=AL underlying49 XE ps K
theorem ahn:AM prog 49 = true:=by kernel_rfl
theorem aaD:Ba prog 70 = some ⟨9,96,(.agg #[(.int .i64 0),(.int .i64 0),(.int .i64 0),(.int .i64 0),(.string { data:=#[] }),(.int .i64 0),(.int .i64 0),(.slice none 0 0),(.bool false)]),(.struct #[⟨"Aid",3,0,false,"","",0⟩,⟨"Code",3,1,false,"","",8⟩,⟨"Self",28,2,false,"","",16⟩,⟨"Holder",3,5,false,"","",48⟩,⟨"Up",3,6,false,"","",56⟩,⟨"Vars",45,7,false,"","",64⟩,⟨"Done",4,8,false,"","",88⟩])⟩:=by kernel_rfl
def afC:=Ir aaD
def ahV:=Ip aaD afC
theorem adZ:AG prog 70 0 = some (0,⟨1,8,(.int .i64 0),(.int .i64)⟩):=by kernel_rfl
theorem acN:AG prog 70 1 = some (1,⟨1,8,(.int .i64 0),(.int .i64)⟩):=by kernel_rfl
theorem ael:AG prog 70 2 = some (2,⟨3,32,(.agg #[(.int .i64 0),(.int .i64 0),(.string { data:=#[] })]),(.struct #[⟨"K",3,0,false,"","",0⟩,⟨"N",3,1,false,"","",8⟩,⟨"T",9,2,false,"","",16⟩])⟩):=by kernel_rfl
theorem ad1:AG prog 70 3 = some (5,⟨1,8,(.int .i64 0),(.int .i64)⟩):=by kernel_rfl
theorem ad7:AG prog 70 4 = some (6,⟨1,8,(.int .i64 0),(.int .i64)⟩):=by kernel_rfl
theorem aej:AG prog 70 5 = some (7,⟨1,24,(.slice none 0 0),(.slice 28)⟩):=by kernel_rfl
theorem ahz:Ba prog 71 = some ⟨1,24,(.slice none 0 0),(.slice 9)⟩:=by kernel_rfl
theorem ajm:Ba prog 72 = some ⟨1,24,(.slice none 0 0),(.slice 179)⟩:=by kernel_rfl
theorem ZH:Ba prog 74 = some ⟨9,160,(.agg #[(.string { data:=#[] }),(.bool false),(.int .i64 0),(.int .i64 0),(.slice none 0 0),(.slice none 0 0),(.slice none 0 0),(.slice none 0 0),(.slice none 0 0)]),(.struct #[⟨"Name",9,0,false,"","",0⟩,⟨"Block",4,1,false,"","",16⟩,⟨"Outer",3,2,false,"","",24⟩,⟨"Args",3,3,false,"","",32⟩,⟨"Names",71,4,false,"","",40⟩,⟨"Init",45,5,false,"","",64⟩,⟨"Lits",45,6,false,"","",88⟩,⟨"Sels",71,7,false,"","",112⟩,⟨"Instrs",72,8,false,"","",136⟩])⟩:=by kernel_rfl
def ag4:=Ir ZH
def aiK:=Ip ZH ag4
theorem ac6:AG prog 74 0 = some (0,⟨1,16,(.string { data:=#[] }),.string⟩):=by kernel_rfl
theorem ac3:AG prog 74 1 = some (1,⟨1,1,(.bool false),.bool⟩):=by kernel_rfl
theorem aeu:AG prog 74 2 = some (2,⟨1,8,(.int .i64 0),(.int .i64)⟩):=by kernel_rfl
theorem aez:AG prog 74 3 = some (3,⟨1,8,(.int .i64 0),(.int .i64)⟩):=by kernel_rfl
theorem acS:AG prog 74 4 = some (4,⟨1,24,(.slice none 0 0),(.slice 9)⟩):=by kernel_rfl
theorem acC:AG prog 74 5 = some (5,⟨1,24,(.slice none 0 0),(.slice 28)⟩):=by kernel_rfl
theorem aeo:AG prog 74 6 = some (6,⟨1,24,(.slice none 0 0),(.slice 28)⟩):=by kernel_rfl
theorem aei:AG prog 74 7 = some (7,⟨1,24,(.slice none 0 0),(.slice 9)⟩):=by kernel_rfl
theorem adf:AG prog 74 8 = some (8,⟨1,24,(.slice none 0 0),(.slice 179)⟩):=by kernel_rfl
theorem ajG:Ba prog 76 = some ⟨1,8,(.pointer none),(.pointer 86)⟩:=by kernel_rfl
theorem ajl:Ba prog 81 = some ⟨1,8,(.pointer none),(.pointer 128)⟩:=by kernel_rfl
theorem ahP:Ba prog 83 = some ⟨1,8,(.map none),(.map 3 87)⟩:=by kernel_rfl
theorem ahs:IU prog 83 = some (3,87,⟨0,0,(.agg #[]),(.struct #[])⟩):=by kernel_rfl
theorem aiN:Ba prog 84 = some ⟨1,24,(.slice none 0 0),(.slice 141)⟩:=by kernel_rfl
theorem aba:Ba prog 86 = some ⟨5,80,(.agg #[(.pointer none),(.string { data:=#[] }),(.map none),(.slice none 0 0),(.slice none 0 0)]),(.struct #[⟨"graph",81,0,true,"","proteus/look",0⟩,⟨"sel",9,1,false,"","proteus/look",8⟩,⟨"seen",83,2,false,"","proteus/look",24⟩,⟨"met",29,3,false,"","proteus/look",32⟩,⟨"hits",84,4,false,"","proteus/look",56⟩])⟩:=by kernel_rfl
def agy:=Ir aba
def ajg:=Ip aba agy
theorem adl:AG prog 86 0 = some (0,⟨1,8,(.pointer none),(.pointer 128)⟩):=by kernel_rfl
theorem aet:AG prog 86 1 = some (1,⟨1,16,(.string { data:=#[] }),.string⟩):=by kernel_rfl
theorem ad3:AG prog 86 2 = some (2,⟨1,8,(.map none),(.map 3 87)⟩):=by kernel_rfl
theorem acV:AG prog 86 3 = some (3,⟨1,24,(.slice none 0 0),(.slice 3)⟩):=by kernel_rfl
theorem adN:AG prog 86 4 = some (4,⟨1,24,(.slice none 0 0),(.slice 141)⟩):=by kernel_rfl
def ahk (ps:List (Nat × AV)) (K:AV -> Prop):=AL underlying86 aba ps K
theorem ah7:AM prog 86 = true:=by kernel_rfl
theorem aaj:Ba prog 87 = some ⟨0,0,(.agg #[]),(.struct #[])⟩:=by kernel_rfl
def agq:=Ir aaj
def ahx:=Ip aaj agq
def aiA (ps:List (Nat × AV)) (K:AV -> Prop):=AL underlying87 aaj ps K
theorem ajr:AM prog 87 = true:=by kernel_rfl
theorem af9:Ba prog 88 = some ⟨0,0,(.agg #[]),(.struct #[])⟩:=by kernel_rfl
def aiU (ps:List (Nat × AV)) (K:AV -> Prop):=AL underlying88 af9 ps K
theorem ajx:AM prog 88 = true:=by kernel_rfl
theorem ZA:Ba prog 90 = some ⟨12,128,(.agg #[(.pointer none),(.map none),(.int .i64 0),(.int .i64 0),(.int .i64 0),(.int .i64 0),(.int .i64 0),(.slice none 0 0),(.bool false),(.int .i64 0),(.int .i64 0),(.slice none 0 0)]),(.struct #[⟨"visitor",76,0,true,"","proteus/look",0⟩,⟨"in",83,1,false,"","proteus/look",8⟩,⟨"matches",3,2,false,"","proteus/look",16⟩,⟨"first",3,3,false,"","proteus/look",24⟩,⟨"f",31,4,false,"","proteus/look",32⟩])⟩:=by kernel_rfl
def aeW:=Ir ZA
def aih:=Ip ZA aeW
theorem acU:AG prog 90 0 = some (0,⟨1,8,(.pointer none),(.pointer 86)⟩):=by kernel_rfl
theorem adb:AG prog 90 1 = some (1,⟨1,8,(.map none),(.map 3 87)⟩):=by kernel_rfl
theorem aeq:AG prog 90 2 = some (2,⟨1,8,(.int .i64 0),(.int .i64)⟩):=by kernel_rfl
theorem acX:AG prog 90 3 = some (3,⟨1,8,(.int .i64 0),(.int .i64)⟩):=by kernel_rfl
theorem ada:AG prog 90 4 = some (4,⟨8,96,(.agg #[(.int .i64 0),(.int .i64 0),(.int .i64 0),(.slice none 0 0),(.bool false),(.int .i64 0),(.int .i64 0),(.slice none 0 0)]),(.struct #[⟨"Kind",3,0,false,"","",0⟩,⟨"Holder",3,1,false,"","",8⟩,⟨"Slot",3,2,false,"","",16⟩,⟨"Path",29,3,false,"","",24⟩,⟨"Set",4,4,false,"","",48⟩,⟨"Holder2",3,5,false,"","",56⟩,⟨"Slot2",3,6,false,"","",64⟩,⟨"Path2",29,7,false,"","",72⟩])⟩):=by kernel_rfl
def ahe (ps:List (Nat × AV)) (K:AV -> Prop):=AL underlying90 ZA ps K
theorem air:AM prog 90 = true:=by kernel_rfl
theorem aia:Ba prog 95 = some ⟨1,8,(.pointer none),(.pointer 147)⟩:=by kernel_rfl
theorem agX:Ba prog 126 = some ⟨1,8,(.map none),(.map 3 3)⟩:=by kernel_rfl
theorem afM:IU prog 126 = some (3,3,⟨1,8,(.int .i64 0),(.int .i64)⟩):=by kernel_rfl
theorem Tj:Ba prog 128 = some ⟨6,96,(.agg #[(.slice none 0 0),(.slice none 0 0),(.slice none 0 0),(.int .i64 0),(.int .i64 0),(.map none)]),(.struct #[⟨"World",26,0,true,"","",0⟩,⟨"places",126,5,false,"","proteus/look",88⟩])⟩:=by kernel_rfl
def abL:=Ir Tj
def aff:=Ip Tj abL
theorem aaw:AG prog 128 0 = some (0,⟨5,88,(.agg #[(.slice none 0 0),(.slice none 0 0),(.slice none 0 0),(.int .i64 0),(.int .i64 0)]),(.struct #[⟨"Objs",22,0,false,"","",0⟩,⟨"Acts",23,1,false,"","",24⟩,⟨"Codes",24,2,false,"","",48⟩,⟨"NextObj",3,3,false,"","",72⟩,⟨"NextAct",3,4,false,"","",80⟩])⟩):=by kernel_rfl
theorem aad:AG prog 128 1 = some (5,⟨1,8,(.map none),(.map 3 3)⟩):=by kernel_rfl
def ae6 (ps:List (Nat × AV)) (K:AV -> Prop):=AL underlying128 Tj ps K
theorem af1:AM prog 128 = true:=by kernel_rfl
theorem O6:Ba prog 141 = some ⟨4,48,(.agg #[(.int .i64 0),(.int .i64 0),(.bool false),(.slice none 0 0)]),(.struct #[⟨"oid",3,0,false,"","proteus/look",0⟩,⟨"slot",3,1,false,"","proteus/look",8⟩,⟨"set",4,2,false,"","proteus/look",16⟩,⟨"path",29,3,false,"","proteus/look",24⟩])⟩:=by kernel_rfl
def aco:=Ir O6
def afB:=Ip O6 aco
theorem abC:AG prog 141 0 = some (0,⟨1,8,(.int .i64 0),(.int .i64)⟩):=by kernel_rfl
theorem abp:AG prog 141 1 = some (1,⟨1,8,(.int .i64 0),(.int .i64)⟩):=by kernel_rfl
theorem aak:AG prog 141 2 = some (2,⟨1,1,(.bool false),.bool⟩):=by kernel_rfl
theorem abx:AG prog 141 3 = some (3,⟨1,24,(.slice none 0 0),(.slice 3)⟩):=by kernel_rfl
def aft (ps:List (Nat × AV)) (K:AV -> Prop):=AL underlying141 O6 ps K
theorem aeT:AM prog 141 = true:=by kernel_rfl
theorem Ts:Ba prog 147 = some ⟨6,96,(.agg #[(.slice none 0 0),(.slice none 0 0),(.slice none 0 0),(.int .i64 0),(.int .i64 0),(.map none)]),(.struct #[⟨"World",26,0,true,"","",0⟩,⟨"at",126,5,false,"","proteus/world",88⟩])⟩:=by kernel_rfl
def acb:=Ir Ts
def agL:=Ip Ts acb
theorem aaH:AG prog 147 0 = some (0,⟨5,88,(.agg #[(.slice none 0 0),(.slice none 0 0),(.slice none 0 0),(.int .i64 0),(.int .i64 0)]),(.struct #[⟨"Objs",22,0,false,"","",0⟩,⟨"Acts",23,1,false,"","",24⟩,⟨"Codes",24,2,false,"","",48⟩,⟨"NextObj",3,3,false,"","",72⟩,⟨"NextAct",3,4,false,"","",80⟩])⟩):=by kernel_rfl
theorem aao:AG prog 147 1 = some (5,⟨1,8,(.map none),(.map 3 3)⟩):=by kernel_rfl
def afm (ps:List (Nat × AV)) (K:AV -> Prop):=AL underlying147 Ts ps K
theorem afx:AM prog 147 = true:=by kernel_rfl
theorem TC:Ba prog 177 = some ⟨11,192,(.agg #[(.string { data:=#[] }),(.bool false),(.int .i64 0),(.int .i64 0),(.slice none 0 0),(.slice none 0 0),(.slice none 0 0),(.slice none 0 0),(.slice none 0 0),(.slice none 0 0),(.int .i64 0)]),(.struct #[⟨"Code",74,0,true,"","",0⟩,⟨"all",24,9,false,"","proteus/code",160⟩,⟨"at",3,10,false,"","proteus/code",184⟩])⟩:=by kernel_rfl
def ab2:=Ir TC
def agT:=Ip TC ab2
theorem aas:AG prog 177 0 = some (0,⟨9,160,(.agg #[(.string { data:=#[] }),(.bool false),(.int .i64 0),(.int .i64 0),(.slice none 0 0),(.slice none 0 0),(.slice none 0 0),(.slice none 0 0),(.slice none 0 0)]),(.struct #[⟨"Name",9,0,false,"","",0⟩,⟨"Block",4,1,false,"","",16⟩,⟨"Outer",3,2,false,"","",24⟩,⟨"Args",3,3,false,"","",32⟩,⟨"Names",71,4,false,"","",40⟩,⟨"Init",45,5,false,"","",64⟩,⟨"Lits",45,6,false,"","",88⟩,⟨"Sels",71,7,false,"","",112⟩,⟨"Instrs",72,8,false,"","",136⟩])⟩):=by kernel_rfl
theorem ZZ:AG prog 177 1 = some (9,⟨1,24,(.slice none 0 0),(.slice 74)⟩):=by kernel_rfl
theorem abv:AG prog 177 2 = some (10,⟨1,8,(.int .i64 0),(.int .i64)⟩):=by kernel_rfl
def af0 (ps:List (Nat × AV)) (K:AV -> Prop):=AL underlying177 TC ps K
theorem afq:AM prog 177 = true:=by kernel_rfl
theorem Tc:Ba prog 179 = some ⟨4,32,(.agg #[(.int .i64 0),(.int .i64 0),(.int .i64 0),(.int .i64 0)]),(.struct #[⟨"Op",3,0,false,"","",0⟩,⟨"A",3,1,false,"","",8⟩,⟨"B",3,2,false,"","",16⟩,⟨"C",3,3,false,"","",24⟩])⟩:=by kernel_rfl
def aci:=Ir Tc
def agO:=Ip Tc aci
theorem aa0:AG prog 179 0 = some (0,⟨1,8,(.int .i64 0),(.int .i64)⟩):=by kernel_rfl
theorem aaF:AG prog 179 1 = some (1,⟨1,8,(.int .i64 0),(.int .i64)⟩):=by kernel_rfl
theorem abb:AG prog 179 2 = some (2,⟨1,8,(.int .i64 0),(.int .i64)⟩):=by kernel_rfl
theorem abt:AG prog 179 3 = some (3,⟨1,8,(.int .i64 0),(.int .i64)⟩):=by kernel_rfl
theorem TH:Ba prog 186 = some ⟨1,8,(.agg #[.nilFunc]),(.struct #[⟨"right",184,0,false,"","proteus/world",0⟩])⟩:=by kernel_rfl
def abV:=Ir TH
def agr:=Ip TH abV
theorem aaY:AG prog 186 0 = some (0,⟨1,8,.nilFunc,(.func #[95,47] #[4] false)⟩):=by kernel_rfl
def afo (ps:List (Nat × AV)) (K:AV -> Prop):=AL underlying186 TH ps K
theorem agH:AM prog 186 = true:=by kernel_rfl
theorem Xm:Ba prog 187 = some ⟨6,48,(.agg #[.nilFunc,.nilFunc,.nilFunc,.nilFunc,.nilFunc,.nilFunc]),(.array 6 186)⟩:=by kernel_rfl
def abR:=Ir Xm
def aeM:=Ip Xm abR
theorem afX:Ba prog 193 = some ⟨1,8,.nilFunc,(.func #[5] #[4] false)⟩:=by kernel_rfl
theorem SZ:Ba prog 200 = some ⟨4,40,(.agg #[(.int .i64 0),(.string { data:=#[] }),(.int .i64 0),(.int .i64 0)]),(.struct #[⟨"Kind",3,0,false,"","",0⟩,⟨"Text",9,1,false,"","",8⟩,⟨"Line",3,2,false,"","",24⟩,⟨"Col",3,3,false,"","",32⟩])⟩:=by kernel_rfl
def abQ:=Ir SZ
def aga:=Ip SZ abQ
theorem abr:AG prog 200 0 = some (0,⟨1,8,(.int .i64 0),(.int .i64)⟩):=by kernel_rfl
theorem aaA:AG prog 200 1 = some (1,⟨1,16,(.string { data:=#[] }),.string⟩):=by kernel_rfl
theorem abG:AG prog 200 2 = some (2,⟨1,8,(.int .i64 0),(.int .i64)⟩):=by kernel_rfl
theorem abi:AG prog 200 3 = some (3,⟨1,8,(.int .i64 0),(.int .i64)⟩):=by kernel_rfl
def afi (ps:List (Nat × AV)) (K:AV -> Prop):=AL underlying200 SZ ps K
theorem agb:AM prog 200 = true:=by kernel_rfl
theorem afZ:Ba prog 209 = some ⟨1,8,.nilFunc,(.func #[179] #[3] false)⟩:=by kernel_rfl
theorem afW:Ba prog 210 = some ⟨1,8,.nilFunc,(.func #[175,179] #[4] false)⟩:=by kernel_rfl
theorem QV:Ba prog 212 = some ⟨3,24,(.agg #[.nilFunc,(.int .i64 0),.nilFunc]),(.struct #[⟨"takes",209,0,false,"","proteus/code",0⟩,⟨"puts",3,1,false,"","proteus/code",8⟩,⟨"right",210,2,false,"","proteus/code",16⟩])⟩:=by kernel_rfl
def acn:=Ir QV
def agk:=Ip QV acn
theorem abF:AG prog 212 0 = some (0,⟨1,8,.nilFunc,(.func #[179] #[3] false)⟩):=by kernel_rfl
theorem aaW:AG prog 212 1 = some (1,⟨1,8,(.int .i64 0),(.int .i64)⟩):=by kernel_rfl
theorem aa8:AG prog 212 2 = some (2,⟨1,8,.nilFunc,(.func #[175,179] #[4] false)⟩):=by kernel_rfl
def agM (ps:List (Nat × AV)) (K:AV -> Prop):=AL underlying212 QV ps K
theorem ag1:AM prog 212 = true:=by kernel_rfl
theorem Zh:Ba prog 213 = some ⟨33,264,(.agg #[.nilFunc,(.int .i64 0),.nilFunc,.nilFunc,(.int .i64 0),.nilFunc,.nilFunc,(.int .i64 0),.nilFunc,.nilFunc,(.int .i64 0),.nilFunc,.nilFunc,(.int .i64 0),.nilFunc,.nilFunc,(.int .i64 0),.nilFunc,.nilFunc,(.int .i64 0),.nilFunc,.nilFunc,(.int .i64 0),.nilFunc,.nilFunc,(.int .i64 0),.nilFunc,.nilFunc,(.int .i64 0),.nilFunc,.nilFunc,(.int .i64 0),.nilFunc]),(.array 11 212)⟩:=by kernel_rfl
def ach:=Ir Zh
def afP:=Ip Zh ach
theorem afU:Ba prog 223 = some ⟨1,24,(.slice none 0 0),(.slice 3)⟩:=by kernel_rfl
theorem SY:Ba prog 225 = some ⟨2,32,(.agg #[(.slice none 0 0),(.bool false)]),(.struct #[⟨"digits",223,0,true,"","proteus/big",0⟩,⟨"neg",4,1,false,"","proteus/big",24⟩])⟩:=by kernel_rfl
def abY:=Ir SY
def agj:=Ip SY abY
theorem abI:AG prog 225 0 = some (0,⟨1,24,(.slice none 0 0),(.slice 3)⟩):=by kernel_rfl
theorem aaT:AG prog 225 1 = some (1,⟨1,1,(.bool false),.bool⟩):=by kernel_rfl
def afN (ps:List (Nat × AV)) (K:AV -> Prop):=AL underlying225 SY ps K
theorem afL:AM prog 225 = true:=by kernel_rfl
theorem afv:IU prog 234 = some (9,4,⟨1,1,(.bool false),.bool⟩):=by kernel_rfl
theorem afd:IU prog 239 = some (28,4,⟨1,1,(.bool false),.bool⟩):=by kernel_rfl
theorem Y2:Ba prog 250 = some ⟨1,24,(.slice none 0 0),(.slice 254)⟩:=by kernel_rfl
def ab4:=Ir Y2
def af5:=Ip Y2 ab4
theorem Qb:Ba prog 254 = some ⟨6,56,(.agg #[(.int .i64 0),(.string { data:=#[] }),(.int .i64 0),(.int .i64 0),(.int .i64 0),(.int .i64 0)]),(.struct #[⟨"Token",200,0,true,"","",0⟩,⟨"from",3,4,false,"","proteus/lex",40⟩,⟨"to",3,5,false,"","proteus/lex",48⟩])⟩:=by kernel_rfl
def ab7:=Ir Qb
def afS:=Ip Qb ab7
theorem ZR:AG prog 254 0 = some (0,⟨4,40,(.agg #[(.int .i64 0),(.string { data:=#[] }),(.int .i64 0),(.int .i64 0)]),(.struct #[⟨"Kind",3,0,false,"","",0⟩,⟨"Text",9,1,false,"","",8⟩,⟨"Line",3,2,false,"","",24⟩,⟨"Col",3,3,false,"","",32⟩])⟩):=by kernel_rfl
theorem ZE:AG prog 254 1 = some (4,⟨1,8,(.int .i64 0),(.int .i64)⟩):=by kernel_rfl
theorem abk:AG prog 254 2 = some (5,⟨1,8,(.int .i64 0),(.int .i64)⟩):=by kernel_rfl
def af6 (ps:List (Nat × AV)) (K:AV -> Prop):=AL underlying254 Qb ps K
theorem afV:AM prog 254 = true:=by kernel_rfl
theorem Tv:Ba prog 285 = some ⟨2,16,(.agg #[(.int .i64 0),(.int .i64 0)]),(.struct #[⟨"e",34,0,false,"","proteus/lex",0⟩,⟨"at",3,1,false,"","proteus/lex",8⟩])⟩:=by kernel_rfl
def ab9:=Ir Tv
def afy:=Ip Tv ab9
theorem aaR:AG prog 285 0 = some (0,⟨1,8,(.int .i64 0),(.int .i64)⟩):=by kernel_rfl
theorem abc:AG prog 285 1 = some (1,⟨1,8,(.int .i64 0),(.int .i64)⟩):=by kernel_rfl
def aeN (ps:List (Nat × AV)) (K:AV -> Prop):=AL underlying285 Tv ps K
theorem agP:AM prog 285 = true:=by kernel_rfl
theorem YV:Ba prog 315 = some ⟨1,8,(.pointer none),(.pointer 319)⟩:=by kernel_rfl
def abW:=Ir YV
def agc:=Ip YV abW
theorem Tt:Ba prog 317 = some ⟨3,24,(.agg #[(.int .i64 0),(.int .i64 0),(.int .i64 0)]),(.struct #[⟨"at",3,0,false,"","proteus/lex",0⟩,⟨"line",3,1,false,"","proteus/lex",8⟩,⟨"col",3,2,false,"","proteus/lex",16⟩])⟩:=by kernel_rfl
def ab3:=Ir Tt
def af8:=Ip Tt ab3
theorem abl:AG prog 317 0 = some (0,⟨1,8,(.int .i64 0),(.int .i64)⟩):=by kernel_rfl
theorem aa9:AG prog 317 1 = some (1,⟨1,8,(.int .i64 0),(.int .i64)⟩):=by kernel_rfl
theorem aa6:AG prog 317 2 = some (2,⟨1,8,(.int .i64 0),(.int .i64)⟩):=by kernel_rfl
def ae5 (ps:List (Nat × AV)) (K:AV -> Prop):=AL underlying317 Tt ps K
theorem aeP:AM prog 317 = true:=by kernel_rfl
theorem SN:Ba prog 319 = some ⟨5,48,(.agg #[(.int .i64 0),(.int .i64 0),(.int .i64 0),(.string { data:=#[] }),(.int .i64 0)]),(.struct #[⟨"place",317,0,true,"","proteus/lex",0⟩,⟨"text",9,3,false,"","proteus/lex",24⟩,⟨"name",3,4,false,"","proteus/lex",40⟩])⟩:=by kernel_rfl
def abN:=Ir SN
def agZ:=Ip SN abN
theorem aa1:AG prog 319 0 = some (0,⟨3,24,(.agg #[(.int .i64 0),(.int .i64 0),(.int .i64 0)]),(.struct #[⟨"at",3,0,false,"","proteus/lex",0⟩,⟨"line",3,1,false,"","proteus/lex",8⟩,⟨"col",3,2,false,"","proteus/lex",16⟩])⟩):=by kernel_rfl
theorem ZM:AG prog 319 1 = some (3,⟨1,16,(.string { data:=#[] }),.string⟩):=by kernel_rfl
theorem ZQ:AG prog 319 2 = some (4,⟨1,8,(.int .i64 0),(.int .i64)⟩):=by kernel_rfl
def aeO (ps:List (Nat × AV)) (K:AV -> Prop):=AL underlying319 SN ps K
theorem af7:AM prog 319 = true:=by kernel_rfl
theorem afA:Ba prog 323 = some ⟨1,8,.nilFunc,(.func #[315] #[3,9] false)⟩:=by kernel_rfl
theorem PN:Ba prog 325 = some ⟨2,16,(.agg #[.nilFunc,.nilFunc]),(.struct #[⟨"begins",193,0,false,"","proteus/lex",0⟩,⟨"read",323,1,false,"","proteus/lex",8⟩])⟩:=by kernel_rfl
def abT:=Ir PN
def afs:=Ip PN abT
theorem aaK:AG prog 325 0 = some (0,⟨1,8,.nilFunc,(.func #[5] #[4] false)⟩):=by kernel_rfl
theorem ZO:AG prog 325 1 = some (1,⟨1,8,.nilFunc,(.func #[315] #[3,9] false)⟩):=by kernel_rfl
def afe (ps:List (Nat × AV)) (K:AV -> Prop):=AL underlying325 PN ps K
theorem agK:AM prog 325 = true:=by kernel_rfl
def ajL:=S8 underlying22 Wx
def aiT:=S8 underlying23 aaD
def ajn:=S8 underlying24 ZH
def aic:=S8 underlying29 ty3
def ah8:=S8 underlying44 XE
def ajf:=S8 underlying45 Za
def ahh:=S8 underlying71 ty9
def ahH:=S8 underlying72 Tc
def aiO:=S8 underlying84 O6
def agx:=S8 underlying192 ty5
def afJ:=S8 underlying216 QV
def agv:=S8 underlying223 ty3
def ags:=S8 underlying250 Qb
def agF:=S8 underlying320 PN
theorem mixed:prog.follows .mixedOrders = true:=by kernel_rfl
attribute [go_sem] ty2 zo2 zk2 ty3 ty4 zo4 zk4 ty5 ty9 ahF ajL ai4 aiT ajh ajn abd afF aiG acR aeD acE adT acL ajw Za agD ahD acI aen ad9 ajs ah4 aic aat ae2 aji aer adU adJ adw ad0 acp ads acw aiC aij aho ah8 ai5 ajf Wx ag6 ahv aeE acH adX adK adh aek ajB XE agV ajq acF adB aex ahn aaD afC ahV adZ acN ael ad1 ad7 aej ahz ahh ajm ahH ZH ag4 aiK ac6 ac3 aeu aez acS acC aeo aei adf ajG ajl ahP ahs aiN aiO aba agy ajg adl aet ad3 acV adN ah7 aaj agq ahx ajr af9 ajx ZA aeW aih acU adb aeq acX ada air aia agX afM Tj abL aff aaw aad af1 O6 aco afB abC abp aak abx aeT Ts acb agL aaH aao afx TC ab2 agT aas ZZ abv afq Tc aci agO aa0 aaF abb abt TH abV agr aaY agH Xm abR aeM agx afX SZ abQ aga abr aaA abG abi agb afZ afW QV acn agk abF aaW aa8 ag1 Zh ach afP afJ afU agv SY abY agj abI aaT afL afv afd Y2 ab4 af5 ags Qb ab7 afS ZR ZE abk afV Tv ab9 afy aaR abc agP YV abW agc Tt ab3 af8 abl aa9 aa6 aeP SN abN agZ aa1 ZM ZQ af7 agF afA PN abT afs aaK ZO agK results3 results4 results5 results6 results7 results8 results9 results10 results11 results12 results13 results14 results15 results16 results17 results18 results19 results20 results21 results22 results23 results24 results25 results26 results27 results28 results29 results30 results31 results32 results33 results34 results35 results36 results37 results38 results39 results40 results41 results42 results43 results44 results45 results46 results47 results48 results49 results50 results51 results52 results53 results54 results55 results56 results57 results58 results59 results60 results61 results62 results63 results64 results65 results66 results67 results68 results69 results70 results71 results72 results73 results74 results75 results76 results77 results78 results79 results80 results81 results82 results83 results84 results85 results86 results87 results88 results89 results90 results91 results92 results93 results94 results95 results96 results97 results98 results99 results100 results101 results102 results103 results104 results105 results106 results107 results108 results109 results110 results111 results112 results113 results114 results115 results116 results117 results118 results119 results120 results121 results122 results123 results124 results125 results126 results127 results128 results129 results130 results131 results132 results133 results134 results135 results136 results137 results138 results139 results140 results141 results142 results143 results144 results145 results146 results147 results148 results149 results150 results151 results152 results153 results154 results155 results156 results157 results158 results159 results160 results161 results162 results163 results164 results165 results166 results167 results168 results169 results170 results171 results172 results173 results174 results175 results176 results177 results178 results179 results180 results181 results182 results183 results184 results185 results186 results187 results188 results189 results190 results191 results192 results193 results194 results195 results196 results197 results198 results199 results200 results201 results202 results203 results204 results205 results206 results207 results208 results209 results210 results211 results212 results213 results214 results215 results216 results217 results218 results219 results220 results221 results222 results223 results224 results225 results226 results227 results228 results229 results230 results231 results232 results233 results234 results235 results236 results237 results238 results239 results240 results241 results242 results243 results244 results245 results246 results247 results248 results249 results250 results251 results252 results253 results254 results255 results256 results257 results258 results259 results260 results261 results262 results263 results264 results265 results266 results267 results268 results269 results270 results271 results272 results273 results274 results275 results276 results277 results278 results279 results280 results281 results282 results283 results284 results285 results286 results287 results288 results289 results290 results291 results292 results293 results294 results295 results296 results297 results298 results299 results300 results301 results302 results303 results304 results305 results306 results307 results308 results309 results310 results311 results312 results313 results314 results315 results316 results317 results318 results319 results320 results321 results322 results323 results324 results325 results326 results327 results328 results329 results330 results331 results332 results333 results334 results335 results336 results337 results338 results339 results340 results341 results342 results343 results344 results345 results346 results347 results348 results349 results350 results351 results352 results353 results354 results355 underlying0 underlying1 underlying2 underlying3 underlying4 underlying5 underlying6 underlying7 underlying8 underlying9 underlying11 underlying16 underlying20 underlying21 underlying22 underlying23 underlying24 underlying26 underlying28 underlying29 underlying31 underlying32 underlying34 underlying35 underlying37 underlying44 underlying45 underlying47 underlying49 underlying60 underlying64 underlying65 underlying67 underlying70 underlying71 underlying72 underlying74 underlying76 underlying77 underlying79 underlying81 underlying83 underlying84 underlying86 underlying87 underlying88 underlying90 underlying92 underlying95 underlying98 underlying99 underlying101 underlying104 underlying112 underlying113 underlying116 underlying117 underlying120 underlying122 underlying126 underlying128 underlying129 underlying130 underlying132 underlying135 underlying137 underlying138 underlying141 underlying142 underlying147 underlying149 underlying151 underlying153 underlying158 underlying162 underlying168 underlying169 underlying171 underlying172 underlying173 underlying175 underlying177 underlying179 underlying181 underlying184 underlying186 underlying187 underlying192 underlying193 underlying194 underlying200 underlying201 underlying203 underlying204 underlying209 underlying210 underlying212 underlying213 underlying216 underlying217 underlying218 underlying221 underlying223 underlying225 underlying226 underlying234 underlying239 underlying242 underlying247 underlying248 underlying250 underlying251 underlying254 underlying256 underlying260 underlying261 underlying263 underlying265 underlying268 underlying269 underlying277 underlying278 underlying282 underlying285 underlying286 underlying287 underlying290 underlying293 underlying294 underlying296 underlying297 underlying299 underlying306 underlying313 underlying315 underlying317 underlying319 underlying320 underlying323 underlying325 underlying327 underlying328 underlying330 underlying332 underlying333 underlying336 underlying339 underlying342 underlying344 underlying345 underlying347 underlying359 underlying360 underlying365 underlying369 underlying370 underlying373 underlying375 underlying376 underlying377 underlying381 underlying383
attribute [go_sem ↓] aja ajQ ahM ail ai0 ahk aiA aiU ahe ae6 aft afm af0 afo afi agM afN af6 aeN ae5 aeO afe
end Go.Proofs.Tryz

namespace Go.PM
structure Vl where
 k:Int
 n:Int
 t:List UInt8
 deriving DecidableEq,Inhabited
structure HA where
 name:List UInt8
 kind:Int
 v:Vl
 deriving DecidableEq,Inhabited
structure Ob where
 oid:Int
 kind:Int
 slots:List HA
 elems:List Vl
 code:Int
 up:Int
 deriving DecidableEq,Inhabited
structure Ac where
 aid:Int
 code:Int
 self:Vl
 holder:Int
 up:Int
 vars:List Vl
 done:Bool
 deriving DecidableEq,Inhabited
structure Hm where
 op:Int
 a:Int
 b:Int
 c:Int
 deriving DecidableEq,Inhabited
structure Cd where
 name:List UInt8
 block:Bool
 outer:Int
 args:Int
 names:List (List UInt8)
 init:List Vl
 lits:List Vl
 sels:List (List UInt8)
 instrs:List Hm
 deriving DecidableEq,Inhabited
structure Wd where
 objs:List Ob
 acts:List Ac
 codes:List Cd
 nobj:Int
 nact:Int
 deriving DecidableEq,Inhabited
structure GS where
 kind:Int
 holder:Int
 slot:Int
 path:List Int
 set:Bool
 holder2:Int
 slot2:Int
 path2:List Int
 deriving DecidableEq,Inhabited
def Cy (v:Vl):AV:=.agg [.val (.int .i64 v.k),.val (.int .i64 v.n),.val (.string (Ak v.t))]
def H9 (s:HA):AV:=.agg [.val (.string (Ak s.name)),.val (.int .i64 s.kind),.val (.int .i64 s.v.k),.val (.int .i64 s.v.n),.val (.string (Ak s.v.t))]
def Pe (l:List Vl):List AV:=l.map Cy
def Tl (l:List HA):List AV:=l.map H9
def strs (l:List (List UInt8)):List AV:=l.map fun s=>.val (.string (Ak s))
def is (l:List Int):List AV:=l.map fun n=>.val (.int .i64 n)
def Cx (x:Hm):AV:=.agg [.val (.int .i64 x.op),.val (.int .i64 x.a),.val (.int .i64 x.b),.val (.int .i64 x.c)]
def WW (l:List Hm):List AV:=l.map Cx
def Du (o:Ob):AV:=.agg [.val (.int .i64 o.oid),.val (.int .i64 o.kind),.sl false (Tl o.slots),.sl false (Pe o.elems),.val (.int .i64 o.code),.val (.int .i64 o.up)]
def NK (a:Ac):AV:=.agg [.val (.int .i64 a.aid),.val (.int .i64 a.code),.val (.int .i64 a.self.k),.val (.int .i64 a.self.n),.val (.string (Ak a.self.t)),.val (.int .i64 a.holder),.val (.int .i64 a.up),.sl false (Pe a.vars),.val (.bool a.done)]
def O0 (c:Cd):List AV:=[.val (.string (Ak c.name)),.val (.bool c.block),.val (.int .i64 c.outer),.val (.int .i64 c.args),.sl false (strs c.names),.sl false (Pe c.init),.sl false (Pe c.lits),.sl false (strs c.sels),.sl false (WW c.instrs)]
def SS (c:Cd):AV:=.agg (O0 c)
def OZ (l:List Ob):List AV:=l.map Du
def Od (l:List Ac):List AV:=l.map NK
def LQ (l:List Cd):List AV:=l.map SS
def JV (w:Wd):List AV:=[.sl false (OZ w.objs),.sl false (Od w.acts),.sl false (LQ w.codes),.val (.int .i64 w.nobj),.val (.int .i64 w.nact)]
def C2 (w:Wd):AV:=.agg (JV w)
def HG (f:GS):AV:=.agg [.val (.int .i64 f.kind),.val (.int .i64 f.holder),.val (.int .i64 f.slot),.sl false (is f.path),.val (.bool f.set),.val (.int .i64 f.holder2),.val (.int .i64 f.slot2),.sl false (is f.path2)]
section
variable {α:Type} (f:α -> AV) (l:List α)
theorem CL {d:α} {i:Nat} (h:i < l.length):(l.map f).getD i .dead = f (l.getD i d):=by
 simp [List.getD_eq_getElem?_getD,h]
theorem KH {n:Nat} (h:∀ x,(f x).cells.length = n):Xn n (l.map f):=by
 intro e he;obtain ⟨x,_,rfl⟩:=List.mem_map.1 he;exact h x
end
theorem B1 (l:List Vl):(Pe l).length = l.length:=by simp [Pe]
theorem Cu (l:List HA):(Tl l).length = l.length:=by simp [Tl]
theorem Ce (l:List (List UInt8)):(strs l).length = l.length:=by simp [strs]
theorem BO (l:List Int):(is l).length = l.length:=by simp [is]
theorem Fq (l:List Hm):(WW l).length = l.length:=by simp [WW]
theorem D9 (l:List Ob):(OZ l).length = l.length:=by simp [OZ]
theorem En (l:List Ac):(Od l).length = l.length:=by simp [Od]
theorem Cl (l:List Cd):(LQ l).length = l.length:=by simp [LQ]
theorem Zp {l:List Vl} {i:Nat} (h:i < l.length):(Pe l).getD i .dead = Cy (l.getD i default):=CL Cy l h
theorem Yg {l:List HA} {i:Nat} (h:i < l.length):(Tl l).getD i .dead = H9 (l.getD i default):=CL H9 l h
theorem MS {l:List (List UInt8)} {i:Nat} (h:i < l.length):(strs l).getD i .dead = .val (.string (Ak (l.getD i []))):=CL (fun s=>AV.val (.string (Ak s))) l h
theorem aaO {l:List Int} {i:Nat} (h:i < l.length):(is l).getD i .dead = .val (.int .i64 (l.getD i 0)):=CL (fun n=>AV.val (.int .i64 n)) l h
theorem TW {l:List Hm} {i:Nat} (h:i < l.length):(WW l).getD i .dead = Cx (l.getD i default):=CL Cx l h
theorem Zg {l:List Ob} {i:Nat} (h:i < l.length):(OZ l).getD i .dead = Du (l.getD i default):=CL Du l h
theorem Zn {l:List Ac} {i:Nat} (h:i < l.length):(Od l).getD i .dead = NK (l.getD i default):=CL NK l h
theorem FH {l:List Cd} {i:Nat} (h:i < l.length):(LQ l).getD i .dead = SS (l.getD i default):=CL SS l h
theorem ZS (l:List HA):Xn 5 (Tl l):=KH H9 l fun _=>rfl
theorem Qg (l:List (List UInt8)):Xn 1 (strs l):=KH _ l fun _=>rfl
theorem JI (l:List Int):Xn 1 (is l):=KH _ l fun _=>rfl
theorem Us (v:Vl):(Cy v).cells = [.val (.int .i64 v.k),.val (.int .i64 v.n),.val (.string (Ak v.t))]:=rfl
theorem UE (s:HA):(H9 s).cells = [.val (.string (Ak s.name)),.val (.int .i64 s.kind),.val (.int .i64 s.v.k),.val (.int .i64 s.v.n),.val (.string (Ak s.v.t))]:=rfl
theorem Uj (o:Ob):(Du o).cells = [.val (.int .i64 o.oid),.val (.int .i64 o.kind),.sl false (Tl o.slots),.sl false (Pe o.elems),.val (.int .i64 o.code),.val (.int .i64 o.up)]:=rfl
theorem U9 (a:Ac):(NK a).cells = [.val (.int .i64 a.aid),.val (.int .i64 a.code),.val (.int .i64 a.self.k),.val (.int .i64 a.self.n),.val (.string (Ak a.self.t)),.val (.int .i64 a.holder),.val (.int .i64 a.up),.sl false (Pe a.vars),.val (.bool a.done)]:=rfl
theorem IW {α:Type} (f:α -> AV) (h:∀ x,(f x).lax = f x) (l:List α):Fz (l.map f) = l.map f:=by
 rw [Fp,List.map_map];exact List.map_congr_left fun x _=>h x
theorem P9 (l:List Vl):Fz (Pe l) = Pe l:=IW _ (fun _=>rfl) l
theorem Qs (l:List HA):Fz (Tl l) = Tl l:=IW _ (fun _=>rfl) l
theorem Iy (l:List Int):Fz (is l) = is l:=IW _ (fun _=>rfl) l
theorem NU (o:Ob):(Du o).lax = Du o:=by simp [Du,AV.lax,Fz,Qs,P9]
theorem abJ (v:Value):(AV.val v).lax = .val v:=rfl
theorem adn (f:Bool) (es:List AV):(AV.sl f es).lax = .sl false (Fz es):=rfl
theorem abf (es:List AV):(AV.agg es).lax = .agg (Fz es):=rfl
theorem abn (es:List AV):(AV.tup es).lax = .tup (Fz es):=rfl
theorem Xa:Fz [] = []:=rfl
theorem TP (x:AV) (xs:List AV):Fz (x :: xs) = x.lax :: Fz xs:=rfl
theorem Ut (x:AV):(AE.ret x).lax = .ret x.lax:=rfl
attribute [go_sem] P9 Qs Iy abJ adn abf abn Xa TP Ut NU
theorem aaQ (h:List Ah) (id:Nat) (K:AV -> List Ah -> Prop):Ef h (.mp id) K = match h[id]? with
  | some b=>isMap b /\ Na b = true /\ K (.cmp (V7 b)) (h.set id .dead)
  | none=>False:=rfl
attribute [go_sem ↓] aaQ
attribute [go_sem] B1 Cu Ce BO Fq D9 En Cl Us UE Uj U9
def gd:=And.intro @TE (And.intro @Zp (And.intro @Yg (And.intro @MS (And.intro @aaO (And.intro @TW (And.intro @Zg (And.intro @Zn @FH)))))))
end Go.PM

namespace Go.PM
def FX {α:Type} (p:α -> Bool) (l:List α):Int:=match l.findIdx? p with
 | some i=>(i:Int)
 | none=>-1
section
variable {α:Type} {d:α} {p:α -> Bool} {l:List α} {i:Nat}
theorem Bs (h:i < l.length):l.getD i d ∈ l:=by
 rw [List.getD_eq_getElem?_getD,List.getElem?_eq_getElem h];exact List.getElem_mem h
theorem MZ (hi:i < l.length) (hn:∀ j,j < i -> p (l.getD j d) = false) (hp:p (l.getD i d) = true):FX p l = i:=by
 have:l.findIdx? p = some i:=by
  rw [List.findIdx?_eq_some_iff_getElem];refine ⟨hi,?_,fun j hj=>?_⟩
  ·simpa [List.getD_eq_getElem?_getD,hi] using hp
  ·have:=hn j hj
   have hj':j < l.length:=by omega
   simpa [List.getD_eq_getElem?_getD,hj'] using this
 simp [FX,this]
theorem TN (hn:∀ j,j < l.length -> p (l.getD j d) = false):FX p l = -1:=by
 have:l.findIdx? p = none:=by
  rw [List.findIdx?_eq_none_iff];intro x hx;obtain ⟨j,hj,rfl⟩:=List.mem_iff_getElem.1 hx;have:=hn j hj
  simpa [List.getD_eq_getElem?_getD,hj] using this
 simp [FX,this]
theorem Hw (p:α -> Bool) (l:List α):decide (FX p l >= 0) = l.any p:=by
 unfold FX
 cases h:l.findIdx? p with
 | none =>
  rw [List.findIdx?_eq_none_iff] at h;have:l.any p = false:=by rw [List.any_eq_false]; intro x hx; rw [h x hx]; simp
  rw [this]; rfl
 | some i =>
  have hi:=List.findIdx?_eq_some_iff_getElem.1 h;obtain ⟨h1,h2,_⟩:=hi;have:l.any p = true:=by rw [List.any_eq_true]; exact ⟨l[i],List.getElem_mem h1,h2⟩
  rw [this]; simp
theorem Ed (hn:∀ j,j < i -> p (l.getD j d) = false) (hp:p (l.getD i d) = false):∀ j,j < i + 1 -> p (l.getD j d) = false:=fun j hj=>by
 rcases Nat.lt_or_eq_of_le (Nat.le_of_lt_succ hj) with h | h
 ·exact hn j h
 ·rw [h]; exact hp
theorem Fl (hn:∀ j,j < i -> p (l.getD j d) = false) (hp:p (l.getD i d) = true) (hi:i < l.length):AV.val (.int .i64 (i:Nat)) = .val (.int .i64 (FX p l)):=by rw [MZ hi hn hp]
theorem Ff (hn:∀ j,j < i -> p (l.getD j d) = false) (hi:l.length <= i):AV.val (.int .i64 (-1)) = .val (.int .i64 (FX p l)):=by rw [TN fun j hj=>hn j (by omega)]
end
theorem FJ {x:AV} {caps:List AV} (hx:x.pure = true) (hc:CB caps = true):(x :: caps).all AV.pure = true:=by
 rw [List.all_cons,hx,Bool.true_and,List.all_eq_true];intro y hy;obtain ⟨i,hi⟩:=List.getElem?_of_mem hy;have:=Nt hc hi
 cases y <;> first | exact this | simp [AV.BK] at this
mutual
theorem JQ (n:Nat):∀ (x:AV),x.BK = true -> x.under n = true
 | .val _,_=>rfl
 | .sl _ _,_=>rfl
 | .cptr _,_=>rfl
 | .cmp _,_=>rfl
 | .bnd _ _,hp=>by simp [AV.BK] at hp
 | .fn _ caps,hp=>Bw n caps hp
 | .iface _ x,hp=>JQ n x hp
 | .dead,hp=>by simp [AV.BK] at hp
 | .hsl _ _ _ _,hp=>by simp [AV.BK] at hp
 | .ptr _ _,hp=>by simp [AV.BK] at hp
 | .eptr _ _ _ _,hp=>by simp [AV.BK] at hp
 | .yld _,hp=>by simp [AV.BK] at hp
 | .mp _,hp=>by simp [AV.BK] at hp
 | .agg _,hp=>by simp [AV.BK] at hp
 | .tup _,hp=>by simp [AV.BK] at hp
theorem Bw (n:Nat):∀ (l:List AV),CB l = true -> AZ n l = true
 | [],_=>rfl
 | x :: xs,hp=>by
  simp only [CB,Bool.and_eq_true] at hp;simp only [AZ,Bool.and_eq_true];exact ⟨JQ n x hp.1,Bw n xs hp.2⟩
end
end Go.PM

namespace Go.PM
theorem Bd {P Q:Prop} (k:Q) (h:P = Q:=by try simp -implicitDefEqProofs (dsimp:=false) (disch:=omega) only [i64_in,gd]; try exact rfl):P:=(h).mpr k
end Go.PM

namespace Go.Proofs.Tryz
open Go.PM
section
attribute [local go_sem] Cu ntmps53
theorem c53 (l:List (HA)) (f:FuncId) (caps:List AV) (hcaps:CB caps = true) (p:HA -> Bool) (hf:∀ o ∈ l,Af prog f ((H9 o) :: caps) (· = .val (.bool (p o)))) (hl:l.length <= 1000000000):Af prog 53 [.sl false (Tl l),.fn f caps] (· = .val (.int .i64 (FX p l))):=by
 refine Ag.intro func53 (by decide) rfl (Bj ?_);refine Aa.Ad (Z0 ?_);refine Aa.seq ?_;refine Aa.Ad (Z0 ?_);refine Aa.block ?_;refine Aa.A0 (fun i:Nat=>[(8,.val (.int .i64 (i:Nat)))]) [7,0,1] (fun i:Nat=>[]) (fun i:Nat=>i <= l.length /\ ∀ j,j < i -> p (l.getD j default) = false) (fun i:Nat=>l.length - i) (0) ?_ rfl ?_ ?_;refine ⟨?_,?_⟩ <;> omega
 refine ⟨rfl,?_,?_,rfl,?_⟩;refine C1 ?_;exact Bw _ _ (by assumption);exact C1 trivial;exact C1 trivial;rintro i hj;obtain ⟨hi,hn⟩:=hj;refine Z0 ?_;refine Aa.Ad (Z0 ?_);refine Aa.seq (Aa.cond rfl (fun g1=>?_) (fun g1=>?_));have d1:=An g1;refine Aa.skip (Z1 g1 ?_);refine Aa.seq (Aa.block ?_);refine Aa.Ad (Z1 g1 ?_);refine Aa.Ad (Z1 g1 ?_);refine Ao ?_;refine And.intro (by assumption) ?_;simp -implicitDefEqProofs (dsimp:=false) (disch:=omega) only [i64_in,gd];refine Z1 g1 ?_;refine Af.eq (hf _ ?_) (FJ rfl (by assumption)) ?_;exact Bs (by omega);refine Z1 g1 ?_;refine Aa.cond rfl (fun g3=>?_) (fun g3=>?_);refine Aa.Ad (Z2 g1 g3 ?_);refine Aa.ret (Z2 g1 g3 ?_);refine Ae rfl ?_;exact Fl (by assumption) (by assumption) (by omega);refine Aa.skip (Z2 g1 g3 ?_);refine Aa.region (Z2 g1 g3 ?_);refine Bd ?_;refine ⟨i + 1,?_⟩;constructor;constructor;omega;exact Ed (by assumption) (by assumption);constructor;omega;refine ⟨rfl,?_,?_,rfl,?_⟩;refine Cv g1 g3 ?_;exact Bw _ _ (by assumption);exact Cv g1 g3 trivial;exact Cv g1 g3 trivial;have d1:=Aj g1;refine Aa.exit (Z1 g1 ?_);refine Aa.Ad (Z1 g1 ?_);refine Aa.ret (Z1 g1 ?_);refine Ae rfl ?_;exact Ff (by assumption) (by omega)
end
section
attribute [local go_sem] ntmps132
theorem ahj (l:List (HA)) (f:FuncId) (caps:List AV) (hcaps:CB caps = true) (p:HA -> Bool) (hf:∀ o ∈ l,Af prog f ((H9 o) :: caps) (· = .val (.bool (p o)))) (hl:l.length <= 1000000000):Af prog 132 [.sl false (Tl l),.fn f caps] (· = .val (.bool (l.any p))):=by
 have h0:=Hw p l;refine Ag.intro func132 (by decide) rfl (D5 h0 ?_);refine Aa.Ad (Z1 h0 ?_);refine Aa.Ad (Z1 h0 ?_);refine Af.eq (c53 l f caps hcaps p hf hl) (by simp [AV.pure,AV.Ix,AV.BK,CB, *]) (Z1 h0 ?_);refine Aa.ret (Z1 h0 ?_);exact Ae rfl (Z1 h0 trivial)
end
section
attribute [local go_sem] En ntmps73
theorem c73 (l:List (Ac)) (f:FuncId) (caps:List AV) (hcaps:CB caps = true) (p:Ac -> Bool) (hf:∀ o ∈ l,Af prog f ((NK o) :: caps) (· = .val (.bool (p o)))) (hl:l.length <= 1000000000):Af prog 73 [.sl false (Od l),.fn f caps] (· = .val (.int .i64 (FX p l))):=by
 refine Ag.intro func73 (by decide) rfl (Bj ?_);refine Aa.Ad (Z0 ?_);refine Aa.seq ?_;refine Aa.Ad (Z0 ?_);refine Aa.block ?_;refine Aa.A0 (fun i:Nat=>[(8,.val (.int .i64 (i:Nat)))]) [7,0,1] (fun i:Nat=>[]) (fun i:Nat=>i <= l.length /\ ∀ j,j < i -> p (l.getD j default) = false) (fun i:Nat=>l.length - i) (0) ?_ rfl ?_ ?_;refine ⟨?_,?_⟩ <;> omega
 refine ⟨rfl,?_,?_,rfl,?_⟩;refine C1 ?_;exact Bw _ _ (by assumption);exact C1 trivial;exact C1 trivial;rintro i hj;obtain ⟨hi,hn⟩:=hj;refine Z0 ?_;refine Aa.Ad (Z0 ?_);refine Aa.seq (Aa.cond rfl (fun g1=>?_) (fun g1=>?_));have d1:=An g1;refine Aa.skip (Z1 g1 ?_);refine Aa.seq (Aa.block ?_);refine Aa.Ad (Z1 g1 ?_);refine Aa.Ad (Z1 g1 ?_);refine Ao ?_;refine And.intro (by assumption) ?_;simp -implicitDefEqProofs (dsimp:=false) (disch:=omega) only [i64_in,gd];refine Z1 g1 ?_;refine Af.eq (hf _ ?_) (FJ rfl (by assumption)) ?_;exact Bs (by omega);refine Z1 g1 ?_;refine Aa.cond rfl (fun g3=>?_) (fun g3=>?_);refine Aa.Ad (Z2 g1 g3 ?_);refine Aa.ret (Z2 g1 g3 ?_);refine Ae rfl ?_;exact Fl (by assumption) (by assumption) (by omega);refine Aa.skip (Z2 g1 g3 ?_);refine Aa.region (Z2 g1 g3 ?_);refine Bd ?_;refine ⟨i + 1,?_⟩;constructor;constructor;omega;exact Ed (by assumption) (by assumption);constructor;omega;refine ⟨rfl,?_,?_,rfl,?_⟩;refine Cv g1 g3 ?_;exact Bw _ _ (by assumption);exact Cv g1 g3 trivial;exact Cv g1 g3 trivial;have d1:=Aj g1;refine Aa.exit (Z1 g1 ?_);refine Aa.Ad (Z1 g1 ?_);refine Aa.ret (Z1 g1 ?_);refine Ae rfl ?_;exact Ff (by assumption) (by omega)
end
section
attribute [local go_sem] ntmps99
theorem c99 (l:List (Ac)) (f:FuncId) (caps:List AV) (hcaps:CB caps = true) (p:Ac -> Bool) (hf:∀ o ∈ l,Af prog f ((NK o) :: caps) (· = .val (.bool (p o)))) (hl:l.length <= 1000000000):Af prog 99 [.sl false (Od l),.fn f caps] (· = .val (.bool (l.any p))):=by
 have h0:=Hw p l;refine Ag.intro func99 (by decide) rfl (D5 h0 ?_);refine Aa.Ad (Z1 h0 ?_);refine Aa.Ad (Z1 h0 ?_);refine Af.eq (c73 l f caps hcaps p hf hl) (by simp [AV.pure,AV.Ix,AV.BK,CB, *]) (Z1 h0 ?_);refine Aa.ret (Z1 h0 ?_);exact Ae rfl (Z1 h0 trivial)
end
section
attribute [local go_sem] D9 ntmps129
theorem ajA (l:List (Ob)) (f:FuncId) (caps:List AV) (hcaps:CB caps = true) (p:Ob -> Bool) (hf:∀ o ∈ l,Af prog f ((Du o) :: caps) (· = .val (.bool (p o)))) (hl:l.length <= 1000000000):Af prog 129 [.sl false (OZ l),.fn f caps] (· = .val (.int .i64 (FX p l))):=by
 refine Ag.intro func129 (by decide) rfl (Bj ?_);refine Aa.Ad (Z0 ?_);refine Aa.seq ?_;refine Aa.Ad (Z0 ?_);refine Aa.block ?_;refine Aa.A0 (fun i:Nat=>[(8,.val (.int .i64 (i:Nat)))]) [7,0,1] (fun i:Nat=>[]) (fun i:Nat=>i <= l.length /\ ∀ j,j < i -> p (l.getD j default) = false) (fun i:Nat=>l.length - i) (0) ?_ rfl ?_ ?_;refine ⟨?_,?_⟩ <;> omega
 refine ⟨rfl,?_,?_,rfl,?_⟩;refine C1 ?_;exact Bw _ _ (by assumption);exact C1 trivial;exact C1 trivial;rintro i hj;obtain ⟨hi,hn⟩:=hj;refine Z0 ?_;refine Aa.Ad (Z0 ?_);refine Aa.seq (Aa.cond rfl (fun g1=>?_) (fun g1=>?_));have d1:=An g1;refine Aa.skip (Z1 g1 ?_);refine Aa.seq (Aa.block ?_);refine Aa.Ad (Z1 g1 ?_);refine Aa.Ad (Z1 g1 ?_);refine Ao ?_;refine And.intro (by assumption) ?_;simp -implicitDefEqProofs (dsimp:=false) (disch:=omega) only [i64_in,gd];refine Z1 g1 ?_;refine Af.eq (hf _ ?_) (FJ rfl (by assumption)) ?_;exact Bs (by omega);refine Z1 g1 ?_;refine Aa.cond rfl (fun g3=>?_) (fun g3=>?_);refine Aa.Ad (Z2 g1 g3 ?_);refine Aa.ret (Z2 g1 g3 ?_);refine Ae rfl ?_;exact Fl (by assumption) (by assumption) (by omega);refine Aa.skip (Z2 g1 g3 ?_);refine Aa.region (Z2 g1 g3 ?_);refine Bd ?_;refine ⟨i + 1,?_⟩;constructor;constructor;omega;exact Ed (by assumption) (by assumption);constructor;omega;refine ⟨rfl,?_,?_,rfl,?_⟩;refine Cv g1 g3 ?_;exact Bw _ _ (by assumption);exact Cv g1 g3 trivial;exact Cv g1 g3 trivial;have d1:=Aj g1;refine Aa.exit (Z1 g1 ?_);refine Aa.Ad (Z1 g1 ?_);refine Aa.ret (Z1 g1 ?_);refine Ae rfl ?_;exact Ff (by assumption) (by omega)
end
section
attribute [local go_sem] ntmps102
theorem aiR (l:List (Ob)) (f:FuncId) (caps:List AV) (hcaps:CB caps = true) (p:Ob -> Bool) (hf:∀ o ∈ l,Af prog f ((Du o) :: caps) (· = .val (.bool (p o)))) (hl:l.length <= 1000000000):Af prog 102 [.sl false (OZ l),.fn f caps] (· = .val (.bool (l.any p))):=by
 have h0:=Hw p l;refine Ag.intro func102 (by decide) rfl (D5 h0 ?_);refine Aa.Ad (Z1 h0 ?_);refine Aa.Ad (Z1 h0 ?_);refine Af.eq (ajA l f caps hcaps p hf hl) (by simp [AV.pure,AV.Ix,AV.BK,CB, *]) (Z1 h0 ?_);refine Aa.ret (Z1 h0 ?_);exact Ae rfl (Z1 h0 trivial)
end
section
attribute [local go_sem] B1 ntmps163
theorem aiw (l:List (Vl)) (f:FuncId) (caps:List AV) (hcaps:CB caps = true) (p:Vl -> Bool) (hf:∀ o ∈ l,Af prog f ((Cy o) :: caps) (· = .val (.bool (p o)))) (hl:l.length <= 1000000000):Af prog 163 [.sl false (Pe l),.fn f caps] (· = .val (.int .i64 (FX p l))):=by
 refine Ag.intro func163 (by decide) rfl (Bj ?_);refine Aa.Ad (Z0 ?_);refine Aa.seq ?_;refine Aa.Ad (Z0 ?_);refine Aa.block ?_;refine Aa.A0 (fun i:Nat=>[(8,.val (.int .i64 (i:Nat)))]) [7,0,1] (fun i:Nat=>[]) (fun i:Nat=>i <= l.length /\ ∀ j,j < i -> p (l.getD j default) = false) (fun i:Nat=>l.length - i) (0) ?_ rfl ?_ ?_;refine ⟨?_,?_⟩ <;> omega
 refine ⟨rfl,?_,?_,rfl,?_⟩;refine C1 ?_;exact Bw _ _ (by assumption);exact C1 trivial;exact C1 trivial;rintro i hj;obtain ⟨hi,hn⟩:=hj;refine Z0 ?_;refine Aa.Ad (Z0 ?_);refine Aa.seq (Aa.cond rfl (fun g1=>?_) (fun g1=>?_));have d1:=An g1;refine Aa.skip (Z1 g1 ?_);refine Aa.seq (Aa.block ?_);refine Aa.Ad (Z1 g1 ?_);refine Aa.Ad (Z1 g1 ?_);refine Ao ?_;refine And.intro (by assumption) ?_;simp -implicitDefEqProofs (dsimp:=false) (disch:=omega) only [i64_in,gd];refine Z1 g1 ?_;refine Af.eq (hf _ ?_) (FJ rfl (by assumption)) ?_;exact Bs (by omega);refine Z1 g1 ?_;refine Aa.cond rfl (fun g3=>?_) (fun g3=>?_);refine Aa.Ad (Z2 g1 g3 ?_);refine Aa.ret (Z2 g1 g3 ?_);refine Ae rfl ?_;exact Fl (by assumption) (by assumption) (by omega);refine Aa.skip (Z2 g1 g3 ?_);refine Aa.region (Z2 g1 g3 ?_);refine Bd ?_;refine ⟨i + 1,?_⟩;constructor;constructor;omega;exact Ed (by assumption) (by assumption);constructor;omega;refine ⟨rfl,?_,?_,rfl,?_⟩;refine Cv g1 g3 ?_;exact Bw _ _ (by assumption);exact Cv g1 g3 trivial;exact Cv g1 g3 trivial;have d1:=Aj g1;refine Aa.exit (Z1 g1 ?_);refine Aa.Ad (Z1 g1 ?_);refine Aa.ret (Z1 g1 ?_);refine Ae rfl ?_;exact Ff (by assumption) (by omega)
end
section
attribute [local go_sem] ntmps125
theorem Wt (l:List (Vl)) (f:FuncId) (caps:List AV) (hcaps:CB caps = true) (p:Vl -> Bool) (hf:∀ o ∈ l,Af prog f ((Cy o) :: caps) (· = .val (.bool (p o)))) (hl:l.length <= 1000000000):Af prog 125 [.sl false (Pe l),.fn f caps] (· = .val (.bool (l.any p))):=by
 have h0:=Hw p l;refine Ag.intro func125 (by decide) rfl (D5 h0 ?_);refine Aa.Ad (Z1 h0 ?_);refine Aa.Ad (Z1 h0 ?_);refine Af.eq (aiw l f caps hcaps p hf hl) (by simp [AV.pure,AV.Ix,AV.BK,CB, *]) (Z1 h0 ?_);refine Aa.ret (Z1 h0 ?_);exact Ae rfl (Z1 h0 trivial)
end
section
attribute [local go_sem] Hj ntmps173
theorem c173 (l:List (UInt8)) (f:FuncId) (caps:List AV) (hcaps:CB caps = true) (p:UInt8 -> Bool) (hf:∀ o ∈ l,Af prog f ((b8 o) :: caps) (· = .val (.bool (p o)))) (hl:l.length <= 1000000000):Af prog 173 [.sl false (bs l),.fn f caps] (· = .val (.int .i64 (FX p l))):=by
 refine Ag.intro func173 (by decide) rfl (Bj ?_);refine Aa.Ad (Z0 ?_);refine Aa.seq ?_;refine Aa.Ad (Z0 ?_);refine Aa.block ?_;refine Aa.A0 (fun i:Nat=>[(8,.val (.int .i64 (i:Nat)))]) [7,0,1] (fun i:Nat=>[]) (fun i:Nat=>i <= l.length /\ ∀ j,j < i -> p (l.getD j 0) = false) (fun i:Nat=>l.length - i) (0) ?_ rfl ?_ ?_;refine ⟨?_,?_⟩ <;> omega
 refine ⟨rfl,?_,?_,rfl,?_⟩;refine C1 ?_;exact Bw _ _ (by assumption);exact C1 trivial;exact C1 trivial;rintro i hj;obtain ⟨hi,hn⟩:=hj;refine Z0 ?_;refine Aa.Ad (Z0 ?_);refine Aa.seq (Aa.cond rfl (fun g1=>?_) (fun g1=>?_));have d1:=An g1;refine Aa.skip (Z1 g1 ?_);refine Aa.seq (Aa.block ?_);refine Aa.Ad (Z1 g1 ?_);refine Aa.Ad (Z1 g1 ?_);refine Ao ?_;refine And.intro (by assumption) ?_;simp -implicitDefEqProofs (dsimp:=false) (disch:=omega) only [i64_in,gd];refine Z1 g1 ?_;refine Af.eq (hf _ ?_) (FJ rfl (by assumption)) ?_;exact Bs (by omega);refine Z1 g1 ?_;refine Aa.cond rfl (fun g3=>?_) (fun g3=>?_);refine Aa.Ad (Z2 g1 g3 ?_);refine Aa.ret (Z2 g1 g3 ?_);refine Ae rfl ?_;exact Fl (by assumption) (by assumption) (by omega);refine Aa.skip (Z2 g1 g3 ?_);refine Aa.region (Z2 g1 g3 ?_);refine Bd ?_;refine ⟨i + 1,?_⟩;constructor;constructor;omega;exact Ed (by assumption) (by assumption);constructor;omega;refine ⟨rfl,?_,?_,rfl,?_⟩;refine Cv g1 g3 ?_;exact Bw _ _ (by assumption);exact Cv g1 g3 trivial;exact Cv g1 g3 trivial;have d1:=Aj g1;refine Aa.exit (Z1 g1 ?_);refine Aa.Ad (Z1 g1 ?_);refine Aa.ret (Z1 g1 ?_);refine Ae rfl ?_;exact Ff (by assumption) (by omega)
end
section
attribute [local go_sem] ntmps135
theorem aju (l:List (UInt8)) (f:FuncId) (caps:List AV) (hcaps:CB caps = true) (p:UInt8 -> Bool) (hf:∀ o ∈ l,Af prog f ((b8 o) :: caps) (· = .val (.bool (p o)))) (hl:l.length <= 1000000000):Af prog 135 [.sl false (bs l),.fn f caps] (· = .val (.bool (l.any p))):=by
 have h0:=Hw p l;refine Ag.intro func135 (by decide) rfl (D5 h0 ?_);refine Aa.Ad (Z1 h0 ?_);refine Aa.Ad (Z1 h0 ?_);refine Af.eq (c173 l f caps hcaps p hf hl) (by simp [AV.pure,AV.Ix,AV.BK,CB, *]) (Z1 h0 ?_);refine Aa.ret (Z1 h0 ?_);exact Ae rfl (Z1 h0 trivial)
end
section
attribute [local go_sem] Ce ntmps196
theorem c196 (l:List (List UInt8)) (f:FuncId) (caps:List AV) (hcaps:CB caps = true) (p:List UInt8 -> Bool) (hf:∀ o ∈ l,Af prog f (.val (.string (Ak o)) :: caps) (· = .val (.bool (p o)))) (hl:l.length <= 1000000000):Af prog 196 [.sl false (strs l),.fn f caps] (· = .val (.int .i64 (FX p l))):=by
 refine Ag.intro func196 (by decide) rfl (Bj ?_);refine Aa.Ad (Z0 ?_);refine Aa.seq ?_;refine Aa.Ad (Z0 ?_);refine Aa.block ?_;refine Aa.A0 (fun i:Nat=>[(8,.val (.int .i64 (i:Nat)))]) [7,0,1] (fun i:Nat=>[]) (fun i:Nat=>i <= l.length /\ ∀ j,j < i -> p (l.getD j []) = false) (fun i:Nat=>l.length - i) (0) ?_ rfl ?_ ?_;refine ⟨?_,?_⟩ <;> omega
 refine ⟨rfl,?_,?_,rfl,?_⟩;refine C1 ?_;exact Bw _ _ (by assumption);exact C1 trivial;exact C1 trivial;rintro i hj;obtain ⟨hi,hn⟩:=hj;refine Z0 ?_;refine Aa.Ad (Z0 ?_);refine Aa.seq (Aa.cond rfl (fun g1=>?_) (fun g1=>?_));have d1:=An g1;refine Aa.skip (Z1 g1 ?_);refine Aa.seq (Aa.block ?_);refine Aa.Ad (Z1 g1 ?_);refine Aa.Ad (Z1 g1 ?_);refine Ao ?_;refine And.intro (by assumption) ?_;simp -implicitDefEqProofs (dsimp:=false) (disch:=omega) only [i64_in,gd];refine Z1 g1 ?_;refine Af.eq (hf _ ?_) (FJ rfl (by assumption)) ?_;exact Bs (by omega);refine Z1 g1 ?_;refine Aa.cond rfl (fun g3=>?_) (fun g3=>?_);refine Aa.Ad (Z2 g1 g3 ?_);refine Aa.ret (Z2 g1 g3 ?_);refine Ae rfl ?_;exact Fl (by assumption) (by assumption) (by omega);refine Aa.skip (Z2 g1 g3 ?_);refine Aa.region (Z2 g1 g3 ?_);refine Bd ?_;refine ⟨i + 1,?_⟩;constructor;constructor;omega;exact Ed (by assumption) (by assumption);constructor;omega;refine ⟨rfl,?_,?_,rfl,?_⟩;refine Cv g1 g3 ?_;exact Bw _ _ (by assumption);exact Cv g1 g3 trivial;exact Cv g1 g3 trivial;have d1:=Aj g1;refine Aa.exit (Z1 g1 ?_);refine Aa.Ad (Z1 g1 ?_);refine Aa.ret (Z1 g1 ?_);refine Ae rfl ?_;exact Ff (by assumption) (by omega)
end
section
attribute [local go_sem] ntmps157
theorem c157 (l:List (List UInt8)) (f:FuncId) (caps:List AV) (hcaps:CB caps = true) (p:List UInt8 -> Bool) (hf:∀ o ∈ l,Af prog f (.val (.string (Ak o)) :: caps) (· = .val (.bool (p o)))) (hl:l.length <= 1000000000):Af prog 157 [.sl false (strs l),.fn f caps] (· = .val (.bool (l.any p))):=by
 have h0:=Hw p l;refine Ag.intro func157 (by decide) rfl (D5 h0 ?_);refine Aa.Ad (Z1 h0 ?_);refine Aa.Ad (Z1 h0 ?_);refine Af.eq (c196 l f caps hcaps p hf hl) (by simp [AV.pure,AV.Ix,AV.BK,CB, *]) (Z1 h0 ?_);refine Aa.ret (Z1 h0 ?_);exact Ae rfl (Z1 h0 trivial)
end
end Go.Proofs.Tryz

namespace Go.Proofs.Tryz
open Go.PM
section
attribute [local go_sem] H9 ntmps55
theorem c55 (s:HA):Af prog 55 [H9 s] (· = .val (.bool (s.kind == 3 || s.kind == 4))):=by
 refine Ag.intro func55 (by decide) rfl (Bj ?_);refine Aa.Ad (Z0 ?_);refine Aa.Ad (Z0 ?_);refine Ao ?_;refine Ap (fun g1=>?_) (fun g1=>?_);have d1:=AB g1;refine Z1 g1 ?_;refine Aa.ret (Z1 g1 ?_);refine Ae rfl ?_;trivial;have d1:=Aq g1;refine Z1 g1 ?_;refine Ao ?_;refine Aa.ret (Z1 g1 ?_);refine Ae rfl ?_;trivial
end
section
attribute [local go_sem] H9 ntmps152
theorem c152 (s:HA):Af prog 152 [H9 s] (· = .val (.bool (s.kind == 2 || s.kind == 4))):=by
 refine Ag.intro func152 (by decide) rfl (Bj ?_);refine Aa.Ad (Z0 ?_);refine Aa.Ad (Z0 ?_);refine Ao ?_;refine Ap (fun g1=>?_) (fun g1=>?_);have d1:=AB g1;refine Z1 g1 ?_;refine Aa.ret (Z1 g1 ?_);refine Ae rfl ?_;trivial;have d1:=Aq g1;refine Z1 g1 ?_;refine Ao ?_;refine Aa.ret (Z1 g1 ?_);refine Ae rfl ?_;trivial
end
section
attribute [local go_sem] Du ntmps93
theorem c93 (o:Ob):Af prog 93 [Du o] (· = .val (.int .i64 o.oid)):=by
 refine Ag.intro func93 (by decide) rfl (Bj ?_);refine Aa.Ad (Z0 ?_);refine Aa.Ad (Z0 ?_);refine Ao ?_;refine Aa.ret (Z0 ?_);exact Ae rfl (Z0 trivial)
end
section
attribute [local go_sem] NK ntmps95
theorem c95 (a:Ac):Af prog 95 [NK a] (· = .val (.int .i64 a.aid)):=by
 refine Ag.intro func95 (by decide) rfl (Bj ?_);refine Aa.Ad (Z0 ?_);refine Aa.Ad (Z0 ?_);refine Ao ?_;refine Aa.ret (Z0 ?_);exact Ae rfl (Z0 trivial)
end
section
attribute [local go_sem] Du ntmps166
theorem ZC (o:Ob):Af prog 166 [Du o] (· = .val (.bool (o.code == 0 && o.up == 0))):=by
 refine Ag.intro func166 (by decide) rfl (Bj ?_);refine Aa.Ad (Z0 ?_);refine Aa.Ad (Z0 ?_);refine Ao ?_;refine Ap (fun g1=>?_) (fun g1=>?_);have d1:=AB g1;refine Z1 g1 ?_;refine Ao ?_;refine Aa.ret (Z1 g1 ?_);exact Ae rfl (Z1 g1 trivial);have d1:=Aq g1;refine Z1 g1 ?_;refine Aa.ret (Z1 g1 ?_);exact Ae rfl (Z1 g1 trivial)
end
end Go.Proofs.Tryz

namespace Go.PM
def Jp (s:List UInt8):AV:=.val (.string (Ak s))
def BC (n:Int):AV:=.val (.int .i64 n)
theorem PC {a b:List UInt8} (h:Ak a = Ak b):a = b:=by
 have:(Ak a).data.toList = (Ak b).data.toList:=by rw [h]
 simpa [Ak] using this
theorem QN:∀ x y,Jp x = Jp y -> x = y:=fun x y h=>by
 unfold Jp at h
 injection h with h
 injection h with h
 exact PC h
theorem FE:∀ x y,BC x = BC y -> x = y:=fun x y h=>by
 unfold BC at h
 injection h with h
 injection h
theorem YS (s:List UInt8):plainKey .string (Jp s):=⟨_,rfl,trivial⟩
theorem Ly (n:Int):plainKey (.int .i64) (BC n):=⟨_,rfl,rfl⟩
section
variable {α:Type} [DecidableEq α]
def Hk (a:α) (l:List α):Bool:=decide (a ∈ l)
def Jf (l:List α):Bool:=decide l.Nodup
theorem KJ {a:α} {l:List α}:Hk a l = true ↔ a ∈ l:=by simp [Hk]
def Bx (k:α -> AV) (v:AV) (l:List α):Ah:=Gt k (fun _:Unit=>v) (l.map fun a=>(a,()))
variable {k:α -> AV} {v z:AV} {l:List α} {a d:α} {i:Nat}
theorem Pb (l:List α) (a:α):Ey (l.map fun a=>(a,())) a = if a ∈ l then some () else none:=by
 induction l with
 | nil=>rfl
 | cons b l ih =>
  simp only [List.map_cons,Ey,ih,List.mem_cons]
  by_cases hb:b = a
  ·simp [hb]
  ·simp [hb,Ne.symm hb]
theorem Ik (hk:∀ x y,k x = k y -> x = y):D2 (Bx k v l) (k a) z = if a ∈ l then v else z:=by
 unfold Bx Gt D2;rw [Hl (v:=fun _:Unit=>v) hk,Pb]
 split <;> rfl
theorem Uh (hk:∀ x y,k x = k y -> x = y):Il (Bx k v l) (k a) = Hk a l:=by
 unfold Hk;unfold Bx Gt Il;rw [Hl (v:=fun _:Unit=>v) hk,Pb]
 split <;> rename_i h <;> simp [h]
theorem Zf (l:List α) (a:α):Kw (l.map fun a=>(a,())) a () = (if a ∈ l then l else l ++ [a]).map fun a=>(a,()):=by
 induction l with
 | nil=>rfl
 | cons b l ih =>
  simp only [List.map_cons,Kw,ih,List.mem_cons]
  by_cases hb:b = a
  ·simp [hb]
  ·simp only [hb,Ne.symm hb,if_false,false_or]
   split <;> simp
theorem MQ (hk:∀ x y,k x = k y -> x = y):LV (Bx k v l) (k a) v = Bx k v (if a ∈ l then l else l ++ [a]):=by
 unfold Bx;rw [Nh (v:=fun _:Unit=>v) (b:=()) hk,Zf]
theorem Jy (h:i < l.length):l.take (i + 1) = l.take i ++ [l.getD i d]:=by
 rw [List.take_add_one,List.getD_eq_getElem?_getD,List.getElem?_eq_getElem h];rfl
theorem Ul (hk:∀ x y,k x = k y -> x = y) (hn:Hk (l.getD i d) (l.take i) = false) (hi:i < l.length):LV (Bx k v (l.take i)) (k (l.getD i d)) v = Bx k v (l.take (i + 1)):=by
 rw [MQ hk,if_neg (of_decide_eq_false hn),Jy hi]
theorem LJ (h:(l.take i).Nodup) (hn:Hk (l.getD i d) (l.take i) = false) (hi:i < l.length):(l.take (i + 1)).Nodup:=by
 rw [Jy (d:=d) hi,List.nodup_append];refine ⟨h,by simp,fun x hx y hy=>?_⟩;have hy':y = l.getD i d:=List.mem_singleton.1 hy;have:¬ l.getD i d ∈ l.take i:=of_decide_eq_false hn;exact fun he=>this (by rw [<- hy',<- he]; exact hx)
theorem PF (hn:Hk (l.getD i d) (l.take i) = true) (hi:i < l.length):AV.val (.bool false) = .val (.bool (Jf l)):=by
 have h1:l.getD i d ∈ l.take i:=of_decide_eq_true hn;have h2:¬ l.Nodup:=fun h=>by
  have h3:(l.take (i + 1)).Nodup:=h.sublist (List.take_sublist _ _);rw [Jy (d:=d) hi,List.nodup_append] at h3;exact h3.2.2 _ h1 _ (List.mem_singleton.2 rfl) rfl
 simp [Jf,h2]
theorem Nv (h:(l.take i).Nodup) (hi:l.length <= i):AV.val (.bool true) = .val (.bool (Jf l)):=by
 rw [List.take_of_length_le hi] at h;simp [Jf,h]
theorem L7 (n:Nat) (hv:v.under n = true):(Bx k v l).under n = true:=Mc n fun _=>hv
theorem S2 (hk:∀ x y,k x = k y -> x = y) (n:Nat) (hv:v.under n = true) (hn:Hk (l.getD i d) (l.take i) = false) (hi:i < l.length):Bx k v (l.take (i + 1)) = .dead \/ (Bx k v (l.take (i + 1)) = LV (Bx k v (l.take i)) (k (l.getD i d)) v /\ (LV (Bx k v (l.take i)) (k (l.getD i d)) v).under n = true):=by
 rw [Ul hk hn hi];exact .inr ⟨rfl,L7 n hv⟩
theorem Lp {P:Program} {kt:TypeId} {d:TypeDesc} (hd:P.underlying kt = some d) (hp:∀ x,plainKey d (k x)):GA P kt (Bx k v l) (k a):=Lf (v:=fun _:Unit=>v) (l:=l.map fun a=>(a,())) hd hp _ _
theorem Ai.F8 {b:Ah} {h h':List Ah} (hs:Ai h h'):Ai (Bx k v l :: h) (b :: h'):=Ai.cons (fun _ h=>by cases h) hs
end
theorem Ai.F9 {α β:Type} {k:α -> AV} {v:β -> AV} {l:List (α × β)} {b:Ah} {h h':List Ah} (hs:Ai h h'):Ai (Gt k v l :: h) (b :: h'):=Ai.cons (fun _ h=>by cases h) hs
end Go.PM

namespace Go.Proofs.Tryz
open Go.PM
theorem VM (l:List (List UInt8)) (v:AV) (a:List UInt8):GA prog 9 (Bx Jp v l) (.val (.string (Ak a))):=Lp (k:=Jp) (d:=.string) underlying9 YS
theorem X9 (l:List (List UInt8)) (a:List UInt8):D2 (Bx Jp (.val (.bool true)) l) (.val (.string (Ak a))) (.val (.bool false)) = .val (.bool (Hk a l)):=by
 have:=Ik (k:=Jp) (v:=.val (.bool true)) (z:=.val (.bool false)) (l:=l) (a:=a) QN;rw [show Jp a = .val (.string (Ak a)) from rfl] at this;rw [this]
 split <;> rename_i h <;> simp [Hk,h]
section
attribute [local go_sem] Ce VM X9 ntmps156
theorem c156 (l:List (List UInt8)) (hl:l.length <= 1000000000):Af prog 156 [.sl false (strs l)] (· = .val (.bool (Jf l))):=by
 refine Ag.intro func156 (by decide) rfl (Bj ?_);refine Aa.Ad (Z0 ?_);refine Aa.Ad (Z0 ?_);refine Aa.seq ?_;refine Aa.Ad (Z0 ?_);refine Aa.block ?_;refine Aa.A0 (fun i:Nat=>[(9,.val (.int .i64 (i:Nat)))]) [8,7,3] (fun i:Nat=>[Bx Jp (.val (.bool true)) (l.take i)]) (fun i:Nat=>i <= l.length /\ (l.take i).Nodup) (fun i:Nat=>l.length - i) (0) ?_ rfl ?_ ?_;exact ⟨Nat.zero_le _,List.nodup_nil⟩;refine ⟨rfl,?_,?_,rfl,?_⟩;refine C1 ?_;trivial;refine C1 ?_;exact .inr ⟨rfl,rfl⟩;exact C1 trivial;rintro i hj;obtain ⟨hi,hn⟩:=hj;refine Z0 ?_;refine Aa.Ad (Z0 ?_);refine Aa.seq (Aa.cond rfl (fun g1=>?_) (fun g1=>?_));have d1:=An g1;refine Aa.skip (Z1 g1 ?_);refine Aa.seq (Aa.block ?_);refine Aa.Ad (Z1 g1 ?_);refine Ao ?_;refine And.intro (by assumption) ?_;simp -implicitDefEqProofs (dsimp:=false) (disch:=omega) only [i64_in,gd];refine Z1 g1 ?_;refine Aa.seq ?_;refine Aa.Ad (Z1 g1 ?_);refine Aa.cond rfl (fun g2=>?_) (fun g2=>?_);refine Aa.Ad (Z2 g1 g2 ?_);refine Aa.ret (Z2 g1 g2 ?_);refine Ae rfl ?_;exact PF (by assumption) (by omega);refine Aa.skip (Z2 g1 g2 ?_);refine Aa.region (Z2 g1 g2 ?_);refine Aa.region (Z2 g1 g2 ?_);refine Bd ?_;refine ⟨i + 1,?_⟩;constructor;constructor;omega;exact LJ (by assumption) (by assumption) (by omega);constructor;omega;refine ⟨rfl,?_,?_,rfl,?_⟩;refine Cv g1 g2 ?_;trivial;refine Cv g1 g2 ?_;exact S2 QN _ rfl (by assumption) (by omega);exact Cv g1 g2 trivial;have d1:=Aj g1;refine Aa.exit (Z1 g1 ?_);refine Aa.Ad (Z1 g1 ?_)
 refine Aa.ret (Z1 g1 ?_);refine Ae rfl ?_;exact Nv (by assumption) (by omega)
end
end Go.Proofs.Tryz

namespace Go.PM
def OB (objs:List Ob):Nat -> List (Int × Int)
 | 0=>[]
 | i + 1=>Kw (OB objs i) (objs.getD i default).oid (i:Nat)
def VD (objs:List Ob):List (Int × Int):=OB objs objs.length
def kvP (l:List (Int × Int)):List (AV × AV):=l.map fun p=>(BC p.1,BC p.2)
def DI (w:Wd):AV:=.cptr [.sl false (OZ w.objs),.sl false (Od w.acts),.sl false (LQ w.codes),.val (.int .i64 w.nobj),.val (.int .i64 w.nact),.cmp (kvP (VD w.objs))]
def Hb (objs:List Ob) (i:Nat):Ah:=Gt BC BC (OB objs i)
def Bi (w:Wd) (n:Int):Option Int:=Ey (VD w.objs) n
theorem X7 (objs:List Ob) (n:Int):∀ i,i <= objs.length -> ∀ k,Ey (OB objs i) n = some k -> ∃ j:Nat,k = (j:Int) /\ j < i /\ (objs.getD j default).oid = n:=by
 intro i
 induction i with
 | zero=>intro _ k h; simp [OB,Ey] at h
 | succ i ih =>
  intro hi k h;rw [OB,Yt] at h
  split at h
  ·rename_i he
   cases h;exact ⟨i,rfl,Nat.lt_succ_self _,he⟩
  ·obtain ⟨j,h1,h2,h3⟩:=ih (by omega) k h
   exact ⟨j,h1,by omega,h3⟩
theorem Fe {w:Wd} {n k:Int} (h:Bi w n = some k):∃ j:Nat,k = (j:Int) /\ j < w.objs.length /\ (w.objs.getD j default).oid = n:=X7 _ _ _ (Nat.le_refl _) _ h
theorem YA {P:Program} {kt:TypeId} (hd:P.underlying kt = some (.int .i64)) (l:List (Int × Int)) (n:Int) (bs:List Nat) (c:Nat):GA P kt (.map (kvP l) bs c) (.val (.int .i64 n)):=Lf (k:=BC) (v:=BC) hd Ly bs c
theorem aaC (l:List (Int × Int)) (n:Int) (bs:List Nat) (c:Nat):D2 (.map (kvP l) bs c) (.val (.int .i64 n)) (.val (.int .i64 0)) = .val (.int .i64 ((Ey l n).getD 0)):=by
 have:=Hl (k:=BC) (v:=BC) (l:=l) (a:=n) FE bs c;unfold D2 kvP;rw [show AV.val (.int .i64 n) = BC n from rfl,this]
 cases Ey l n <;> rfl
theorem acG (l:List (Int × Int)) (n:Int) (bs:List Nat) (c:Nat):Il (.map (kvP l) bs c) (.val (.int .i64 n)) = (Ey l n).isSome:=by
 have:=Hl (k:=BC) (v:=BC) (l:=l) (a:=n) FE bs c;unfold Il kvP;rw [show AV.val (.int .i64 n) = BC n from rfl,this]
 cases Ey l n <;> rfl
theorem ad6 (objs:List Ob) (i:Nat):LV (Hb objs i) (.val (.int .i64 (objs.getD i default).oid)) (.val (.int .i64 (i:Nat))) = Hb objs (i + 1):=Nh (k:=BC) (v:=BC) (l:=OB objs i) (a:=(objs.getD i default).oid) (b:=(i:Int)) FE
theorem UT {P:Program} {kt:TypeId} (hd:P.underlying kt = some (.int .i64)) (objs:List Ob) (i:Nat) (n:Int):GA P kt (Hb objs i) (.val (.int .i64 n)):=Lf (k:=BC) (v:=BC) (l:=OB objs i) hd Ly _ _
theorem Xo (objs:List Ob) (i:Nat):isMap (Hb objs i):=Mh
theorem aah (objs:List Ob) (i:Nat):Na (Hb objs i) = true:=SI fun _=>rfl
theorem ad5 (objs:List Ob) (i:Nat):V7 (Hb objs i) = kvP (OB objs i):=rfl
theorem Yh (n:Nat) (objs:List Ob) (i:Nat):(Hb objs i).under n = true:=Mc n fun _=>rfl
theorem Ai.ON {objs:List Ob} {i:Nat} {b:Ah} {h h':List Ah} (hs:Ai h h'):Ai (Hb objs i :: h) (b :: h'):=Ai.cons (fun _ h=>by cases h) hs
def Kl (ns:List Int):Nat -> Int
 | 0=>0
 | i + 1=>ns.getD i 0
def NX (ns:List Int) (next:Int):Bool:=decide (∀ j,j < ns.length -> Kl ns j < ns.getD j 0) && (decide (Kl ns ns.length < next) && decide (next <= 1099511627776))
theorem getD_map {α β:Type} (f:α -> β) {l:List α} {i:Nat} (d:α) (e:β) (h:i < l.length):(l.map f).getD i e = f (l.getD i d):=by
 simp [List.getD_eq_getElem?_getD,h]
def HD (ns:List Int) (i:Nat):Prop:=∀ j,j < i -> Kl ns j < ns.getD j 0
theorem Mg (ns:List Int):HD ns 0:=fun j h=>absurd h (Nat.not_lt_zero j)
theorem LU {ns:List Int} {i:Nat} (h:HD ns i) (hi:Kl ns i < ns.getD i 0):HD ns (i + 1):=fun j hj=>by
 rcases Nat.lt_or_eq_of_le (Nat.le_of_lt_succ hj) with h' | h'
 ·exact h j h'
 ·rw [h']; exact hi
theorem I8 {ns:List Int} {i:Nat} (h:HD ns i) (hi:ns.length <= i) (next:Int):NX ns next = (decide (Kl ns ns.length < next) && decide (next <= 1099511627776)):=by
 unfold NX;rw [decide_eq_true (fun j hj=>h j (by omega)),Bool.true_and]
theorem NB {ns:List Int} {i:Nat} (hi:i < ns.length) (h:ns.getD i 0 <= Kl ns i) (next:Int):NX ns next = false:=by
 unfold NX;rw [decide_eq_false (fun hh=>by have:=hh i hi; omega),Bool.false_and]
end Go.PM

namespace Go.Proofs.Tryz
open Go.PM
theorem QU (l:List (Int × Int)) (n:Int) (bs:List Nat) (c:Nat):GA prog 3 (.map (kvP l) bs c) (.val (.int .i64 n)):=YA underlying3 l n bs c
theorem Ot (objs:List Ob) (i:Nat) (n:Int):GA prog 3 (Hb objs i) (.val (.int .i64 n)):=UT underlying3 objs i n
attribute [go_sem] QU Ot aaC acG ad6 Xo aah ad5 Yh Option.isSome_none Option.isSome_some
def Vh (w:Wd) (n:Int):AV:=match Bi w n with
 | some k=>.cptr (Du (w.objs.getD k.toNat default)).cells
 | none=>.val (.pointer none)
section
attribute [local go_sem] DI ntmps97
theorem c97 (w:Wd) (n:Int):Af prog 97 [DI w,.val (.int .i64 n)] (· = Vh w n):=by
 unfold Vh
 cases h:Bi w n with
 | none =>
  have h':Ey (VD w.objs) n = none:=h;refine Ag.intro func97 (by decide) rfl (D5 h' ?_);refine Aa.Ad (Z1 h' ?_);refine Aa.Ad (Z1 h' ?_);refine Ao ?_;refine Aa.seq ?_;refine Aa.Ad (Z1 h' ?_);refine Aa.Ar rfl ?_;refine Aa.Ad (Z1 h' ?_);refine Aa.ret (Z1 h' ?_);exact Ae rfl (Z1 h' trivial)
 | some k =>
  obtain ⟨j,rfl,hj,_⟩:=Fe h;have h':Ey (VD w.objs) n = some (j:Int):=h;refine Ag.intro func97 (by decide) rfl (D5 h' ?_);refine Aa.Ad (Z1 h' ?_);refine Aa.Ad (Z1 h' ?_);refine Ao ?_;refine Aa.seq ?_;refine Aa.Ad (Z1 h' ?_);refine Aa.Ax rfl ?_;refine Aa.skip (Z1 h' ?_);refine Aa.Ad (Z1 h' ?_);refine Ao (Ao (Ao (Ao ?_)));simp -implicitDefEqProofs (dsimp:=false) (disch:=omega) only [i64_in,gd];refine Z1 h' ?_;refine Aa.ret (Z1 h' ?_);exact Ae rfl (Z1 h' trivial)
end
section
attribute [local go_sem] DI ntmps67
theorem c67 (w:Wd) (n:Int):Af prog 67 [DI w,.val (.int .i64 n)] (· = match Bi w n with | some k=>.tup [Du (w.objs.getD k.toNat default),.val (.bool true)] | none=>.tup [Du default,.val (.bool false)]):=by
 refine Ag.I7 ?_
 cases h:Bi w n with
 | none =>
  have h':Ey (VD w.objs) n = none:=h;refine Ag.intro func67 (by decide) rfl (D5 h' ?_);refine Aa.Ad (Z1 h' ?_);refine Aa.Ad (Z1 h' ?_);refine Ao ?_;refine Aa.seq ?_;refine Aa.Ad (Z1 h' ?_);refine Aa.Ar rfl ?_;refine Aa.Ad (Z1 h' ?_);refine Aa.ret (Z1 h' ?_);refine Ae rfl ?_;trivial
 | some k =>
  obtain ⟨j,rfl,hj,_⟩:=Fe h;have h':Ey (VD w.objs) n = some (j:Int):=h;refine Ag.intro func67 (by decide) rfl (D5 h' ?_);refine Aa.Ad (Z1 h' ?_);refine Aa.Ad (Z1 h' ?_);refine Ao ?_;refine Aa.seq ?_;refine Aa.Ad (Z1 h' ?_);refine Aa.Ax rfl ?_;refine Aa.skip (Z1 h' ?_);refine Aa.Ad (Z1 h' ?_);refine Ao (Ao (Ao (Ao ?_)));simp -implicitDefEqProofs (dsimp:=false) (disch:=omega) only [i64_in,gd];refine Z1 h' ?_;refine Aa.ret (Z1 h' ?_);refine Ae rfl ?_;trivial
end
section
attribute [local go_sem] C2 JV ntmps51
theorem c51 (w:Wd) (hw:w.objs.length <= 1000000000):Af prog 51 [C2 w] (· = DI w):=by
 refine Ag.res ?_;refine Ag.intro func51 (by decide) rfl (Bj ?_);refine Aa.Ad (Z0 ?_);refine Aa.BQ [(1,.free),(0,.read),(2,.read),(3,.read),(4,.upd),(5,.free),(6,.upd),(7,.free)] mixed (by kernel_rfl) (Z0 ?_);refine Ao ?_;refine And.intro (by trivial) ?_;refine And.intro (by (repeat first | exact Ai.refl _ | exact Ai.nil _ | refine Ai.same ?_ | refine Ai.row ?_ | refine Ai.ON ?_ | refine Ai.F8 ?_ | refine Ai.F9 ?_)) ?_;refine And.intro (by (repeat first | exact Ai.refl _ | exact Ai.nil _ | refine Ai.same ?_ | refine Ai.row ?_ | refine Ai.ON ?_ | refine Ai.F8 ?_ | refine Ai.F9 ?_)) ?_;refine Aa.seq ?_;refine Aa.Ad (Z0 ?_);refine Ao ?_;refine Aa.block ?_;refine Aa.A0 (fun i:Nat=>[(16,.val (.int .i64 (i:Nat)))]) [15,14,3] (fun i:Nat=>[.dead,Hb w.objs i,.cells [.sl false (OZ w.objs),.sl false (Od w.acts),.sl false (LQ w.codes),.val (.int .i64 w.nobj),.val (.int .i64 w.nact),.mp 1]]) (fun i:Nat=>i <= w.objs.length) (fun i:Nat=>w.objs.length - i) (0) ?_ rfl ?_ ?_;omega;refine ⟨rfl,?_,?_,rfl,?_⟩;refine C1 ?_;trivial;refine C1 ?_;constructor;exact .inr ⟨rfl,rfl⟩;trivial;exact C1 trivial;rintro i hi;refine Z0 ?_;refine Aa.Ad (Z0 ?_);refine Aa.seq (Aa.cond rfl (fun g1=>?_) (fun g1=>?_));have d1:=An g1;refine Aa.skip (Z1 g1 ?_);refine Aa.seq (Aa.block ?_);refine Aa.Ad (Z1 g1 ?_);refine Ao ?_;refine And.intro (by assumption) ?_;simp -implicitDefEqProofs (dsimp:=false) (disch:=omega) only [i64_in,gd];refine Z1 g1 ?_;refine Aa.BS [(0,.free),(1,.free),(2,.free),(4,.free),(6,.free),(3,.read),(5,.read),(7,.upd)] mixed (by kernel_rfl) (Z1 g1 ?_)
 refine Ao (Ao ?_);refine And.intro (by (repeat first | exact Ai.refl _ | exact Ai.nil _ | refine Ai.same ?_ | refine Ai.row ?_ | refine Ai.ON ?_ | refine Ai.F8 ?_ | refine Ai.F9 ?_)) ?_;refine Aa.region (Z1 g1 ?_);refine Bd ?_;refine ⟨i + 1,?_⟩;constructor;omega;constructor;omega;refine ⟨rfl,?_,?_,rfl,?_⟩;refine Mr g1 ?_;trivial;refine Mr g1 ?_;trivial;exact Mr g1 trivial;have d1:=Aj g1;refine Aa.exit (Z1 g1 ?_);refine Aa.Ad (Z1 g1 ?_);refine Aa.ret (Z1 g1 ?_);refine Ae rfl ?_;rotate_left
 ·obtain rfl:i = w.objs.length:=by omega
  rfl
end
end Go.Proofs.Tryz

namespace Go.PM
theorem adH (l:List UInt8):AV.val (.string (ByteArray.mk l.toArray)) = .val (.string (Ak l)):=rfl
theorem BH (l:List UInt8):(Ak l).size = l.length:=by show l.toArray.size = _; simp
theorem Rw (l:List UInt8) (n:Int):Xt (Ak l) n = ((l.getD n.toNat 0).toNat:Int):=rfl
theorem Ij (a b:List UInt8):Ak a ++ Ak b = Ak (a ++ b):=by
 apply ByteArray.ext;simp [Ak]
theorem R8 (a:ByteArray) (i j:Nat):(a.extract i j).data = a.data.extract i j:=by simp
theorem Ps (l:List UInt8) (i j:Nat):(Ak l).extract i j = Ak ((l.take j).drop i):=by
 apply ByteArray.ext;rw [R8];simp [Ak,List.extract_eq_take_drop,List.drop_take]
end Go.PM

namespace Go.Proofs.Tryz
open Go.PM
attribute [go_sem] adH BH Rw Ij Ps WV List.drop_zero
def JE (s p:List UInt8):Bool:=s.take p.length == p
def Dh (s p:List UInt8):Bool:=s.drop (s.length - p.length) == p
theorem OG {s p:List UInt8} (h:s.length < p.length):JE s p = false:=by
 unfold JE;rw [List.take_of_length_le (by omega)];exact beq_false_of_ne fun e=>by rw [e] at h; omega
theorem It {s p:List UInt8} (h:s.length < p.length):Dh s p = false:=by
 unfold Dh;rw [show s.length - p.length = 0 by omega,List.drop_zero];exact beq_false_of_ne fun e=>by rw [e] at h; omega
section
attribute [local go_sem] ntmps136
theorem ajo (b:UInt8):Af prog 136 [b8 b] (· = .val (.bool (decide ((b.toNat:Int) < 32) || decide ((b.toNat:Int) > 126)))):=by
 refine Ag.intro func136 (by decide) rfl (Bj ?_);refine Aa.Ad (Z0 ?_);refine Aa.Ad (Z0 ?_);refine Ap (fun g1=>?_) (fun g1=>?_);have d1:=An g1;refine Z1 g1 ?_;refine Aa.ret (Z1 g1 ?_);refine Ae rfl ?_;trivial;have d1:=Aj g1;refine Z1 g1 ?_;refine Aa.ret (Z1 g1 ?_);refine Ae rfl ?_;trivial
end
section
attribute [local go_sem] ntmps139
theorem c139 (s p:List UInt8):Af prog 139 [.val (.string (Ak s)),.val (.string (Ak p))] (· = .val (.bool (JE s p))):=by
 rcases Nat.lt_or_ge s.length p.length with h | h
 ·have h1:=OG h
  refine Ag.intro func139 (by decide) rfl (D5 h1 ?_);refine Aa.Ad (Z1 h1 ?_);refine Aa.Ad (Z1 h1 ?_);refine Ap (fun g2=>?_) (fun g2=>?_);have d2:=An g2
  (exfalso; omega)
  have d2:=Aj g2;refine Z2 h1 g2 ?_;refine Aa.ret (Z2 h1 g2 ?_);exact Ae rfl (Z2 h1 g2 trivial)
 ·refine Ag.intro func139 (by decide) rfl (Bj ?_)
  refine Aa.Ad (Z0 ?_);refine Aa.Ad (Z0 ?_);refine Ap (fun g1=>?_) (fun g1=>?_);have d1:=An g1;refine Z1 g1 ?_;refine Ao ?_;refine And.intro (by assumption) ?_;refine Aa.ret (Z1 g1 ?_);refine Ae rfl ?_;trivial;have d1:=Aj g1
  (exfalso; omega)
end
section
attribute [local go_sem] List.take_length ntmps142
theorem adg (s p:List UInt8) (hs:s.length <= 1000000000) (hp:p.length <= 1000000000):Af prog 142 [.val (.string (Ak s)),.val (.string (Ak p))] (· = .val (.bool (Dh s p))):=by
 rcases Nat.lt_or_ge s.length p.length with h | h
 ·have h1:=It h
  refine Ag.intro func142 (by decide) rfl (D5 h1 ?_);refine Aa.Ad (Z1 h1 ?_);refine Aa.Ad (Z1 h1 ?_);refine Ap (fun g2=>?_) (fun g2=>?_);have d2:=An g2
  (exfalso; omega)
  have d2:=Aj g2;refine Z2 h1 g2 ?_;refine Aa.ret (Z2 h1 g2 ?_);exact Ae rfl (Z2 h1 g2 trivial)
 ·have h1:((s.length:Int) - (p.length:Int)).toNat = s.length - p.length:=by omega
  refine Ag.intro func142 (by decide) rfl (D5 h1 ?_);refine Aa.Ad (Z1 h1 ?_);refine Aa.Ad (Z1 h1 ?_);refine Ap (fun g2=>?_) (fun g2=>?_);have d2:=An g2;refine Z2 h1 g2 ?_;simp -implicitDefEqProofs (dsimp:=false) (disch:=omega) only [i64_in,gd];refine Z2 h1 g2 ?_;refine Ao (Ao (Ao ?_));refine Aa.ret (Z2 h1 g2 ?_);refine Ae rfl ?_;trivial;have d2:=Aj g2
  (exfalso; omega)
end
section
attribute [local go_sem] Cy ntmps171
theorem c171 (v:Vl):Af prog 171 [Cy v] (· = .val (.bool (v.k == 1 && (v.t == [] && (decide (v.n >= 0) && decide (v.n <= 1099511627776)))))):=by
 refine Ag.intro func171 (by decide) rfl (Bj ?_);refine Aa.Ad (Z0 ?_);refine Aa.Ad (Z0 ?_);refine Ao ?_;refine Ap (fun g1=>?_) (fun g1=>?_);have d1:=AB g1;refine Z1 g1 ?_;refine Ao ?_;refine Ap (fun g2=>?_) (fun g2=>?_);refine Z2 g1 g2 ?_;refine Ao ?_;refine Ap (fun g3=>?_) (fun g3=>?_);have d3:=An g3;refine Z3 g1 g2 g3 ?_;refine Ao ?_;refine Aa.ret (Z3 g1 g2 g3 ?_);exact Ae rfl (Z3 g1 g2 g3 trivial);have d3:=Aj g3;refine Z3 g1 g2 g3 ?_;refine Aa.ret (Z3 g1 g2 g3 ?_);exact Ae rfl (Z3 g1 g2 g3 trivial);refine Z2 g1 g2 ?_;refine Aa.ret (Z2 g1 g2 ?_);exact Ae rfl (Z2 g1 g2 trivial);have d1:=Aq g1;refine Z1 g1 ?_;refine Aa.ret (Z1 g1 ?_);exact Ae rfl (Z1 g1 trivial)
end
end Go.Proofs.Tryz

namespace Go.Proofs.Tryz
open Go.PM
section
attribute [local go_sem] C2 JV ntmps21
theorem c21 (w:Wd) (n:Int) (hw:w.objs.length <= 1000000000):Af prog 21 [C2 w,.val (.int .i64 n)] (· = .val (.int .i64 (FX (fun o=>o.oid == n) w.objs))):=by
 refine Ag.intro func21 (by decide) rfl (Bj ?_);refine Aa.Ad (Z0 ?_);refine Aa.seq ?_;refine Aa.Ad (Z0 ?_);refine Aa.block ?_;refine Aa.A0 (fun i:Nat=>[(5,.val (.int .i64 (i:Nat)))]) [2,1] (fun i:Nat=>[.cells [.sl false (OZ w.objs),.sl false (Od w.acts),.sl false (LQ w.codes),.val (.int .i64 w.nobj),.val (.int .i64 w.nact)]]) (fun i:Nat=>i <= w.objs.length /\ ∀ j,j < i -> (fun o:Ob=>o.oid == n) (w.objs.getD j default) = false) (fun i:Nat=>w.objs.length - i) (0) ?_ rfl ?_ ?_;refine ⟨?_,?_⟩ <;> omega
 refine ⟨rfl,?_,?_,rfl,?_⟩;refine C1 ?_;trivial;exact C1 trivial;exact C1 trivial;rintro i hj;obtain ⟨hi,hn⟩:=hj;refine Z0 ?_;refine Aa.seq ?_;refine Aa.Ad (Z0 ?_);refine Ao ?_;refine Aa.cond rfl (fun g1=>?_) (fun g1=>?_);have d1:=An g1;refine Aa.skip (Z1 g1 ?_);refine Aa.seq (Aa.block ?_);refine Aa.Ad (Z1 g1 ?_);refine Ao (Ao ?_);refine And.intro (by assumption) ?_;simp -implicitDefEqProofs (dsimp:=false) (disch:=omega) only [i64_in,gd];refine Z1 g1 ?_;refine Ao ?_;refine Aa.cond rfl (fun g2=>?_) (fun g2=>?_);have d2:=AB g2;refine Aa.Ad (Z2 g1 g2 ?_);refine Aa.ret (Z2 g1 g2 ?_);refine Ae rfl ?_;exact Fl (by assumption) (by assumption) (by omega);have d2:=Aq g2;refine Aa.skip (Z2 g1 g2 ?_);refine Aa.region (Z2 g1 g2 ?_);refine Bd ?_;refine ⟨i + 1,?_⟩;constructor;constructor;omega;rotate_left;constructor;omega;refine ⟨rfl,?_,?_,rfl,?_⟩;refine Cv g1 g2 ?_;trivial;exact Cv g1 g2 trivial;exact Cv g1 g2 trivial;have d1:=Aj g1;refine Aa.exit (Z1 g1 ?_);refine Aa.Ad (Z1 g1 ?_);refine Aa.ret (Z1 g1 ?_);refine Ae rfl ?_;exact Ff (by assumption) (by omega)
 ·exact Ed (p:=fun o:Ob=>o.oid == n) hn g2
end
section
attribute [local go_sem] D9 ntmps92
theorem c92 (l:List Ob) (next:Int) (hl:l.length <= 1000000000):Af prog 92 [.sl false (OZ l),.fn 93 [],.val (.int .i64 next)] (· = .val (.bool (NX (l.map (·.oid)) next))):=by
 have e0:(l.map (·.oid)).length = l.length:=by simp
 refine Ag.intro func92 (by decide) rfl (Bj ?_);refine Aa.Ad (Z0 ?_);refine Aa.Ad (Z0 ?_);refine Aa.seq ?_;refine Aa.Ad (Z0 ?_);refine Aa.block ?_;refine Aa.A0 (fun i:Nat=>[(13,.val (.int .i64 (i:Nat))),(7,.val (.int .i64 (Kl (l.map (·.oid)) i)))]) [12,11,1,2] (fun i:Nat=>[]) (fun i:Nat=>i <= l.length /\ HD (l.map (·.oid)) i) (fun i:Nat=>l.length - i) (0) ?_ rfl ?_ ?_;rotate_left;refine ⟨rfl,?_,?_,rfl,?_⟩;refine C1 ?_;trivial;exact C1 trivial;exact C1 trivial;rintro i hj;obtain ⟨hi,hn⟩:=hj;have f1:i < l.length -> Kl (l.map (·.oid)) (i + 1) = (l.getD i default).oid:=fun h=>getD_map _ _ _ h;refine Z0 ?_;refine Aa.Ad (Z0 ?_);refine Aa.seq (Aa.cond rfl (fun g1=>?_) (fun g1=>?_));have d1:=An g1;refine Aa.skip (Z1 g1 ?_);refine Aa.seq (Aa.block ?_);refine Aa.Ad (Z1 g1 ?_);refine Ao ?_;refine And.intro (by assumption) ?_;simp -implicitDefEqProofs (dsimp:=false) (disch:=omega) only [i64_in,gd];refine Z1 g1 ?_;refine Aa.Ad (Z1 g1 ?_);refine Af.eq (c93 _) rfl (Z1 g1 ?_);refine Aa.seq ?_;refine Aa.Ad (Z1 g1 ?_);refine Aa.cond rfl (fun g3=>?_) (fun g3=>?_);have d3:=An g3;refine Aa.Ad (Z2 g1 g3 ?_);refine Aa.ret (Z2 g1 g3 ?_);refine Ae rfl ?_;rotate_left;have d3:=Aj g3;refine Aa.skip (Z2 g1 g3 ?_);refine Aa.region (Z2 g1 g3 ?_);refine Aa.region (Z2 g1 g3 ?_);refine Bd ?_;refine ⟨i + 1,?_⟩;constructor;constructor;omega;rotate_left;constructor;omega;refine ⟨rfl,?_,?_,rfl,?_⟩;refine Cv g1 g3 ?_;rw [f1 (by omega)];exact Cv g1 g3 trivial
 exact Cv g1 g3 trivial;have d1:=Aj g1;refine Aa.exit (Z1 g1 ?_);refine Aa.Ad (Z1 g1 ?_);refine Ap (fun g4=>?_) (fun g4=>?_);have d4:=An g4;refine Z2 g1 g4 ?_;refine Aa.ret (Z2 g1 g4 ?_);refine Ae rfl ?_;rotate_left;have d4:=Aj g4;refine Z2 g1 g4 ?_;refine Aa.ret (Z2 g1 g4 ?_);refine Ae rfl ?_;rotate_left
 ·exact ⟨Nat.zero_le _,Mg _⟩
 ·rw [NB (i:=i) (by omega) (by have:=f1 (by omega); have h2:=An g3; rw [<- this] at h2; exact h2)]
 ·exact LU hn (by have:=f1 (by omega); have h2:=Aj g3; rw [<- this] at h2; exact Int.not_le.1 h2)
 ·have hil:i = (l.map (·.oid)).length:=by omega
  subst hil;rw [I8 hn (Nat.le_refl _),g4,Bool.true_and]
 ·have hil:i = (l.map (·.oid)).length:=by omega
  subst hil;rw [I8 hn (Nat.le_refl _),g4,Bool.false_and]
end
section
attribute [local go_sem] En ntmps94
theorem c94 (l:List Ac) (next:Int) (hl:l.length <= 1000000000):Af prog 94 [.sl false (Od l),.fn 95 [],.val (.int .i64 next)] (· = .val (.bool (NX (l.map (·.aid)) next))):=by
 have e0:(l.map (·.aid)).length = l.length:=by simp
 refine Ag.intro func94 (by decide) rfl (Bj ?_);refine Aa.Ad (Z0 ?_);refine Aa.Ad (Z0 ?_);refine Aa.seq ?_;refine Aa.Ad (Z0 ?_);refine Aa.block ?_;refine Aa.A0 (fun i:Nat=>[(13,.val (.int .i64 (i:Nat))),(7,.val (.int .i64 (Kl (l.map (·.aid)) i)))]) [12,11,1,2] (fun i:Nat=>[]) (fun i:Nat=>i <= l.length /\ HD (l.map (·.aid)) i) (fun i:Nat=>l.length - i) (0) ?_ rfl ?_ ?_;rotate_left;refine ⟨rfl,?_,?_,rfl,?_⟩;refine C1 ?_;trivial;exact C1 trivial;exact C1 trivial;rintro i hj;obtain ⟨hi,hn⟩:=hj;have f1:i < l.length -> Kl (l.map (·.aid)) (i + 1) = (l.getD i default).aid:=fun h=>getD_map _ _ _ h;refine Z0 ?_;refine Aa.Ad (Z0 ?_);refine Aa.seq (Aa.cond rfl (fun g1=>?_) (fun g1=>?_));have d1:=An g1;refine Aa.skip (Z1 g1 ?_);refine Aa.seq (Aa.block ?_);refine Aa.Ad (Z1 g1 ?_);refine Ao ?_;refine And.intro (by assumption) ?_;simp -implicitDefEqProofs (dsimp:=false) (disch:=omega) only [i64_in,gd];refine Z1 g1 ?_;refine Aa.Ad (Z1 g1 ?_);refine Af.eq (c95 _) rfl (Z1 g1 ?_);refine Aa.seq ?_;refine Aa.Ad (Z1 g1 ?_);refine Aa.cond rfl (fun g3=>?_) (fun g3=>?_);have d3:=An g3;refine Aa.Ad (Z2 g1 g3 ?_);refine Aa.ret (Z2 g1 g3 ?_);refine Ae rfl ?_;rotate_left;have d3:=Aj g3;refine Aa.skip (Z2 g1 g3 ?_);refine Aa.region (Z2 g1 g3 ?_);refine Aa.region (Z2 g1 g3 ?_);refine Bd ?_;refine ⟨i + 1,?_⟩;constructor;constructor;omega;rotate_left;constructor;omega;refine ⟨rfl,?_,?_,rfl,?_⟩;refine Cv g1 g3 ?_;rw [f1 (by omega)];exact Cv g1 g3 trivial
 exact Cv g1 g3 trivial;have d1:=Aj g1;refine Aa.exit (Z1 g1 ?_);refine Aa.Ad (Z1 g1 ?_);refine Ap (fun g4=>?_) (fun g4=>?_);have d4:=An g4;refine Z2 g1 g4 ?_;refine Aa.ret (Z2 g1 g4 ?_);refine Ae rfl ?_;rotate_left;have d4:=Aj g4;refine Z2 g1 g4 ?_;refine Aa.ret (Z2 g1 g4 ?_);refine Ae rfl ?_;rotate_left
 ·exact ⟨Nat.zero_le _,Mg _⟩
 ·rw [NB (i:=i) (by omega) (by have:=f1 (by omega); have h2:=An g3; rw [<- this] at h2; exact h2)]
 ·exact LU hn (by have:=f1 (by omega); have h2:=Aj g3; rw [<- this] at h2; exact Int.not_le.1 h2)
 ·have hil:i = (l.map (·.aid)).length:=by omega
  subst hil;rw [I8 hn (Nat.le_refl _),g4,Bool.true_and]
 ·have hil:i = (l.map (·.aid)).length:=by omega
  subst hil;rw [I8 hn (Nat.le_refl _),g4,Bool.false_and]
end
section
attribute [local go_sem] ntmps243
theorem agJ (n:Int):Af prog 243 [.val (.int .i64 n)] (· = .val (.bool false)):=by
 have r4:(n != n) = false:=by simp
 refine Ag.intro func243 (by decide) rfl (D5 r4 ?_);refine Aa.Ad (Z1 r4 ?_);refine Aa.Ad (Z1 r4 ?_);refine Aa.ret (Z1 r4 ?_);exact Ae rfl (Z1 r4 trivial)
end
def GZ (a b:Int):Int:=if decide (a < b) = true then -1 else if decide (a > b) = true then 1 else 0
section
attribute [local go_sem] ntmps216
theorem aht (a b:Int):Af prog 216 [.val (.int .i64 a),.val (.int .i64 b)] (· = .val (.int .i64 (GZ a b))):=by
 refine Ag.intro func216 (by decide) rfl (Bj ?_);refine Aa.Ad (Z0 ?_);refine Aa.Ad (Z0 ?_);refine Af.eq (agJ _) rfl (Z0 ?_);refine Aa.Ad (Z0 ?_);refine Af.eq (agJ _) rfl (Z0 ?_);refine Aa.seq ?_;refine Aa.Ad (Z0 ?_);refine Aa.Ax rfl ?_;refine Aa.skip (Z0 ?_);refine Aa.seq ?_;refine Aa.Ad (Z0 ?_);refine Aa.Ax rfl ?_;refine Aa.skip (Z0 ?_);refine Aa.seq ?_;refine Aa.Ad (Z0 ?_);refine Aa.cond rfl (fun g3=>?_) (fun g3=>?_);have d3:=An g3;refine Aa.Ad (Z1 g3 ?_);refine Aa.ret (Z1 g3 ?_);refine Ae rfl ?_;simp only [GZ,g3,bo,↓reduceIte];have d3:=Aj g3;refine Aa.skip (Z1 g3 ?_);refine Aa.seq ?_;refine Aa.Ad (Z1 g3 ?_);refine Aa.cond rfl (fun g4=>?_) (fun g4=>?_);have d4:=An g4;refine Aa.Ad (Z2 g3 g4 ?_);refine Aa.ret (Z2 g3 g4 ?_);refine Ae rfl ?_;simp only [GZ,g3,g4,bo,↓reduceIte];have d4:=Aj g4;refine Aa.skip (Z2 g3 g4 ?_);refine Aa.Ad (Z2 g3 g4 ?_);refine Aa.ret (Z2 g3 g4 ?_);refine Ae rfl ?_;simp only [GZ,g3,g4,bo,↓reduceIte]
end
section
attribute [local go_sem] NK ntmps215
theorem agY (a:Ac) (n:Int):Af prog 215 [NK a,.val (.int .i64 n)] (· = .val (.int .i64 (GZ a.aid n))):=by
 refine Ag.intro func215 (by decide) rfl (Bj ?_);refine Aa.Ad (Z0 ?_);refine Aa.Ad (Z0 ?_);refine Ao ?_;refine Af.eq (aht _ _) rfl (Z0 ?_);refine Aa.ret (Z0 ?_);exact Ae rfl (Z0 trivial)
end
end Go.Proofs.Tryz

namespace Go.Proofs.Tryz
open Go.PM
def AH (n:Nat) (i:Int):Bool:=decide (i >= 0) && decide (i < (n:Nat))
section
attribute [local go_sem] Cl ntmps242
theorem agu (l:List Cd) (i:Int):Af prog 242 [.sl false (LQ l),.val (.int .i64 i)] (· = .val (.bool (AH l.length i))):=by
 refine Ag.intro func242 (by decide) rfl (Bj ?_);refine Aa.Ad (Z0 ?_);refine Aa.Ad (Z0 ?_);refine Ap (fun g1=>?_) (fun g1=>?_);have d1:=An g1;refine Z1 g1 ?_;refine Aa.ret (Z1 g1 ?_);refine Ae rfl ?_;simp only [AH,Bool.true_and,Bool.false_and,g1,bo,↓reduceIte];have d1:=Aj g1;refine Z1 g1 ?_;refine Aa.ret (Z1 g1 ?_);refine Ae rfl ?_;simp only [AH,Bool.true_and,Bool.false_and,g1,bo,↓reduceIte]
end
section
attribute [local go_sem] B1 ntmps200
theorem aif (l:List Vl) (i:Int):Af prog 200 [.sl false (Pe l),.val (.int .i64 i)] (· = .val (.bool (AH l.length i))):=by
 refine Ag.intro func200 (by decide) rfl (Bj ?_);refine Aa.Ad (Z0 ?_);refine Aa.Ad (Z0 ?_);refine Ap (fun g1=>?_) (fun g1=>?_);have d1:=An g1;refine Z1 g1 ?_;refine Aa.ret (Z1 g1 ?_);refine Ae rfl ?_;simp only [AH,Bool.true_and,Bool.false_and,g1,bo,↓reduceIte];have d1:=Aj g1;refine Z1 g1 ?_;refine Aa.ret (Z1 g1 ?_);refine Ae rfl ?_;simp only [AH,Bool.true_and,Bool.false_and,g1,bo,↓reduceIte]
end
section
attribute [local go_sem] Ce ntmps241
theorem ZL (l:List (List UInt8)) (i:Int):Af prog 241 [.sl false (strs l),.val (.int .i64 i)] (· = .val (.bool (AH l.length i))):=by
 refine Ag.intro func241 (by decide) rfl (Bj ?_);refine Aa.Ad (Z0 ?_);refine Aa.Ad (Z0 ?_);refine Ap (fun g1=>?_) (fun g1=>?_);have d1:=An g1;refine Z1 g1 ?_;refine Aa.ret (Z1 g1 ?_);refine Ae rfl ?_;simp only [AH,Bool.true_and,Bool.false_and,g1,bo,↓reduceIte];have d1:=Aj g1;refine Z1 g1 ?_;refine Aa.ret (Z1 g1 ?_);refine Ae rfl ?_;simp only [AH,Bool.true_and,Bool.false_and,g1,bo,↓reduceIte]
end
section
attribute [local go_sem] Cx ntmps197
theorem agn (x:Hm):Af prog 197 [Cx x] (· = .val (.int .i64 x.b)):=by
 refine Ag.intro func197 (by decide) rfl (Bj ?_);refine Aa.Ad (Z0 ?_);refine Aa.Ad (Z0 ?_);refine Ao ?_;refine Aa.ret (Z0 ?_);exact Ae rfl (Z0 trivial)
end
section
attribute [local go_sem] Cx ntmps198
theorem c198 (x:Hm):Af prog 198 [Cx x] (· = .val (.int .i64 0)):=by
 refine Ag.intro func198 (by decide) rfl (Bj ?_);refine Aa.Ad (Z0 ?_);refine Aa.Ad (Z0 ?_);refine Aa.ret (Z0 ?_);exact Ae rfl (Z0 trivial)
end
section
attribute [local go_sem] Cx ntmps211
theorem ac0 (x:Hm):Af prog 211 [Cx x] (· = .val (.int .i64 1)):=by
 refine Ag.intro func211 (by decide) rfl (Bj ?_);refine Aa.Ad (Z0 ?_);refine Aa.Ad (Z0 ?_);refine Aa.ret (Z0 ?_);exact Ae rfl (Z0 trivial)
end
section
attribute [local go_sem] Cx ntmps202
theorem aiE (x:Hm) (h:0 <= x.b /\ x.b <= 1000000):Af prog 202 [Cx x] (· = .val (.int .i64 (x.b + 1))):=by
 refine Ag.intro func202 (by decide) rfl (Bj ?_);refine Aa.Ad (Z0 ?_);refine Aa.Ad (Z0 ?_);refine Ao ?_;refine Aa.ret (Z0 ?_);exact Ae rfl (Bd trivial)
end
section
attribute [local go_sem] Cx ntmps207
theorem ajc (x:Hm) (h:0 <= x.b /\ x.b <= 1000000) (h1:0 <= x.c /\ x.c <= 1000000):Af prog 207 [Cx x] (· = .val (.int .i64 (x.b + x.c + 1))):=by
 refine Ag.intro func207 (by decide) rfl (Bj ?_);refine Aa.Ad (Z0 ?_);refine Aa.Ad (Z0 ?_);refine Ao (Ao ?_);refine Aa.ret (Z0 ?_);exact Ae rfl (Bd trivial)
end
def LP (x:Hm):Bool:=(x.a == 0 && x.b == 0) && x.c == 0
section
attribute [local go_sem] Cx ntmps201
theorem c201 (j:AV) (x:Hm):Af prog 201 [j,Cx x] (· = .val (.bool (LP x))):=by
 refine Ag.intro func201 (by decide) rfl (Bj ?_);refine Aa.Ad (Z0 ?_);refine Aa.Ad (Z0 ?_);refine Ao ?_;refine Ap (fun g1=>?_) (fun g1=>?_);have d1:=AB g1;refine Z1 g1 ?_;refine Ao ?_;refine Ap (fun g2=>?_) (fun g2=>?_);have d2:=AB g2;refine Z2 g1 g2 ?_;refine Ao ?_;refine Aa.ret (Z2 g1 g2 ?_);refine Ae rfl ?_;simp only [LP,Bool.true_and,Bool.false_and,g1,g2,bo,↓reduceIte];have d2:=Aq g2;refine Z2 g1 g2 ?_;refine Aa.ret (Z2 g1 g2 ?_);refine Ae rfl ?_;simp only [LP,Bool.true_and,Bool.false_and,g1,g2,bo,↓reduceIte];have d1:=Aq g1;refine Z1 g1 ?_;refine Aa.ret (Z1 g1 ?_);refine Ae rfl ?_;simp only [LP,Bool.true_and,Bool.false_and,g1,bo,↓reduceIte]
end
section
attribute [local go_sem] BO ntmps273
theorem adV (l:List Int):Af prog 273 [.sl false (is l)] (· = .val (.bool ((l.length:Int) == 0))):=by
 refine Ag.intro func273 (by decide) rfl (Bj ?_);refine Aa.Ad (Z0 ?_);refine Aa.Ad (Z0 ?_);refine Aa.ret (Z0 ?_);exact Ae rfl (Z0 trivial)
end
section
attribute [local go_sem] ntmps246
theorem afQ (a b:Int):Af prog 246 [.val (.int .i64 a),.val (.int .i64 b)] (· = .val (.int .i64 (max a b))):=by
 refine Ag.intro func246 (by decide) rfl (Bj ?_);refine Aa.Ad (Z0 ?_);refine Aa.seq ?_;refine Aa.Ad (Z0 ?_);refine Aa.cond rfl (fun g1=>?_) (fun g1=>?_);have d1:=An g1;refine Aa.Ad (Z1 g1 ?_);refine Aa.ret (Z1 g1 ?_);refine Ae rfl ?_;rotate_left;have d1:=Aj g1;refine Aa.skip (Z1 g1 ?_);refine Aa.Ad (Z1 g1 ?_);refine Aa.ret (Z1 g1 ?_);refine Ae rfl ?_;rotate_left
 ·rw [show max a b = b by have:=of_decide_eq_true g1; omega]
 ·rw [show max a b = a by have:=of_decide_eq_false g1; omega]
end
end Go.Proofs.Tryz

namespace Go.PM
structure VX where
 oid:Int
 slot:Int
 set:Bool
 path:List Int
 deriving DecidableEq,Inhabited
def Bo:List VX -> GS
 | []=>default
 | [a]=>⟨1,a.oid,a.slot,a.path,a.set,0,0,[]⟩
 | a :: b :: _=>⟨2,a.oid,a.slot,a.path,a.set,b.oid,b.slot,b.path⟩
def ED (a b:GS):Bool:=a.kind == b.kind && (a.kind != 1 || (a.holder == b.holder && (a.slot == b.slot && (a.set == b.set))))
structure Jw where
 mt:Int -> Option (Nat × Bool)
 ps:Int -> List (Nat × Int)
abbrev Gx:=List Int × List VX
def E5 (vis:Int -> List Int -> Gx -> Gx) (path:List Int):List (Nat × Int) -> Gx -> Gx
 | [],s=>s
 | p :: l,s=>E5 vis path l (vis p.2 (path ++ [(p.1:Int)]) s)
def D6 (G:Jw):Nat -> Int -> List Int -> Gx -> Gx
 | 0,_,_,s=>s
 | n + 1,oid,path,s =>
  if oid ∈ s.1 then s else
  match G.mt oid with
  | some p=>(s.1 ++ [oid],s.2 ++ [⟨oid,(p.1:Nat),p.2,path⟩])
  | none=>E5 (D6 G n) path (G.ps oid) (s.1 ++ [oid],s.2)
inductive Kb (G:Jw) (S:Int -> Prop):Int -> Prop
 | base {x:Int}:S x -> Kb G S x
 | step {y x:Int} {i:Nat}:Kb G S y -> G.mt y = none -> (i,x) ∈ G.ps y -> Kb G S x
theorem Kb.mono {G:Jw} {S T:Int -> Prop} (h:∀ x,S x -> Kb G T x) {x:Int} (hx:Kb G S x):Kb G T x:=by
 induction hx with
 | base h1=>exact h _ h1
 | step _ h2 h3 ih=>exact .step ih h2 h3
structure O2 (G:Jw) (S:Int -> Prop) (A:List Int) (s:Gx):Prop where
 nodup:s.1.Nodup
 rch:∀ y ∈ s.1,Kb G S y
 good:∀ y ∈ s.1,y ∈ A \/ (G.mt y).isSome = true \/ ∀ p ∈ G.ps y,p.2 ∈ s.1
 hits:s.2.map (·.oid) = s.1.filter fun y=>(G.mt y).isSome
 ok:∀ h ∈ s.2,∃ p,G.mt h.oid = some p /\ h.slot = (p.1:Int) /\ h.set = p.2
def DP (U met:List Int):Nat:=(U.filter fun y=>!decide (y ∈ met)).length
theorem Gb {U a b:List Int} (h:∀ y ∈ a,y ∈ b):DP U b <= DP U a:=by
 unfold DP
 induction U with
 | nil=>simp
 | cons x U ih =>
  by_cases h1:x ∈ b
  ·by_cases h2:x ∈ a <;> simp [h1,h2] <;> omega
  ·have h2:x ∉ a:=fun h2=>h1 (h x h2)
   simp [h1,h2];omega
theorem PI {U a:List Int} {x:Int} (hx:x ∈ U) (ha:x ∉ a):DP U (a ++ [x]) < DP U a:=by
 unfold DP
 induction U with
 | nil=>cases hx
 | cons y U ih =>
  rcases List.mem_cons.1 hx with rfl | h
  ·have:=Gb (U:=U) (a:=a) (b:=a ++ [x]) fun y hy=>List.mem_append_left _ hy
   unfold DP at this;simp [ha];simp at this;omega
  ·have:=ih h
   by_cases h1:y ∈ a
   ·simp [h1]
    simp at this;omega
   ·by_cases h2:y = x
    ·subst h2
     have:=Gb (U:=U) (a:=a) (b:=a ++ [y]) fun z hz=>List.mem_append_left _ hz;unfold DP at this;simp [ha];simp at this;omega
    ·simp [h1,h2]
     simp at this;omega
theorem G8 (U a:List Int):DP U a <= U.length:=List.length_filter_le _ _
structure Step (G:Jw) (S:Int -> Prop) (A:List Int) (s t:Gx):Prop where
 vis:O2 G S A t
 sub:∀ y ∈ s.1,y ∈ t.1
theorem Ht {G:Jw} {U:List Int} {S:Int -> Prop} {A:List Int} {n:Nat} {path:List Int}
  (hv:∀ oid path s,Kb G S oid -> DP U s.1 < n -> O2 G S A s -> Step G S A s (D6 G n oid path s) /\ oid ∈ (D6 G n oid path s).1) :
  ∀ (l:List (Nat × Int)) (s:Gx),(∀ p ∈ l,Kb G S p.2) -> (l ≠ [] -> DP U s.1 < n) -> O2 G S A s ->
   Step G S A s (E5 (D6 G n) path l s) /\ ∀ p ∈ l,p.2 ∈ (E5 (D6 G n) path l s).1
 | [],s,_,_,h=>⟨⟨h,fun _ hy=>hy⟩,fun _ hp=>by cases hp⟩
 | p :: l,s,hp,hf,h=>by
  have h1:=hv p.2 (path ++ [(p.1:Int)]) s (hp p List.mem_cons_self) (hf (by simp)) h;have h2:=Ht (path:=path) hv l _ (fun q hq=>hp q (List.mem_cons_of_mem _ hq)) (fun _=>Nat.lt_of_le_of_lt (Gb h1.1.sub) (hf (by simp))) h1.1.vis;refine ⟨⟨h2.1.vis,fun y hy=>h2.1.sub y (h1.1.sub y hy)⟩,fun q hq=>?_⟩
  rcases List.mem_cons.1 hq with rfl | hq
  ·exact h2.1.sub _ h1.2
  ·exact h2.2 q hq
theorem I2 {G:Jw} {U:List Int} (hU:∀ y,G.ps y ≠ [] -> y ∈ U) {S:Int -> Prop}:∀ (n:Nat) (A:List Int) (oid:Int) (path:List Int) (s:Gx),Kb G S oid -> DP U s.1 < n -> O2 G S A s ->
  Step G S A s (D6 G n oid path s) /\ oid ∈ (D6 G n oid path s).1
 | 0,_,_,_,_,_,hf,_=>absurd hf (Nat.not_lt_zero _)
 | n + 1,A,oid,path,s,hr,hf,h=>by
  unfold D6
  by_cases h1:oid ∈ s.1
  ·rw [if_pos h1]
   exact ⟨⟨h,fun _ hy=>hy⟩,h1⟩
  ·rw [if_neg h1]
   have hn:(s.1 ++ [oid]).Nodup:=by
    rw [List.nodup_append];refine ⟨h.nodup,by simp,fun a ha b hb=>?_⟩;rw [List.mem_singleton.1 hb];exact fun e=>h1 (e ▸ ha)
   have hrc:∀ y ∈ s.1 ++ [oid],Kb G S y:=fun y hy=>by
    rcases List.mem_append.1 hy with hy | hy
    ·exact h.rch y hy
    ·rw [List.mem_singleton.1 hy]; exact hr
   cases hm:G.mt oid with
   | some p =>
    refine ⟨⟨⟨hn,hrc,fun y hy=>?_,?_,fun x hx=>?_⟩,fun y hy=>List.mem_append_left _ hy⟩,List.mem_append_right _ (List.mem_singleton.2 rfl)⟩
    ·rcases List.mem_append.1 hy with hy | hy
     ·rcases h.good y hy with h2 | h2 | h2
      ·exact .inl h2
      ·exact .inr (.inl h2)
      ·exact .inr (.inr fun q hq=>List.mem_append_left _ (h2 q hq))
     ·rw [List.mem_singleton.1 hy,hm]; exact .inr (.inl rfl)
    ·simp [h.hits,hm]
    ·rcases List.mem_append.1 hx with hx | hx
     ·exact h.ok x hx
     ·rw [List.mem_singleton.1 hx]; exact ⟨p,hm,rfl,rfl⟩
   | none =>
    have h2:O2 G S (oid :: A) (s.1 ++ [oid],s.2):=by
     refine ⟨hn,hrc,fun y hy=>?_,?_,h.ok⟩
     ·rcases List.mem_append.1 hy with hy | hy
      ·rcases h.good y hy with h2 | h2 | h2
       ·exact .inl (List.mem_cons_of_mem _ h2)
       ·exact .inr (.inl h2)
       ·exact .inr (.inr fun q hq=>List.mem_append_left _ (h2 q hq))
      ·rw [List.mem_singleton.1 hy]; exact .inl List.mem_cons_self
     ·simp [h.hits,hm]
    have h3:=Ht (U:=U) (path:=path) (I2 hU n (oid :: A)) (G.ps oid) (s.1 ++ [oid],s.2) (fun p hp=>.step hr hm hp) (fun hne=>by
     have:=PI (hU oid hne) h1
     show DP U (s.1 ++ [oid]) < n
     omega) h2
    have h4:=h3.1.sub oid (List.mem_append_right _ (List.mem_singleton.2 rfl));refine ⟨⟨⟨h3.1.vis.nodup,h3.1.vis.rch,fun y hy=>?_,h3.1.vis.hits,h3.1.vis.ok⟩,fun y hy=>h3.1.sub y (List.mem_append_left _ hy)⟩,h4⟩
    rcases h3.1.vis.good y hy with h5 | h5 | h5
    ·rcases List.mem_cons.1 h5 with rfl | h5
     ·exact .inr (.inr h3.2)
     ·exact .inl h5
    ·exact .inr (.inl h5)
    ·exact .inr (.inr h5)
theorem IK (G:Jw) (S:Int -> Prop):O2 G S [] ([],[]):=⟨List.nodup_nil,fun _ h=>(nomatch h),fun _ h=>(nomatch h),rfl,fun _ h=>(nomatch h)⟩
theorem O2.all {G:Jw} {S:Int -> Prop} {s:Gx} (h:O2 G S [] s) (hS:∀ x,S x -> x ∈ s.1) {x:Int} (hx:Kb G S x):x ∈ s.1:=by
 induction hx with
 | base h1=>exact hS _ h1
 | step _ h2 h3 ih =>
  rcases h.good _ ih with h4 | h4 | h4
  ·cases h4
  ·rw [h2] at h4; cases h4
  ·exact h4 _ h3
structure Jg (G:Jw) (S:Int -> Prop) (s:Gx):Prop where
 vis:O2 G S [] s
 met:∀ x,x ∈ s.1 ↔ Kb G S x
theorem O2.done {G:Jw} {S:Int -> Prop} {s:Gx} (h:O2 G S [] s) (hS:∀ x,S x -> x ∈ s.1):Jg G S s:=⟨h,fun x=>⟨h.rch x,h.all hS⟩⟩
theorem QP {G:Jw} {U:List Int} (hU:∀ y,G.ps y ≠ [] -> y ∈ U) (oid:Int) (path:List Int) {n:Nat} (hn:U.length < n):Jg G (· = oid) (D6 G n oid path ([],[])):=by
 have h:=I2 hU (S:=(· = oid)) n [] oid path ([],[]) (.base rfl) (Nat.lt_of_le_of_lt (G8 _ _) hn) (IK G _);exact h.1.vis.done fun x hx=>by rw [hx]; exact h.2
theorem Uq {G:Jw} {U:List Int} (hU:∀ y,G.ps y ≠ [] -> y ∈ U) (l:List (Nat × Int)) (path:List Int) {n:Nat} (hn:U.length < n):Jg G (fun x=>∃ p ∈ l,p.2 = x) (E5 (D6 G n) path l ([],[])):=by
 have h:=Ht (S:=fun x=>∃ p ∈ l,p.2 = x) (path:=path) (I2 hU n []) l ([],[]) (fun p hp=>.base ⟨p,hp,rfl⟩) (fun _=>Nat.lt_of_le_of_lt (G8 _ _) hn) (IK G _);exact h.1.vis.done fun x ⟨p,hp,e⟩=>e ▸ h.2 p hp
theorem Jg.hit {G:Jw} {S:Int -> Prop} {s:Gx} (h:Jg G S s) (x:Int):x ∈ s.2.map (·.oid) ↔ Kb G S x /\ (G.mt x).isSome = true:=by
 rw [h.vis.hits,List.mem_filter,h.met]
theorem Jg.Zb {G:Jw} {S:Int -> Prop} {s:Gx} (h:Jg G S s):(s.2.map (·.oid)).Nodup:=by
 rw [h.vis.hits];exact h.vis.nodup.filter _
theorem C0:∀ {a b:List Int},a.Nodup -> (∀ x ∈ a,x ∈ b) -> a.length <= b.length
 | [],_,_,_=>Nat.zero_le _
 | x :: a,b,ha,h=>by
  obtain ⟨h1,h2⟩:=List.nodup_cons.1 ha;have hx:=h x List.mem_cons_self;have h3:=C0 (b:=b.erase x) h2 fun y hy=>(List.mem_erase_of_ne (fun e:y = x=>h1 (by rw [<- e]; exact hy))).2 (h y (List.mem_cons_of_mem _ hy));rw [List.length_erase_of_mem hx] at h3;have:0 < b.length:=List.length_pos_of_mem hx;simp only [List.length_cons];omega
theorem VS {a b:List Int} (ha:a.Nodup) (hb:b.Nodup) (h:∀ x,x ∈ a ↔ x ∈ b):a.length = b.length :=
 Nat.le_antisymm (C0 ha fun x hx=>(h x).1 hx) (C0 hb fun x hx=>(h x).2 hx)
theorem Ym {G:Jw} {a b:List VX} (ha:(a.map (·.oid)).Nodup) (hb:(b.map (·.oid)).Nodup) (h:∀ x,x ∈ a.map (·.oid) ↔ x ∈ b.map (·.oid))
  (oa:∀ h ∈ a,∃ p,G.mt h.oid = some p /\ h.slot = (p.1:Int) /\ h.set = p.2) (ob:∀ h ∈ b,∃ p,G.mt h.oid = some p /\ h.slot = (p.1:Int) /\ h.set = p.2):ED (Bo a) (Bo b) = true:=by
 have hl:=VS ha hb h;simp only [List.length_map] at hl
 match a,b,hl with
 | [],[],_=>rfl
 | [x],[y],_ =>
  have e:x.oid = y.oid:=by simpa using (h x.oid).1 (by simp)
  obtain ⟨p,p1,p2,p3⟩:=oa x (by simp);obtain ⟨q,q1,q2,q3⟩:=ob y (by simp);rw [e,q1] at p1
  cases p1
  simp [Bo,ED,e,p2,p3,q2,q3]
 | x :: x' :: a,y :: y' :: b,_=>simp [Bo,ED]
theorem Jg.alike {G G':Jw} {S T:Int -> Prop} {s t:Gx} (h:Jg G S s) (k:Jg G' T t) (hm:∀ x,G.mt x = G'.mt x) (hr:∀ x,(G.mt x).isSome = true -> (Kb G S x ↔ Kb G' T x)):ED (Bo s.2) (Bo t.2) = true:=by
 refine Ym (G:=G) h.Zb k.Zb (fun x=>?_) h.vis.ok (fun x hx=>?_)
 ·rw [h.hit,k.hit,<- hm x]
  constructor
  ·rintro ⟨h1,h2⟩; exact ⟨(hr x h2).1 h1,h2⟩
  ·rintro ⟨h1,h2⟩; exact ⟨(hr x h2).2 h1,h2⟩
 ·rw [hm]; exact k.vis.ok x hx
end Go.PM

namespace Go.Proofs.Tryz
open Go.PM
attribute [local irreducible] BM BP Bq Ci AU AO Az
section
attribute [local go_sem] ntmps20
theorem c20 (n:Int):Af prog 20 [.val (.int .i64 n)] (· = Cy ⟨4,n,[]⟩):=by
 refine Ag.intro func20 (by decide) rfl (Bj ?_);refine Aa.Ad (Z0 ?_);refine Aa.Ad (Z0 ?_);refine Aa.ret (Z0 ?_);refine Ae rfl ?_;trivial
end
section
attribute [local go_sem] ntmps85
theorem c85 (n:Int):Af prog 85 [.val (.int .i64 n)] (· = Cy ⟨1,n,[]⟩):=by
 refine Ag.intro func85 (by decide) rfl (Bj ?_);refine Aa.Ad (Z0 ?_);refine Aa.Ad (Z0 ?_);refine Aa.ret (Z0 ?_);refine Ae rfl ?_;trivial
end
section
attribute [local go_sem] Cy ntmps26
theorem c26 (s:List UInt8) (k:Int) (v:Vl):Af prog 26 [.val (.string (Ak s)),.val (.int .i64 k),Cy v] (· = H9 ⟨s,k,v⟩):=by
 refine Ag.intro func26 (by decide) rfl (Bj ?_);refine Aa.Ad (Z0 ?_);refine Aa.Ad (Z0 ?_);refine Aa.ret (Z0 ?_);refine Ae rfl ?_;trivial
end
section
attribute [local go_sem] HG ntmps19
theorem c19 (a b:GS):Af prog 19 [HG a,HG b] (· = .val (.bool (ED a b))):=by
 refine Ag.intro func19 (by decide) rfl (Bj ?_);refine Aa.Ad (Z0 ?_);refine Aa.Ad (Z0 ?_);refine Ao (Ao ?_);refine Ap (fun g1=>?_) (fun g1=>?_);have d1:=AB g1;refine Z1 g1 ?_;refine Ao ?_;refine Ap (fun g2=>?_) (fun g2=>?_);have d2:=BT g2;refine Z2 g1 g2 ?_;refine Aa.ret (Z2 g1 g2 ?_);refine Ae rfl ?_;simp only [ED,g1,g2,bo,↓reduceIte];have d2:=Bt g2;refine Z2 g1 g2 ?_;refine Ao (Ao ?_);refine Ap (fun g3=>?_) (fun g3=>?_);have d3:=AB g3;refine Z3 g1 g2 g3 ?_;refine Ao (Ao ?_);refine Ap (fun g4=>?_) (fun g4=>?_);have d4:=AB g4;refine Z4 g1 g2 g3 g4 ?_;refine Ao (Ao ?_);refine Aa.ret (Z4 g1 g2 g3 g4 ?_);refine Ae rfl ?_;simp only [ED,g1,g2,g3,g4,bo,↓reduceIte];have d4:=Aq g4;refine Z4 g1 g2 g3 g4 ?_;refine Aa.ret (Z4 g1 g2 g3 g4 ?_);refine Ae rfl ?_;simp only [ED,g1,g2,g3,g4,bo,↓reduceIte];have d3:=Aq g3;refine Z3 g1 g2 g3 ?_;refine Aa.ret (Z3 g1 g2 g3 ?_);refine Ae rfl ?_;simp only [ED,g1,g2,g3,bo,↓reduceIte];have d1:=Aq g1;refine Z1 g1 ?_;refine Aa.ret (Z1 g1 ?_);refine Ae rfl ?_;simp only [ED,g1,bo,↓reduceIte]
end
def NP (h:VX):AV:=.agg [.val (.int .i64 h.oid),.val (.int .i64 h.slot),.val (.bool h.set),.sl false (is h.path)]
def HL (l:List VX):List AV:=l.map NP
theorem IQ (l:List VX):(HL l).length = l.length:=by simp [HL]
theorem VH (l:List VX):Xn 4 (HL l):=KH NP l fun _=>rfl
attribute [go_sem] IQ
section
attribute [local go_sem] ntmps114
theorem aik (s p:List UInt8) (hs:s.length <= 1000000000) (hp:p.length <= 1000000000):Af prog 114 [.val (.string (Ak s)),.val (.string (Ak p))] (· = .tup [.val (.string (Ak (if Dh s p = true then s.take (s.length - p.length) else s))),.val (.bool (Dh s p))]):=by
 cases h:Dh s p with
 | false =>
  refine Ag.intro func114 (by decide) rfl (D5 h ?_);refine Aa.Ad (Z1 h ?_);refine Aa.seq ?_;refine Aa.Ad (Z1 h ?_);refine Af.eq (adg s p hs hp) rfl (Z1 h ?_);refine Aa.Ar rfl ?_;refine Aa.Ad (Z1 h ?_);refine Aa.ret (Z1 h ?_);exact Ae rfl (Z1 h trivial)
 | true =>
  have hl:p.length <= s.length:=by
   rcases Nat.lt_or_ge s.length p.length with h1 | h1
   ·rw [It h1] at h; cases h
   ·exact h1
  have h1:((s.length:Int) - (p.length:Int)).toNat = s.length - p.length:=by omega
  refine Ag.intro func114 (by decide) rfl (VY h h1 ?_);refine Aa.Ad (Z2 h h1 ?_);refine Aa.seq ?_;refine Aa.Ad (Z2 h h1 ?_);refine Af.eq (adg s p hs hp) rfl (Z2 h h1 ?_);refine Aa.Ax rfl ?_;refine Aa.skip (Z2 h h1 ?_);refine Aa.Ad (Z2 h h1 ?_);simp -implicitDefEqProofs (dsimp:=false) (disch:=omega) only [i64_in,gd];refine Z2 h h1 ?_;refine Ao (Ao ?_);refine Aa.ret (Z2 h h1 ?_);exact Ae rfl (Z2 h h1 trivial)
end
section
attribute [local go_sem] ntmps77
theorem c77 (s p:List UInt8) (hs:s.length <= 1000000000) (hp:p.length <= 1000000000):Af prog 77 [.val (.string (Ak s)),.val (.string (Ak p))] (· = .tup [.val (.string (Ak (if Dh s p = true then s.take (s.length - p.length) else s))),.val (.bool (Dh s p))]):=by
 refine Ag.intro func77 (by decide) rfl (Bj ?_);refine Aa.Ad (Z0 ?_);refine Aa.Ad (Z0 ?_);refine Af.eq (aik s p hs hp) rfl (Z0 ?_);refine Aa.ret (Z0 ?_);exact Ae rfl (Z0 trivial)
end
def GD (a b:List Int):Bool:=decide (a = b)
section
attribute [local go_sem] BO ntmps28
theorem c28 (a b:List Int) (ha:a.length <= 1000000000) (hb:b.length <= 1000000000):Af prog 28 [.sl false (is a),.sl false (is b)] (· = .val (.bool (GD a b))):=by
 by_cases hl:a.length = b.length
 ·refine Ag.intro func28 (by decide) rfl (D5 hl ?_)
  refine Aa.Ad (Z1 hl ?_);refine Aa.seq ?_;refine Aa.Ad (Z1 hl ?_);refine Aa.cond rfl (fun g1=>?_) (fun g1=>?_);have d1:=BT g1
  (exfalso; omega)
  have d1:=Bt g1;refine Aa.skip (Z2 hl g1 ?_);refine Aa.seq ?_;refine Aa.Ad (Z2 hl g1 ?_);refine Aa.block ?_;refine Aa.A0 (fun i:Nat=>[(5,.val (.int .i64 (i:Nat)))]) [0,1] (fun _=>_) (fun i:Nat=>i <= a.length /\ ∀ j,j < i -> a.getD j 0 = b.getD j 0) (fun i:Nat=>a.length - i) (0) ?_ rfl ?_ ?_;refine ⟨?_,?_⟩ <;> omega
  refine ⟨rfl,?_,?_,rfl,?_⟩;exact Cv hl g1 trivial;exact Cv hl g1 trivial;exact Cv hl g1 trivial;rintro i ⟨hi,hn⟩;refine Z2 hl g1 ?_;refine Aa.seq ?_;refine Aa.Ad (Z2 hl g1 ?_);refine Aa.cond rfl (fun g2=>?_) (fun g2=>?_);have d2:=An g2;refine Aa.skip (Z3 hl g1 g2 ?_);refine Aa.seq (Aa.block ?_);refine Aa.BQ [(0,.free),(1,.free),(4,.free),(5,.free),(2,.read),(3,.read),(6,.read),(7,.read),(8,.free)] mixed (by kernel_rfl) (Z3 hl g1 g2 ?_);refine Ao ?_;refine And.intro (by assumption) ?_;simp -implicitDefEqProofs (dsimp:=false) (disch:=omega) only [i64_in,gd];refine Z3 hl g1 g2 ?_;refine Ao ?_;refine And.intro (by assumption) ?_;refine Aa.cond rfl (fun g3=>?_) (fun g3=>?_);have d3:=BT g3;refine Aa.Ad (Z4 hl g1 g2 g3 ?_);refine Aa.ret (Z4 hl g1 g2 g3 ?_);refine Ae rfl ?_;rotate_left;have d3:=Bt g3;refine Aa.skip (Z4 hl g1 g2 g3 ?_);refine Aa.region (Z4 hl g1 g2 g3 ?_);refine Bd ?_;refine ⟨i + 1,?_⟩;constructor;constructor;omega;rotate_left;constructor;omega;refine ⟨rfl,?_,?_,rfl,?_⟩;exact Mv hl g1 g2 g3 trivial;exact Mv hl g1 g2 g3 trivial;exact Mv hl g1 g2 g3 trivial;have d2:=Aj g2;refine Aa.exit (Z3 hl g1 g2 ?_);refine Aa.Ad (Z3 hl g1 g2 ?_);refine Aa.ret (Z3 hl g1 g2 ?_);refine Ae rfl ?_;rotate_left
  ·rw [show GD a b = false from decide_eq_false fun e=>d3 (by rw [e])]
  ·intro j hj
   rcases Nat.lt_or_eq_of_le (Nat.le_of_lt_succ hj) with h | h
   ·exact hn j h
   ·rw [h]; simpa using g3
  ·have e2:=of_decide_eq_false g2
   rw [show GD a b = true from decide_eq_true ?_];refine List.ext_getElem hl fun j h1 h2=>?_;have:=hn j (by omega)
   simpa [List.getD_eq_getElem?_getD,h1,h2] using this
 ·have h1:GD a b = false:=decide_eq_false fun e=>hl (by rw [e])
  refine Ag.intro func28 (by decide) rfl (D5 h1 ?_);refine Aa.Ad (Z1 h1 ?_);refine Aa.seq ?_;refine Aa.Ad (Z1 h1 ?_);refine Aa.cond rfl (fun g2=>?_) (fun g2=>?_);have d2:=BT g2;refine Aa.Ad (Z2 h1 g2 ?_);refine Aa.ret (Z2 h1 g2 ?_);exact Ae rfl (Z2 h1 g2 trivial);have d2:=Bt g2
  (exfalso; omega)
end
end Go.Proofs.Tryz

namespace Go.Proofs.Tryz
open Go.PM
attribute [local irreducible] BM BP Bq Ci AU AO Az
theorem NC (l:List Int) (v:AV) (a:Int):GA prog 3 (Bx BC v l) (.val (.int .i64 a)):=Lp (k:=BC) (d:=.int .i64) underlying3 Ly
theorem SO (l:List Int) (a:Int):Il (Bx BC (.agg []) l) (.val (.int .i64 a)) = Hk a l:=Uh (k:=BC) (v:=.agg []) FE
theorem Qc (l:List Int) (a:Int):D2 (Bx BC (.agg []) l) (.val (.int .i64 a)) (.agg []) = .agg []:=by
 have:=Ik (k:=BC) (v:=.agg []) (z:=.agg []) (l:=l) (a:=a) FE;rw [show BC a = .val (.int .i64 a) from rfl] at this;rw [this]
 split <;> rfl
theorem S3 (l:List Int) (a:Int):LV (Bx BC (.agg []) l) (.val (.int .i64 a)) (.agg []) = Bx BC (.agg []) (if a ∈ l then l else l ++ [a]):=MQ (k:=BC) (v:=.agg []) FE
theorem Jm (v:AV) (l:List Int):isMap (Bx BC v l):=Mh
theorem Bz (n:Nat) (l:List Int):(Bx BC (.agg []) l).under n = true:=L7 n rfl
section
attribute [local go_sem] NC SO Qc S3 Jm Bz ntmps86
theorem c86 (l:List Int) (x:Int):Ag prog 86 [.mp 0,.val (.int .i64 x)] [Bx BC (.agg []) l] (fun r h=>r = .ret (.val (.bool (!Hk x l))) /\ h = [Bx BC (.agg []) (if x ∈ l then l else l ++ [x])]):=by
 refine Ag.trim (Nat.le_refl _) rfl (by simp [Bz]) ?_;refine Ag.intro func86 (by decide) rfl (Bj ?_);refine Aa.Ad (Z0 ?_);refine Aa.Ad (Z0 ?_);refine Aa.Ad (Z0 ?_);refine Aa.Ad (Z0 ?_);refine Aa.ret (Z0 ?_);rotate_left;exact ⟨_,rfl⟩
end
section
attribute [local go_sem] NC SO Qc S3 Jm Bz ntmps89
theorem c89 (l:List Int) (x:Int):Ag prog 89 [.mp 0,.val (.int .i64 x)] [Bx BC (.agg []) l] (fun r h=>r = .ret (.val (.bool (Hk x l))) /\ h = [Bx BC (.agg []) l]):=by
 refine Ag.trim (Nat.le_refl _) rfl (by simp [Bz]) ?_;refine Ag.intro func89 (by decide) rfl (Bj ?_);refine Aa.Ad (Z0 ?_);refine Aa.Ad (Z0 ?_);refine Aa.Ad (Z0 ?_);refine Aa.ret (Z0 ?_);rotate_left;exact ⟨_,rfl⟩
end
section
attribute [local go_sem] ntmps88
theorem Zr (b:Bool) (h:List Ah):Bc prog 88 [.val (.bool b)] h b (.tup []) h (.iface 88 (.agg [])) h:=by
 cases b
 ·refine Bc.mk ?_
  refine Ag.intro func88 (by decide) rfl (Bj ?_);refine Aa.Ad (Z0 ?_);refine Aa.Ar rfl ?_;refine Aa.region (Z0 ?_);trivial
 ·refine Bc.mk ?_
  refine Ag.intro func88 (by decide) rfl (Bj ?_);refine Aa.Ad (Z0 ?_);refine Aa.Ax rfl ?_;refine Aa.skip (Z0 ?_);trivial
end
end Go.Proofs.Tryz

namespace Go.Proofs.Tryz
open Go.PM
def Tp (T:Nat) (d:List Int):Prop:=∀ i,i < d.length -> 0 <= d.getD i 0 /\ d.getD i 0 < 1000000 /\ d.getD i 0 < 10 ^ (T - 6 * i) /\ 6 * i < T
def MH (d:List Int) (neg:Bool):AV:=.agg [.sl false (is d),.val (.bool neg)]
def F2 (d:List Int):Prop:=∃ T,T <= 400 /\ Tp T d
def QZ (x:Int):List UInt8:=Lib.repeatL [48] (6 - (Lib.itoa x).length) ++ Lib.itoa x
def GC (d:List Int) (neg:Bool):List UInt8:=if d.length = 0 then [48] else (if neg = true then [45] else []) ++ Lib.itoa (d.getD (d.length - 1) 0) ++ (d.take (d.length - 1)).reverse.flatMap QZ
theorem abA (n:Int) (h0 : -9223372036854775808 <= n) (h1:n <= 9223372036854775807):(Lib.itoa n).length <= 1048576:=by
 have:=Lib.itoa_length_le n h0 h1;omega
theorem Ta (n:Nat):(Lib.repeatL [48] n).length = n:=by
 induction n with
 | zero=>rfl
 | succ n ih=>simp [Lib.repeatL,ih]
theorem TA {f:Int -> List UInt8}:∀ {l:List Int},(∀ x ∈ l,(f x).length <= 27) -> (l.flatMap f).length <= 27 * l.length
 | [],_=>by simp
 | x :: l,h=>by
  have h1:=h x List.mem_cons_self;have h2:=TA (l:=l) fun y hy=>h y (List.mem_cons_of_mem _ hy);simp only [List.flatMap_cons,List.length_append,List.length_cons];omega
theorem WB {T:Nat} {d:List Int} (h:Tp T d):6 * d.length <= T + 5:=by
 rcases Nat.eq_zero_or_pos d.length with h0 | h0
 ·omega
 ·have:=(h (d.length - 1) (by omega)).2.2.2
  omega
theorem Pu (d:List Int) (neg:Bool) (hd:F2 d):(GC d neg).length <= 1000000:=by
 obtain ⟨T,hT,hd⟩:=hd;have hl:=WB hd;have hin:∀ x ∈ d,0 <= x /\ x < 1000000:=fun x hx=>by
  obtain ⟨j,hj,rfl⟩:=List.getElem_of_mem hx;have:=hd j hj;rw [show d.getD j 0 = d[j] by simp [List.getD_eq_getElem?_getD,hj]] at this;omega
 unfold GC
 split
 ·simp
 ·have h1:=hd (d.length - 1) (by omega)
  have h2:=Lib.itoa_length_le (d.getD (d.length - 1) 0) (by omega) (by omega);have h3:((d.take (d.length - 1)).reverse.flatMap QZ).length <= 27 * (d.take (d.length - 1)).reverse.length:=TA fun x hx=>by
   have hx':=hin x (List.mem_of_mem_take (List.mem_reverse.1 hx));have h4:=Lib.itoa_length_le x (by omega) (by omega);unfold QZ;rw [List.length_append,Ta];omega
  rw [List.length_reverse,List.length_take] at h3;rw [List.length_append,List.length_append];have h5:(if neg = true then [(45:UInt8)] else []).length <= 1:=by split <;> simp
  omega
end Go.Proofs.Tryz

namespace Go.Proofs.Tryz
open Go Go.RowKit Go.Shelf
def ac1:Ren:=⟨fun x=>match x with | 137=>323 | 217=>344 | 266=>353 | n=>n,fun n=>n,fun n=>n⟩
theorem adk:Lays.n137 prog ac1 where
 mixed:=by kernel_rfl
 f137:=func323.trans (congrArg some (by kernel_rfl))
 f217:=func344.trans (congrArg some (by kernel_rfl))
 f266:=func353.trans (congrArg some (by kernel_rfl))
 t3:=underlying3
 a3:=isAgg3
 z3:=sizeOf3
 v3:=zeroValue3
 t5:=underlying5
 a5:=isAgg5
 z5:=sizeOf5
 v5:=zeroValue5
 t9:=underlying9
 a9:=isAgg9
 z9:=sizeOf9
 v9:=zeroValue9
def acO:Ren:=⟨fun x=>match x with | 101=>244 | 206=>139 | 208=>265 | n=>n,fun n=>n,fun n=>n⟩
theorem acB:Lays.n101 prog acO where
 mixed:=by kernel_rfl
 f101:=func244.trans (congrArg some (by kernel_rfl))
 f206:=func139.trans (congrArg some (by kernel_rfl))
 f208:=func265.trans (congrArg some (by kernel_rfl))
 t3:=underlying3
 a3:=isAgg3
 z3:=sizeOf3
 v3:=zeroValue3
 t4:=underlying4
 a4:=isAgg4
 z4:=sizeOf4
 v4:=zeroValue4
 t9:=underlying9
 a9:=isAgg9
 z9:=sizeOf9
 v9:=zeroValue9
def acZ:Ren:=⟨fun x=>match x with | 119=>348 | 120=>329 | 137=>323 | 151=>294 | 152=>328 | 160=>245 | 197=>293 | 217=>344 | 224=>349 | 225=>350 | 227=>268 | 228=>292 | 231=>266 | 232=>267 | 233=>269 | 234=>270 | 235=>271 | 236=>272 | 260=>327 | 266=>353 | 271=>295 | n=>n,fun x=>match x with | 46=>260 | 105=>336 | 116=>302 | 117=>303 | 119=>367 | 124=>306 | 138=>369 | 139=>370 | n=>n,fun x=>match x with | 3=>4 | 4=>5 | n=>n⟩
theorem ac2:Lays.n160 prog acZ where
 mixed:=by kernel_rfl
 f119:=func348.trans (congrArg some (by kernel_rfl))
 f120:=func329.trans (congrArg some (by kernel_rfl))
 f137:=func323.trans (congrArg some (by kernel_rfl))
 f151:=func294.trans (congrArg some (by kernel_rfl))
 f152:=func328.trans (congrArg some (by kernel_rfl))
 f160:=func245.trans (congrArg some (by kernel_rfl))
 f197:=func293.trans (congrArg some (by kernel_rfl))
 f217:=func344.trans (congrArg some (by kernel_rfl))
 f224:=func349.trans (congrArg some (by kernel_rfl))
 f225:=func350.trans (congrArg some (by kernel_rfl))
 f227:=func268.trans (congrArg some (by kernel_rfl))
 f228:=func292.trans (congrArg some (by kernel_rfl))
 f231:=func266.trans (congrArg some (by kernel_rfl))
 f232:=func267.trans (congrArg some (by kernel_rfl))
 f233:=func269.trans (congrArg some (by kernel_rfl))
 f234:=func270.trans (congrArg some (by kernel_rfl))
 f235:=func271.trans (congrArg some (by kernel_rfl))
 f236:=func272.trans (congrArg some (by kernel_rfl))
 f260:=func327.trans (congrArg some (by kernel_rfl))
 f266:=func353.trans (congrArg some (by kernel_rfl))
 f271:=func295.trans (congrArg some (by kernel_rfl))
 t0:=underlying0
 a0:=isAgg0
 z0:=sizeOf0
 v0:=zeroValue0
 t3:=underlying3
 a3:=isAgg3
 z3:=sizeOf3
 v3:=zeroValue3
 t4:=underlying4
 a4:=isAgg4
 z4:=sizeOf4
 v4:=zeroValue4
 t5:=underlying5
 a5:=isAgg5
 z5:=sizeOf5
 v5:=zeroValue5
 t9:=underlying9
 a9:=isAgg9
 z9:=sizeOf9
 v9:=zeroValue9
 t21:=underlying21
 a21:=isAgg21
 z21:=sizeOf21
 v21:=zeroValue21
 t46:=underlying260
 a46:=isAgg260
 z46:=sizeOf260
 v46:=zeroValue260
 t105:=underlying336
 a105:=isAgg336
 z105:=sizeOf336
 v105:=zeroValue336
 t116:=underlying302
 a116:=isAgg302
 z116:=sizeOf302
 t117:=underlying303
 a117:=isAgg303
 z117:=sizeOf303
 v117:=zeroValue303
 t119:=underlying367
 a119:=isAgg367
 z119:=sizeOf367
 t124:=underlying306
 a124:=isAgg306
 z124:=sizeOf306
 v124:=zeroValue306
 t138:=underlying369
 a138:=isAgg369
 z138:=sizeOf369
 v138:=zeroValue369
 t139:=underlying370
 a139:=isAgg370
 z139:=sizeOf370
 v139:=zeroValue370
 g3:=by kernel_rfl
 g4:=by kernel_rfl
def YZ:Ren:=⟨fun x=>match x with | 99=>112 | 105=>195 | 165=>237 | 166=>238 | 169=>240 | 170=>239 | 206=>139 | 212=>236 | 240=>263 | 241=>264 | 263=>261 | 264=>262 | 276=>290 | 277=>291 | n=>n,fun x=>match x with | 37=>192 | 46=>260 | 51=>293 | 53=>296 | 70=>263 | 72=>265 | 75=>268 | 76=>269 | 80=>272 | 109=>261 | 127=>299 | 146=>294 | 148=>297 | 164=>333 | n=>n,fun n=>n⟩
theorem Wf:Lays.n105 prog YZ where
 mixed:=by kernel_rfl
 f99:=func112.trans (congrArg some (by kernel_rfl))
 f105:=func195.trans (congrArg some (by kernel_rfl))
 f165:=func237.trans (congrArg some (by kernel_rfl))
 f166:=func238.trans (congrArg some (by kernel_rfl))
 f169:=func240.trans (congrArg some (by kernel_rfl))
 f170:=func239.trans (congrArg some (by kernel_rfl))
 f206:=func139.trans (congrArg some (by kernel_rfl))
 f212:=func236.trans (congrArg some (by kernel_rfl))
 f240:=func263.trans (congrArg some (by kernel_rfl))
 f241:=func264.trans (congrArg some (by kernel_rfl))
 f263:=func261.trans (congrArg some (by kernel_rfl))
 f264:=func262.trans (congrArg some (by kernel_rfl))
 f276:=func290.trans (congrArg some (by kernel_rfl))
 f277:=func291.trans (congrArg some (by kernel_rfl))
 t0:=underlying0
 a0:=isAgg0
 z0:=sizeOf0
 v0:=zeroValue0
 t3:=underlying3
 a3:=isAgg3
 z3:=sizeOf3
 v3:=zeroValue3
 t4:=underlying4
 a4:=isAgg4
 z4:=sizeOf4
 v4:=zeroValue4
 t5:=underlying5
 a5:=isAgg5
 z5:=sizeOf5
 v5:=zeroValue5
 t9:=underlying9
 a9:=isAgg9
 z9:=sizeOf9
 v9:=zeroValue9
 t20:=underlying20
 a20:=isAgg20
 z20:=sizeOf20
 v20:=zeroValue20
 t37:=underlying192
 a37:=isAgg192
 z37:=sizeOf192
 v37:=zeroValue192
 t46:=underlying260
 a46:=isAgg260
 z46:=sizeOf260
 v46:=zeroValue260
 t51:=underlying293
 a51:=isAgg293
 z51:=sizeOf293
 v51:=zeroValue293
 t53:=underlying296
 a53:=isAgg296
 z53:=sizeOf296
 v53:=zeroValue296
 t70:=underlying263
 a70:=isAgg263
 z70:=sizeOf263
 v70:=zeroValue263
 t72:=underlying265
 a72:=isAgg265
 z72:=sizeOf265
 v72:=zeroValue265
 t75:=underlying268
 a75:=isAgg268
 z75:=sizeOf268
 v75:=zeroValue268
 t76:=underlying269
 a76:=isAgg269
 z76:=sizeOf269
 v76:=zeroValue269
 t109:=underlying261
 a109:=isAgg261
 z109:=sizeOf261
 v109:=zeroValue261
 t127:=underlying299
 a127:=isAgg299
 z127:=sizeOf299
 v127:=zeroValue299
 t146:=underlying294
 a146:=isAgg294
 z146:=sizeOf294
 v146:=zeroValue294
 t148:=underlying297
 a148:=isAgg297
 z148:=sizeOf297
 v148:=zeroValue297
 t164:=underlying333
 a164:=isAgg333
 z164:=sizeOf333
 v164:=zeroValue333
def acJ:Ren:=⟨fun x=>match x with | 129=>331 | 171=>218 | 243=>248 | 246=>274 | 283=>296 | 284=>297 | 285=>298 | 286=>299 | 317=>330 | 318=>332 | 319=>333 | 320=>334 | 337=>351 | 338=>352 | n=>n,fun x=>match x with | 37=>192 | 46=>260 | 51=>293 | 53=>296 | 171=>339 | 173=>342 | 212=>359 | 213=>360 | 232=>376 | 233=>377 | n=>n,fun x=>match x with | 17=>1 | 18=>6 | 19=>7 | n=>n⟩
theorem Y1:LaysM.n171 prog acJ where
 mixed:=by kernel_rfl
 f129:=func331.trans (congrArg some (by kernel_rfl))
 f171:=func218.trans (congrArg some (by kernel_rfl))
 f243:=func248.trans (congrArg some (by kernel_rfl))
 f246:=func274.trans (congrArg some (by kernel_rfl))
 f283:=func296.trans (congrArg some (by kernel_rfl))
 f284:=func297.trans (congrArg some (by kernel_rfl))
 f285:=func298.trans (congrArg some (by kernel_rfl))
 f286:=func299.trans (congrArg some (by kernel_rfl))
 f317:=func330.trans (congrArg some (by kernel_rfl))
 f318:=func332.trans (congrArg some (by kernel_rfl))
 f319:=func333.trans (congrArg some (by kernel_rfl))
 f320:=func334.trans (congrArg some (by kernel_rfl))
 f337:=func351.trans (congrArg some (by kernel_rfl))
 f338:=func352.trans (congrArg some (by kernel_rfl))
 t0:=underlying0
 a0:=isAgg0
 z0:=sizeOf0
 v0:=zeroValue0
 t2:=underlying2
 a2:=isAgg2
 z2:=sizeOf2
 v2:=zeroValue2
 t3:=underlying3
 a3:=isAgg3
 z3:=sizeOf3
 v3:=zeroValue3
 t4:=underlying4
 a4:=isAgg4
 z4:=sizeOf4
 v4:=zeroValue4
 t5:=underlying5
 a5:=isAgg5
 z5:=sizeOf5
 v5:=zeroValue5
 t9:=underlying9
 a9:=isAgg9
 z9:=sizeOf9
 v9:=zeroValue9
 t20:=underlying20
 a20:=isAgg20
 z20:=sizeOf20
 v20:=zeroValue20
 t37:=underlying192
 a37:=isAgg192
 z37:=sizeOf192
 v37:=zeroValue192
 t46:=underlying260
 a46:=isAgg260
 z46:=sizeOf260
 v46:=zeroValue260
 t51:=underlying293
 a51:=isAgg293
 z51:=sizeOf293
 v51:=zeroValue293
 t53:=underlying296
 a53:=isAgg296
 z53:=sizeOf296
 v53:=zeroValue296
 t171:=underlying339
 a171:=isAgg339
 z171:=sizeOf339
 v171:=zeroValue339
 t173:=underlying342
 a173:=isAgg342
 z173:=sizeOf342
 v173:=zeroValue342
 t212:=underlying359
 a212:=isAgg359
 z212:=sizeOf359
 v212:=zeroValue359
 t213:=underlying360
 a213:=isAgg360
 z213:=sizeOf360
 t232:=underlying376
 a232:=isAgg376
 z232:=sizeOf376
 v232:=zeroValue376
 t233:=underlying377
 a233:=isAgg377
 z233:=sizeOf377
 v233:=zeroValue377
 g17:=by kernel_rfl
 g18:=by kernel_rfl
 g19:=by kernel_rfl
 i0:=by kernel_rfl
 i2:=by kernel_rfl
 i3:=by kernel_rfl
 i4:=by kernel_rfl
 i5:=by kernel_rfl
 i9:=by kernel_rfl
 i20:=by kernel_rfl
 i37:=by kernel_rfl
 i46:=by kernel_rfl
 i51:=by kernel_rfl
 i53:=by kernel_rfl
 i171:=by kernel_rfl
 i173:=by kernel_rfl
 i212:=by kernel_rfl
 i232:=by kernel_rfl
 i233:=by kernel_rfl
 m17:=by kernel_rfl
 m18:=by kernel_rfl
 m19:=by kernel_rfl
def adE:Ren:=⟨fun x=>match x with | 129=>331 | 171=>218 | 174=>251 | 205=>338 | 243=>248 | 245=>277 | 246=>274 | 247=>276 | 279=>301 | 280=>302 | 281=>303 | 282=>304 | 283=>296 | 284=>297 | 285=>298 | 286=>299 | 287=>300 | 316=>337 | 317=>330 | 318=>332 | 319=>333 | 320=>334 | 321=>335 | 322=>336 | 337=>351 | 338=>352 | n=>n,fun x=>match x with | 37=>192 | 46=>260 | 51=>293 | 53=>296 | 75=>268 | 80=>272 | 85=>278 | 127=>299 | 143=>373 | 145=>375 | 167=>344 | 168=>347 | 171=>339 | 173=>342 | 175=>345 | 210=>365 | 212=>359 | 213=>360 | 232=>376 | 233=>377 | n=>n,fun x=>match x with | 15=>2 | 16=>3 | 17=>1 | 18=>6 | 19=>7 | n=>n⟩
theorem RT:LaysC.n174 prog adE where
 mixed:=by kernel_rfl
 f129:=func331.trans (congrArg some (by kernel_rfl))
 f171:=func218.trans (congrArg some (by kernel_rfl))
 f174:=func251.trans (congrArg some (by kernel_rfl))
 f205:=func338.trans (congrArg some (by kernel_rfl))
 f243:=func248.trans (congrArg some (by kernel_rfl))
 f245:=func277.trans (congrArg some (by kernel_rfl))
 f246:=func274.trans (congrArg some (by kernel_rfl))
 f247:=func276.trans (congrArg some (by kernel_rfl))
 f279:=func301.trans (congrArg some (by kernel_rfl))
 f280:=func302.trans (congrArg some (by kernel_rfl))
 f281:=func303.trans (congrArg some (by kernel_rfl))
 f282:=func304.trans (congrArg some (by kernel_rfl))
 f283:=func296.trans (congrArg some (by kernel_rfl))
 f284:=func297.trans (congrArg some (by kernel_rfl))
 f285:=func298.trans (congrArg some (by kernel_rfl))
 f286:=func299.trans (congrArg some (by kernel_rfl))
 f287:=func300.trans (congrArg some (by kernel_rfl))
 f316:=func337.trans (congrArg some (by kernel_rfl))
 f317:=func330.trans (congrArg some (by kernel_rfl))
 f318:=func332.trans (congrArg some (by kernel_rfl))
 f319:=func333.trans (congrArg some (by kernel_rfl))
 f320:=func334.trans (congrArg some (by kernel_rfl))
 f321:=func335.trans (congrArg some (by kernel_rfl))
 f322:=func336.trans (congrArg some (by kernel_rfl))
 f337:=func351.trans (congrArg some (by kernel_rfl))
 f338:=func352.trans (congrArg some (by kernel_rfl))
 t0:=underlying0
 a0:=isAgg0
 z0:=sizeOf0
 v0:=zeroValue0
 t2:=underlying2
 a2:=isAgg2
 z2:=sizeOf2
 v2:=zeroValue2
 t3:=underlying3
 a3:=isAgg3
 z3:=sizeOf3
 v3:=zeroValue3
 t4:=underlying4
 a4:=isAgg4
 z4:=sizeOf4
 v4:=zeroValue4
 t5:=underlying5
 a5:=isAgg5
 z5:=sizeOf5
 v5:=zeroValue5
 t9:=underlying9
 a9:=isAgg9
 z9:=sizeOf9
 v9:=zeroValue9
 t20:=underlying20
 a20:=isAgg20
 z20:=sizeOf20
 v20:=zeroValue20
 t21:=underlying21
 a21:=isAgg21
 z21:=sizeOf21
 v21:=zeroValue21
 t37:=underlying192
 a37:=isAgg192
 z37:=sizeOf192
 v37:=zeroValue192
 t46:=underlying260
 a46:=isAgg260
 z46:=sizeOf260
 v46:=zeroValue260
 t51:=underlying293
 a51:=isAgg293
 z51:=sizeOf293
 v51:=zeroValue293
 t53:=underlying296
 a53:=isAgg296
 z53:=sizeOf296
 v53:=zeroValue296
 t75:=underlying268
 a75:=isAgg268
 z75:=sizeOf268
 v75:=zeroValue268
 t85:=underlying278
 a85:=isAgg278
 z85:=sizeOf278
 v85:=zeroValue278
 t127:=underlying299
 a127:=isAgg299
 z127:=sizeOf299
 v127:=zeroValue299
 t143:=underlying373
 a143:=isAgg373
 z143:=sizeOf373
 v143:=zeroValue373
 t145:=underlying375
 a145:=isAgg375
 z145:=sizeOf375
 v145:=zeroValue375
 t167:=underlying344
 a167:=isAgg344
 z167:=sizeOf344
 v167:=zeroValue344
 t168:=underlying347
 a168:=isAgg347
 z168:=sizeOf347
 v168:=zeroValue347
 t171:=underlying339
 a171:=isAgg339
 z171:=sizeOf339
 v171:=zeroValue339
 t173:=underlying342
 a173:=isAgg342
 z173:=sizeOf342
 v173:=zeroValue342
 t175:=underlying345
 a175:=isAgg345
 z175:=sizeOf345
 v175:=zeroValue345
 t210:=underlying365
 a210:=isAgg365
 z210:=sizeOf365
 v210:=zeroValue365
 t212:=underlying359
 a212:=isAgg359
 z212:=sizeOf359
 v212:=zeroValue359
 t213:=underlying360
 a213:=isAgg360
 z213:=sizeOf360
 t232:=underlying376
 a232:=isAgg376
 z232:=sizeOf376
 v232:=zeroValue376
 t233:=underlying377
 a233:=isAgg377
 z233:=sizeOf377
 v233:=zeroValue377
 g15:=by kernel_rfl
 g16:=by kernel_rfl
 g17:=by kernel_rfl
 g18:=by kernel_rfl
 g19:=by kernel_rfl
 t80:=underlying272
 a80:=isAgg272
 z80:=sizeOf272
 v80:=zeroValue272
 i0:=by kernel_rfl
 i2:=by kernel_rfl
 i3:=by kernel_rfl
 i4:=by kernel_rfl
 i5:=by kernel_rfl
 i9:=by kernel_rfl
 i20:=by kernel_rfl
 i21:=by kernel_rfl
 i37:=by kernel_rfl
 i46:=by kernel_rfl
 i51:=by kernel_rfl
 i53:=by kernel_rfl
 i75:=by kernel_rfl
 i80:=by kernel_rfl
 i85:=by kernel_rfl
 i127:=by kernel_rfl
 i143:=by kernel_rfl
 i145:=by kernel_rfl
 i167:=by kernel_rfl
 i168:=by kernel_rfl
 i171:=by kernel_rfl
 i173:=by kernel_rfl
 i175:=by kernel_rfl
 i210:=by kernel_rfl
 i212:=by kernel_rfl
 i232:=by kernel_rfl
 i233:=by kernel_rfl
 m15:=by kernel_rfl
 m16:=by kernel_rfl
 m17:=by kernel_rfl
 m18:=by kernel_rfl
 m19:=by kernel_rfl
 c0:=by kernel_rfl
 c2:=by kernel_rfl
 c3:=by kernel_rfl
 c4:=by kernel_rfl
 c5:=by kernel_rfl
 c9:=by kernel_rfl
 c20:=by kernel_rfl
 c21:=by kernel_rfl
 c37:=by kernel_rfl
 c46:=by kernel_rfl
 c51:=by kernel_rfl
 c53:=by kernel_rfl
 c75:=by kernel_rfl
 c80:=by kernel_rfl
 c85:=by kernel_rfl
 c127:=by kernel_rfl
 c143:=by kernel_rfl
 c145:=by kernel_rfl
 c167:=by kernel_rfl
 c168:=by kernel_rfl
 c171:=by kernel_rfl
 c173:=by kernel_rfl
 c175:=by kernel_rfl
 c210:=by kernel_rfl
 c212:=by kernel_rfl
 c213:=by kernel_rfl
 c232:=by kernel_rfl
 c233:=by kernel_rfl
def Wp:Ren:=⟨fun x=>match x with | 138=>325 | 143=>326 | 195=>345 | 197=>293 | 217=>344 | 218=>346 | 219=>347 | 221=>288 | 224=>349 | 225=>350 | 260=>327 | 266=>353 | 267=>354 | 268=>324 | 314=>355 | n=>n,fun x=>match x with | 31=>71 | 46=>260 | 51=>293 | 105=>336 | 119=>367 | 138=>369 | 139=>370 | 146=>294 | n=>n,fun x=>match x with | 1=>0 | 3=>4 | 4=>5 | n=>n⟩
theorem Ru:Lays.n221 prog Wp where
 mixed:=by kernel_rfl
 f138:=func325.trans (congrArg some (by kernel_rfl))
 f143:=func326.trans (congrArg some (by kernel_rfl))
 f195:=func345.trans (congrArg some (by kernel_rfl))
 f197:=func293.trans (congrArg some (by kernel_rfl))
 f217:=func344.trans (congrArg some (by kernel_rfl))
 f218:=func346.trans (congrArg some (by kernel_rfl))
 f219:=func347.trans (congrArg some (by kernel_rfl))
 f221:=func288.trans (congrArg some (by kernel_rfl))
 f224:=func349.trans (congrArg some (by kernel_rfl))
 f225:=func350.trans (congrArg some (by kernel_rfl))
 f260:=func327.trans (congrArg some (by kernel_rfl))
 f266:=func353.trans (congrArg some (by kernel_rfl))
 f267:=func354.trans (congrArg some (by kernel_rfl))
 f268:=func324.trans (congrArg some (by kernel_rfl))
 f314:=func355.trans (congrArg some (by kernel_rfl))
 t0:=underlying0
 a0:=isAgg0
 z0:=sizeOf0
 v0:=zeroValue0
 t3:=underlying3
 a3:=isAgg3
 z3:=sizeOf3
 v3:=zeroValue3
 t4:=underlying4
 a4:=isAgg4
 z4:=sizeOf4
 v4:=zeroValue4
 t5:=underlying5
 a5:=isAgg5
 z5:=sizeOf5
 v5:=zeroValue5
 t9:=underlying9
 a9:=isAgg9
 z9:=sizeOf9
 v9:=zeroValue9
 t21:=underlying21
 a21:=isAgg21
 z21:=sizeOf21
 v21:=zeroValue21
 t31:=underlying71
 a31:=isAgg71
 z31:=sizeOf71
 v31:=zeroValue71
 t46:=underlying260
 a46:=isAgg260
 z46:=sizeOf260
 v46:=zeroValue260
 t51:=underlying293
 a51:=isAgg293
 z51:=sizeOf293
 v51:=zeroValue293
 t105:=underlying336
 a105:=isAgg336
 z105:=sizeOf336
 v105:=zeroValue336
 t119:=underlying367
 a119:=isAgg367
 z119:=sizeOf367
 t138:=underlying369
 a138:=isAgg369
 z138:=sizeOf369
 v138:=zeroValue369
 t139:=underlying370
 a139:=isAgg370
 z139:=sizeOf370
 v139:=zeroValue370
 t146:=underlying294
 a146:=isAgg294
 z146:=sizeOf294
 v146:=zeroValue294
 g1:=by kernel_rfl
 g3:=by kernel_rfl
 g4:=by kernel_rfl
end Go.Proofs.Tryz

namespace Go.Proofs.Tryz
open Go Go.RowKit Go.Shelf
def XQ:Ren:=⟨fun x=>match x with | 167=>275 | 240=>263 | 276=>290 | n=>n,fun x=>match x with | 37=>192 | 70=>263 | 72=>265 | 75=>268 | 80=>272 | 127=>299 | 164=>333 | n=>n,fun n=>n⟩
theorem adt:Lays.n167 prog XQ where
 mixed:=by kernel_rfl
 f167:=func275.trans (congrArg some (by kernel_rfl))
 f240:=func263.trans (congrArg some (by kernel_rfl))
 f276:=func290.trans (congrArg some (by kernel_rfl))
 t0:=underlying0
 a0:=isAgg0
 z0:=sizeOf0
 v0:=zeroValue0
 t4:=underlying4
 a4:=isAgg4
 z4:=sizeOf4
 v4:=zeroValue4
 t5:=underlying5
 a5:=isAgg5
 z5:=sizeOf5
 v5:=zeroValue5
 t9:=underlying9
 a9:=isAgg9
 z9:=sizeOf9
 v9:=zeroValue9
 t20:=underlying20
 a20:=isAgg20
 z20:=sizeOf20
 v20:=zeroValue20
 t37:=underlying192
 a37:=isAgg192
 z37:=sizeOf192
 v37:=zeroValue192
 t70:=underlying263
 a70:=isAgg263
 z70:=sizeOf263
 v70:=zeroValue263
 t72:=underlying265
 a72:=isAgg265
 z72:=sizeOf265
 v72:=zeroValue265
 t75:=underlying268
 a75:=isAgg268
 z75:=sizeOf268
 v75:=zeroValue268
 t164:=underlying333
 a164:=isAgg333
 z164:=sizeOf333
 v164:=zeroValue333
def W8:Ren:=⟨fun x=>match x with | 166=>238 | 240=>263 | 276=>290 | n=>n,fun x=>match x with | 37=>192 | 70=>263 | 72=>265 | 75=>268 | 80=>272 | 127=>299 | 164=>333 | n=>n,fun n=>n⟩
theorem adm:Lays.n166 prog W8 where
 mixed:=by kernel_rfl
 f166:=func238.trans (congrArg some (by kernel_rfl))
 f240:=func263.trans (congrArg some (by kernel_rfl))
 f276:=func290.trans (congrArg some (by kernel_rfl))
 t0:=underlying0
 a0:=isAgg0
 z0:=sizeOf0
 v0:=zeroValue0
 t3:=underlying3
 a3:=isAgg3
 z3:=sizeOf3
 v3:=zeroValue3
 t4:=underlying4
 a4:=isAgg4
 z4:=sizeOf4
 v4:=zeroValue4
 t9:=underlying9
 a9:=isAgg9
 z9:=sizeOf9
 v9:=zeroValue9
 t20:=underlying20
 a20:=isAgg20
 z20:=sizeOf20
 v20:=zeroValue20
 t37:=underlying192
 a37:=isAgg192
 z37:=sizeOf192
 v37:=zeroValue192
 t70:=underlying263
 a70:=isAgg263
 z70:=sizeOf263
 v70:=zeroValue263
 t72:=underlying265
 a72:=isAgg265
 z72:=sizeOf265
 v72:=zeroValue265
 t75:=underlying268
 a75:=isAgg268
 z75:=sizeOf268
 v75:=zeroValue268
 t164:=underlying333
 a164:=isAgg333
 z164:=sizeOf333
 v164:=zeroValue333
def YX:Ren:=⟨fun x=>match x with | 169=>240 | n=>n,fun x=>match x with | 37=>192 | 70=>263 | 72=>265 | 75=>268 | 80=>272 | 127=>299 | 164=>333 | n=>n,fun n=>n⟩
theorem aew:Lays.n169 prog YX where
 mixed:=by kernel_rfl
 f169:=func240.trans (congrArg some (by kernel_rfl))
 t0:=underlying0
 a0:=isAgg0
 z0:=sizeOf0
 v0:=zeroValue0
 t3:=underlying3
 a3:=isAgg3
 z3:=sizeOf3
 v3:=zeroValue3
 t9:=underlying9
 a9:=isAgg9
 z9:=sizeOf9
 v9:=zeroValue9
 t37:=underlying192
 a37:=isAgg192
 z37:=sizeOf192
 v37:=zeroValue192
 t70:=underlying263
 a70:=isAgg263
 z70:=sizeOf263
 v70:=zeroValue263
 t72:=underlying265
 a72:=isAgg265
 z72:=sizeOf265
 v72:=zeroValue265
 t127:=underlying299
 a127:=isAgg299
 z127:=sizeOf299
 v127:=zeroValue299
theorem adQ:Builder.Extra prog XQ where
 sizeBuilder:=by kernel_rfl
 liesBuilder:=by kernel_rfl
 t5:=underlying5
 a5:=isAgg5
 z5:=sizeOf5
 v5:=zeroValue5
 infoByte:=by kernel_rfl
 cellsByte:=by kernel_rfl
 sizeByte:=by kernel_rfl
 neB5:=by decide
theorem adz:Builder.Extra prog W8 where
 sizeBuilder:=by kernel_rfl
 liesBuilder:=by kernel_rfl
 t5:=underlying5
 a5:=isAgg5
 z5:=sizeOf5
 v5:=zeroValue5
 infoByte:=by kernel_rfl
 cellsByte:=by kernel_rfl
 sizeByte:=by kernel_rfl
 neB5:=by decide
theorem ac8:Builder.Extra prog YX where
 sizeBuilder:=by kernel_rfl
 liesBuilder:=by kernel_rfl
 t5:=underlying5
 a5:=isAgg5
 z5:=sizeOf5
 v5:=zeroValue5
 infoByte:=by kernel_rfl
 cellsByte:=by kernel_rfl
 sizeByte:=by kernel_rfl
 neB5:=by decide
end Go.Proofs.Tryz

namespace Go.Proofs.Tryz
open Go Go.RowKit Go.Shelf Go.PM
theorem SD {n:Nat} {f:Func} (h:prog.funcs[n]? = some f) (h1:f.name ≠ "runtime.NumGoroutine") (h2:f.body.isNone = false):Ks prog n:=⟨f,h,h1,h2⟩
theorem O7 {w w':World} (h:w' = w):Below w.heap.size w w':=h ▸ Below.refl _ _
theorem adG (s:List UInt8) (c:Int):Af prog 323 [.val (.string (Ak s)),.val (.int .u8 c)] (· = .val (.int .i64 (Lib.indexByte s c.toNat.toUInt8))) :=
 Af.YT (vals:=[.string (Ak s),.int .u8 c]) (SD func323 (by decide) rfl) rfl fun M _ =>
  Calls.mono (Any.strings_IndexByte adk (Ak s) c M.w) fun _ _ ⟨h1,h2⟩=>⟨h1,O7 h2⟩
theorem ai6 (s p:List UInt8):Af prog 244 [.val (.string (Ak s)),.val (.string (Ak p))] (· = .val (.string (Ak (Lib.trimPrefix s p)))) :=
 Af.YT (vals:=[.string (Ak s),.string (Ak p)]) (SD func244 (by decide) rfl) rfl fun M _ =>
  Calls.mono (Any.strings_TrimPrefix acB (Ak s) (Ak p) M.w) fun _ _ ⟨h1,h2⟩=>⟨h1,O7 h2⟩
theorem ajP (s p:List UInt8) (hs:s.length <= 9223372036854775807) (hp:p.length < 4294967281) (ha:p.all (fun b=>decide (b.toNat < 128)) = true) :
  Af prog 245 [.val (.string (Ak s)),.val (.string (Ak p))] (· = .val (.string (Ak (Lib.trimS s p)))) :=
 Af.YT (vals:=[.string (Ak s),.string (Ak p)]) (SD func245 (by decide) rfl) rfl fun M _ =>
  Any.strings_Trim_laid ac2 (by kernel_rfl) (Ak s) (Ak p) M.w (by rw [BH]; exact hs) (by rw [BH]; exact hp) (ascii_of_all ha)
theorem Pf:Builder.Extra prog YZ where
 sizeBuilder:=by kernel_rfl
 liesBuilder:=by kernel_rfl
 t5:=underlying5
 a5:=isAgg5
 z5:=sizeOf5
 v5:=zeroValue5
 infoByte:=by kernel_rfl
 cellsByte:=by kernel_rfl
 sizeByte:=by kernel_rfl
 neB5:=by decide
theorem ah9 (s:List UInt8) (c:Int) (h0:0 <= c) (hc:c <= 9223372036854775807) (hl:s.length * c.toNat <= 140737488355328) :
  Af prog 195 [.val (.string (Ak s)),.val (.int .i64 c)] (· = .val (.string (Ak (Lib.repeatL s c.toNat)))):=by
 obtain ⟨n,rfl⟩:=Int.eq_ofNat_of_zero_le h0;refine Af.YT (vals:=[.string (Ak s),.int .i64 (n:Int)]) (SD func195 (by decide) rfl) rfl fun M _ =>
  Calls.mono (Any.strings_Repeat Wf Pf (Ak s) n M.w (by omega) (by rw [BH]; exact hl)) fun _ _ ⟨h1,h2⟩=>⟨h1,h2⟩
theorem ab8 {M:Mem} (h:GB M):Lib.TabIs prog M.w "internal/strconv.uint64pow10" .u64 Lib.pow10Tab:=by
 obtain ⟨h1,h2,c,ty,l,h3,h4⟩:=h 1 _ rfl;have hn:prog.globalNamed "internal/strconv.uint64pow10" = some 1:=by kernel_rfl
 have hv:∀ (j:Nat) (v:Value),([.val (.int .u64 1),.val (.int .u64 10),.val (.int .u64 100),.val (.int .u64 1000),.val (.int .u64 10000),.val (.int .u64 100000),.val (.int .u64 1000000),.val (.int .u64 10000000),.val (.int .u64 100000000),.val (.int .u64 1000000000),.val (.int .u64 10000000000),.val (.int .u64 100000000000),.val (.int .u64 1000000000000),.val (.int .u64 10000000000000),.val (.int .u64 100000000000000),.val (.int .u64 1000000000000000),.val (.int .u64 10000000000000000),.val (.int .u64 100000000000000000),.val (.int .u64 1000000000000000000),.val (.int .u64 10000000000000000000)]:List AV)[j]? = some (.val v) -> c[j]? = some v:=by
  intro j v hj;have:=GB.cell h (g:=1) rfl hj
  simpa [World.cell?,h3] using this
 unfold Lib.TabIs World.var?;rw [hn];simp only [Option.bind_some,h3]
 congr 1
 apply Array.ext
 ·rw [h4]; rfl
 ·intro i hi1 hi2
  have hi:i < 20:=by rw [h4] at hi1; exact hi1
  have hk:∀ j:Nat,j < 20 -> ∃ v,([.val (.int .u64 1),.val (.int .u64 10),.val (.int .u64 100),.val (.int .u64 1000),.val (.int .u64 10000),.val (.int .u64 100000),.val (.int .u64 1000000),.val (.int .u64 10000000),.val (.int .u64 100000000),.val (.int .u64 1000000000),.val (.int .u64 10000000000),.val (.int .u64 100000000000),.val (.int .u64 1000000000000),.val (.int .u64 10000000000000),.val (.int .u64 100000000000000),.val (.int .u64 1000000000000000),.val (.int .u64 10000000000000000),.val (.int .u64 100000000000000000),.val (.int .u64 1000000000000000000),.val (.int .u64 10000000000000000000)]:List AV)[j]? = some (.val v) /\ (Lib.pow10Tab.map fun z=>Value.int .u64 z).toArray[j]? = some v:=by
   intro j hj
   match j,hj with
   | 0,_=>exact ⟨_,rfl,rfl⟩
   | 1,_=>exact ⟨_,rfl,rfl⟩
   | 2,_=>exact ⟨_,rfl,rfl⟩
   | 3,_=>exact ⟨_,rfl,rfl⟩
   | 4,_=>exact ⟨_,rfl,rfl⟩
   | 5,_=>exact ⟨_,rfl,rfl⟩
   | 6,_=>exact ⟨_,rfl,rfl⟩
   | 7,_=>exact ⟨_,rfl,rfl⟩
   | 8,_=>exact ⟨_,rfl,rfl⟩
   | 9,_=>exact ⟨_,rfl,rfl⟩
   | 10,_=>exact ⟨_,rfl,rfl⟩
   | 11,_=>exact ⟨_,rfl,rfl⟩
   | 12,_=>exact ⟨_,rfl,rfl⟩
   | 13,_=>exact ⟨_,rfl,rfl⟩
   | 14,_=>exact ⟨_,rfl,rfl⟩
   | 15,_=>exact ⟨_,rfl,rfl⟩
   | 16,_=>exact ⟨_,rfl,rfl⟩
   | 17,_=>exact ⟨_,rfl,rfl⟩
   | 18,_=>exact ⟨_,rfl,rfl⟩
   | 19,_=>exact ⟨_,rfl,rfl⟩
   | n + 20,h=>omega
  obtain ⟨v,hv1,hv2⟩:=hk i hi;have e1:=hv i v hv1;rw [Array.getElem?_eq_getElem hi1] at e1;rw [Array.getElem?_eq_getElem hi2] at hv2;exact (Option.some.inj e1).trans (Option.some.inj hv2).symm
theorem c218 (n:Int) (h0 : -9223372036854775808 <= n) (h1:n <= 9223372036854775807):Af prog 218 [.val (.int .i64 n)] (· = .val (.string (Ak (Lib.itoa n)))) :=
 Af.YT (vals:=[.int .i64 n]) (SD func218 (by decide) rfl) rfl fun M hM =>
  Calls.mono (Any.strconv_Itoa Y1 n h0 h1 M.w (ab8 hM)) fun _ w' ⟨h1,k,os,h2⟩=>⟨h1,by
   subst h2;refine ⟨rfl,rfl,rfl,?_,?_⟩
   ·show M.w.heap.size <= (M.w.heap ++ os).size
    simp
   ·intro b hb
    show (M.w.heap ++ os)[b]? = _
    rw [Array.getElem?_append_left hb]⟩
end Go.Proofs.Tryz

namespace Go.Proofs.Tryz
open Go Go.RowKit Go.Shelf Go.PM
set_option maxHeartbeats 6400000
theorem ZX {M:Mem} {d:List Int} {neg:Bool} {vs:Array Value} (h:AW M [] [MH d neg] vs):∃ sv,vs = #[.agg #[sv,.bool neg]] /\ Al M [] (.sl false (is d)) sv:=by
 obtain ⟨h1,h2⟩:=h;have h3:=h2 0 _ rfl;obtain ⟨v,rfl⟩:∃ v,vs = #[v]:=by
  rcases vs with ⟨l⟩
  match l,h1 with
  | [v],_=>exact ⟨v,rfl⟩
 simp at h3
 cases h3 with
 | @agg _ _ us g1 g2 g3 =>
  have e0:=g3 0 _ rfl;have e1:=g3 1 _ rfl
  rcases us with ⟨l⟩
  match l,g1 with
  | [a,b],_ =>
   simp at e0 e1
   cases e1
   exact ⟨a,rfl,e0⟩
theorem ac7 {M:Mem} {d:List Int} {sv:Value} (h:Al M [] (.sl false (is d)) sv):∃ a cap,sv = .slice a d.length cap /\ ∀ j,j < d.length -> ∃ ad:Addr,a = some ad /\ ad.spot = none /\ M.w.cell? ⟨ad.block,ad.off + j,none⟩ = some (.int .i64 (d.getD j 0)):=by
 generalize hes:is d = es at h;have hl:d.length = es.length:=by rw [<- hes]; simp [is]
 cases h with
 | nil=>exact ⟨none,0,by rw [hl]; rfl,fun j hj=>by rw [hl] at hj; simp at hj⟩
 | @sl _ _ _ a cap sz h1 h2 h3 h4 h5 h6 =>
  refine ⟨some a,cap,by rw [hl],fun j hj=>⟨a,rfl,?_,?_⟩⟩
  ·rcases h1 with h1 | h1
   ·exact h1
   ·omega
  ·have he:es[j]? = some (.val (.int .i64 (d.getD j 0))):=by
    rw [<- hes];simp [is,List.getD_eq_getElem?_getD,hj]
   have hsz:=h4 _ (List.mem_of_getElem? he);have hsz:1 = sz:=hsz;subst hsz;have e5:=(h5 j _ 0 _ he rfl).1;have e6:=h6 j _ 0 _ he rfl;rw [Nat.mul_one,Nat.add_zero] at e5 e6;have e7:=e5.2;unfold Mem.get at e6
   cases hc:M.w.cell? ⟨a.block,a.off + j,none⟩ with
   | none=>rw [hc] at e7; cases e7
   | some v =>
    rw [hc] at e6;simp only [Option.getD_some] at e6
    cases e6
    rfl
theorem ago (a:Option Addr) (n cap:Nat) (w:World):Calls prog 273 #[.slice a n cap] w fun e w'=>e = .returned (.bool ((n:Int) == 0)) /\ w' = w:=by
 go_enter func273,ntmps273
 go_wp2
 go_ret
 exact ⟨rfl,rfl⟩
theorem FZ {T e:TypeId} {B b:Nat} {bs:List Value} {w w':World} (h:Lib.IsBuilder T e B b bs w) (hb:Below w.heap.size w w'):Lib.IsBuilder T e B b bs w':=by
 have key:∀ {p},Lib.BuilderAt T e B b p bs w -> Lib.BuilderAt T e B b p bs w':=by
  rintro p ⟨h1,v,h2,⟨h3,h4⟩,h5⟩;have hlt:=(Array.getElem?_eq_some_iff.1 h2).1;refine ⟨h1,v,(hb.block b hlt).trans h2,⟨h3,?_⟩,h5⟩
  rcases h4 with h4 | ⟨g,cap,cur,k1,k2,k3,k4⟩
  ·exact .inl h4
  ·exact .inr ⟨g,cap,cur,k1,k2,(hb.block g (Array.getElem?_eq_some_iff.1 k3).1).trans k3,k4⟩
 exact h.imp key key
theorem hid {p:Prop} (h:p):Hid p:=h
def Zq (w:World):Prop:=Lib.TabIs prog w "internal/strconv.uint64pow10" .u64 Lib.pow10Tab
theorem HC {w w':World} {B:Nat} (h:Zq w) (hB:1 < B) (hb:Below B w w'):Zq w':=by
 have hn:prog.globalNamed "internal/strconv.uint64pow10" = some 1:=by kernel_rfl
 unfold Zq Lib.TabIs World.var? at *;rw [hn] at *;simp only [Option.bind_some] at *;rw [hb.block 1 hB];exact h
theorem acQ {w:World} (h:Zq w):1 < w.heap.size:=by
 have hn:prog.globalNamed "internal/strconv.uint64pow10" = some 1:=by kernel_rfl
 unfold Zq Lib.TabIs World.var? at h;rw [hn] at h;simp only [Option.bind_some] at h
 rcases Nat.lt_or_ge 1 w.heap.size with h1 | h1
 ·exact h1
 ·rw [Array.getElem?_eq_none h1] at h; cases h
theorem YB (n:Int) (h0 : -9223372036854775808 <= n) (h1:n <= 9223372036854775807) (w:World) (ht:Zq w):Calls prog 218 #[.int .i64 n] w fun e w'=>e = .returned (.string (Ak (Lib.itoa n))) /\ Below w.heap.size w w' :=
 Calls.mono (Any.strconv_Itoa Y1 n h0 h1 w ht) fun _ w' ⟨h1,k,os,h2⟩=>⟨h1,by
  subst h2;refine ⟨rfl,rfl,rfl,?_,?_⟩
  ·show w.heap.size <= (w.heap ++ os).size
   simp
  ·intro b hb
   show (w.heap ++ os)[b]? = _
   rw [Array.getElem?_append_left hb]⟩
theorem ai9 (s:List UInt8) (c:Int) (h0:0 <= c) (hc:c <= 9223372036854775807) (hl:s.length * c.toNat <= 140737488355328) (w:World):Calls prog 195 #[.string (Ak s),.int .i64 c] w fun e w'=>e = .returned (.string (Ak (Lib.repeatL s c.toNat))) /\ Below w.heap.size w w':=by
 obtain ⟨n,rfl⟩:=Int.eq_ofNat_of_zero_le h0;exact Calls.mono (Any.strings_Repeat Wf Pf (Ak s) n w (by omega) (by rw [BH]; exact hl)) fun _ _ ⟨h1,h2⟩=>⟨h1,h2⟩
theorem kWB (B b:Nat) (l:List UInt8) (c:Int) (w:World) (h:Lib.IsBuilder 265 5 B b (Lib.byteCells l) w) (hlen:l.length + 1 <= 140737488355328) (hBw:B <= w.heap.size) (u:UInt8) (hc:c = u.toNat) :
  Calls prog 275 #[.pointer (some ⟨b,0,none⟩),.int .u8 c] w fun e w'=>e = .returned .nilIface /\ (Lib.IsBuilder 265 5 B b (Lib.byteCells (l ++ [u])) w' /\ Below B w w') :=
 Calls.mono (Any.Builder_WriteByte adt adQ B b (Lib.byteCells l) c w h (by rw [Lib.byteCells_length]; exact hlen) hBw) fun _ w' ⟨h1,h2,h3⟩=>⟨h1,by rw [Lib.byteCells_append]; subst hc; exact Or.inr h2,h3⟩
theorem TS (s:List UInt8):Lib.strCells (Ak s) = Lib.byteCells s:=by
 simp [Lib.strCells,Lib.byteCells,Ak]
theorem kWS (B b:Nat) (l s:List UInt8) (w:World) (h:Lib.IsBuilder 265 5 B b (Lib.byteCells l) w) (hlen:l.length + s.length <= 140737488355328) (hBw:B <= w.heap.size) :
  Calls prog 238 #[.pointer (some ⟨b,0,none⟩),.string (Ak s)] w fun e w'=>e = .returned (.tuple #[.int .i64 (Ak s).size,.nilIface]) /\ (Lib.IsBuilder 265 5 B b (Lib.byteCells (l ++ s)) w' /\ Below B w w') :=
 Calls.mono (Any.Builder_WriteString adm adz B b (Lib.byteCells l) (Ak s) w h (by rw [Lib.byteCells_length,BH]; exact hlen) hBw) fun _ w' ⟨h1,h2,h3⟩=>⟨h1,by rw [Lib.byteCells_append,<- TS s]; exact Or.inr h2,h3⟩
theorem Jp (B b:Nat) (l:List UInt8) (w:World) (h:Lib.IsBuilder 265 5 B b (Lib.byteCells l) w) (hBw:B <= w.heap.size):Calls prog 240 #[.pointer (some ⟨b,0,none⟩)] w fun e w'=>e = .returned (.string (Ak l)) /\ Below B w w' :=
 Any.Builder_String_any aew ac8 B b l w h hBw
theorem aaN {w:World} {p:Addr} {v:Value} (h:w.cell? p = some v):p.block < w.heap.size:=by
 rcases Nat.lt_or_ge p.block w.heap.size with h1 | h1
 ·exact h1
 ·unfold World.cell? at h
  rw [Array.getElem?_eq_none h1] at h;cases h
theorem Nz {d:List Int} (hd:F2 d) {j:Nat} (hj:j < d.length):0 <= d.getD j 0 /\ d.getD j 0 < 1000000 /\ d.length <= 67:=by
 obtain ⟨T,hT,hd⟩:=hd;have:=WB hd;have:=hd j hj;omega
theorem abU:∀ k u:Nat,u < 10 ^ (k + 1) -> Lib.nDigits u <= k + 1
 | 0,u,h=>by rw [Lib.nDigits,dif_pos (by simpa using h)]; exact Nat.le_refl _
 | k + 1,u,h=>by
  rw [Lib.nDigits]
  split
  ·omega
  ·have:=abU k (u / 10) (by rw [Nat.pow_succ] at h; omega)
   omega
theorem XN {x:Int} (h0:0 <= x) (h1:x < 1000000):(Lib.itoa x).length <= 6:=by
 obtain ⟨u,rfl⟩:=Int.eq_ofNat_of_zero_le h0;rw [Lib.itoa_nonneg,Lib.decDigits_length];exact abU 5 u (by simpa using (show u < 1000000 by omega))
theorem JP {x:Int} (h0:0 <= x) (h1:x < 1000000):∃ (sd zs:List UInt8) (r:Nat),QZ x = zs ++ sd /\ r + sd.length = 6 /\ zs.length = r /\ wrap64 (6 - (sd.length:Int)) = (r:Int) /\
  (∀ w,Zq w -> Calls prog 218 #[.int .i64 x] w fun e w'=>e = .returned (.string (Ak sd)) /\ Below w.heap.size w w') /\
  (∀ W,Calls prog 195 #[.string (Ak [48]),.int .i64 (r:Int)] W fun e w'=>e = .returned (.string (Ak zs)) /\ Below W.heap.size W w'):=by
 have h6:=XN h0 h1;refine ⟨Lib.itoa x,Lib.repeatL [48] (6 - (Lib.itoa x).length),6 - (Lib.itoa x).length,rfl,by omega,Ta _,?_,fun w ht=>YB x (by omega) (by omega) w ht,fun W=>?_⟩
 ·rw [IntWalk.wrap64_in _ ⟨by omega,by omega⟩]
  omega
 ·have h:=ai9 [48] ((6 - (Lib.itoa x).length:Nat):Int) (by omega) (by omega) (by rw [Int.toNat_natCast]; simp only [List.length_cons,List.length_nil]; omega) W
  rw [Int.toNat_natCast] at h;exact h
theorem wrapN {k m:Nat} (h:k + 1 <= m) (hm:m <= 66):wrap64 (k:Int) = k /\ wrap64 ((k:Int) - 1) = (k:Int) - 1 /\ (k:Int) < (m:Int) + 1 /\ k < m + 1 /\ k < m:=by
 refine ⟨IntWalk.wrap64_in _ ⟨by omega,by omega⟩,IntWalk.wrap64_in _ ⟨by omega,by omega⟩,by omega,by omega,by omega⟩
theorem afb (txt:List UInt8) (D:Nat -> Int) (T:Nat -> List UInt8) (neg:Bool) (m:Nat) (hm67:m <= 66) (hin:∀ j,j < m + 1 -> 0 <= D j /\ D j < 1000000) (hT0:T 0 = []) (hT1:∀ k,k < m -> T (k + 1) = QZ (D k) ++ T k)
  (htxt:txt = (if neg = true then [45] else []) ++ Lib.itoa (D m) ++ T m)
  (blk off cap:Nat) (w:World) (htab:Zq w) (hdig:∀ j,j < m + 1 -> w.cell? ⟨blk,off + j,none⟩ = some (.int .i64 (D j))) :
  Calls prog 250 #[.agg #[.slice (some ⟨blk,off,none⟩) (m + 1) cap,.bool neg]] w fun e w'=>e = .returned (.string (Ak txt)) /\ Below w.heap.size w w':=by
 generalize hn:w.heap.size = n;have htn:1 < n:=by rw [<- hn]; exact acQ htab
 have hbn:blk < n:=by
  have:=aaN (hdig 0 (by omega));rw [hn] at this;exact this
 have hW0:((w.alloc (.cells #[.slice (some ⟨blk,off,none⟩) (m + 1) cap,.bool neg] 225)).alloc (.cells #[.pointer none,.slice none 0 0] 265)).heap.size = n + 2:=by simp [hn]
 have hI0:Lib.IsBuilder 265 5 (n + 1) (n + 1) (Lib.byteCells []) ((w.alloc (.cells #[.slice (some ⟨blk,off,none⟩) (m + 1) cap,.bool neg] 225)).alloc (.cells #[.pointer none,.slice none 0 0] 265)):=by
  have h:=Lib.fresh_isBuilder 265 5 (w.alloc (.cells #[.slice (some ⟨blk,off,none⟩) (m + 1) cap,.bool neg] 225));have hs:(w.alloc (.cells #[.slice (some ⟨blk,off,none⟩) (m + 1) cap,.bool neg] 225)).heap.size = n + 1:=by simp [hn]
  rw [hs] at h;exact h
 have hB0:Below n w ((w.alloc (.cells #[.slice (some ⟨blk,off,none⟩) (m + 1) cap,.bool neg] 225)).alloc (.cells #[.pointer none,.slice none 0 0] 265)):=by
  have h:=((Below.refl _ w).alloc (Nat.le_refl _) (.cells #[.slice (some ⟨blk,off,none⟩) (m + 1) cap,.bool neg] 225)).alloc (by simp) (.cells #[.pointer none,.slice none 0 0] 265);rw [hn] at h;exact h
 have hX0:((w.alloc (.cells #[.slice (some ⟨blk,off,none⟩) (m + 1) cap,.bool neg] 225)).alloc (.cells #[.pointer none,.slice none 0 0] 265)).cell? ⟨n,0,none⟩ = some (.slice (some ⟨blk,off,none⟩) (m + 1) cap):=by
  have h1:(w.alloc (.cells #[.slice (some ⟨blk,off,none⟩) (m + 1) cap,.bool neg] 225)).heap[n]? = some (.cells #[.slice (some ⟨blk,off,none⟩) (m + 1) cap,.bool neg] 225):=by
   rw [<- hn];exact Array.getElem?_push_size
  have h2:=Below.heap_alloc (w.alloc (.cells #[.slice (some ⟨blk,off,none⟩) (m + 1) cap,.bool neg] 225)) (.cells #[.pointer none,.slice none 0 0] 265) n (by simp [hn]);have h3:=h2.trans h1;unfold World.cell?;simp only [h3];rfl
 have key:∀ (W:World),Below n w W -> ∀ j,j < m + 1 -> W.cell? ⟨blk,off + j,none⟩ = some (.int .i64 (D j)):=fun W hW j hj =>
  (hW.cell (p:=⟨blk,off + j,none⟩) hbn).trans (hdig j hj)
 have hwm:wrap64 (m:Int) = m:=IntWalk.wrap64_in _ ⟨by omega,by omega⟩;have hwm1:wrap64 ((m:Int) - 1) = (m:Int) - 1:=IntWalk.wrap64_in _ ⟨by omega,by omega⟩;have hHtxt:Hid (txt = (if neg = true then [45] else []) ++ Lib.itoa (D m) ++ T m):=hid (htxt);have hHin:Hid (∀ j,j < m + 1 -> 0 <= D j /\ D j < 1000000):=hid (hin);have hHk:Hid (∀ (W:World),Below n w W -> ∀ j,j < m + 1 -> W.cell? ⟨blk,off + j,none⟩ = some (.int .i64 (D j))):=hid (key);have hHt:Hid (Zq w):=hid (htab);have hH0:Hid (T 0 = []):=hid (hT0);have hH1:Hid (∀ k,k < m -> T (k + 1) = QZ (D k) ++ T k):=hid (hT1);clear htxt hin hdig key htab hT0 hT1
 cases neg with
 | true =>
  go_enter func250,ntmps250
  go_wp2_with (first
   | (go_at_call 273; refine (ago _ _ _ _).mono ?_; rintro e w' ⟨rfl,rfl⟩)
   | (go_at_call 275; go_must (refine (kWB (n + 1) (n + 1) [] 45 _ hI0 (by simp) (by rw [hW0]; omega) 45 rfl).mono ?_; rintro e W1 ⟨rfl,hI1,hb1⟩; have hx1:=(hb1.cell (p:=⟨n,0,none⟩) (Nat.lt_succ_self _)).trans hX0; have hbw1:=hB0.trans (hb1.mono (Nat.le_succ n)); have hdm:=hHk.out W1 hbw1 m (Nat.lt_succ_self m); have hs1:n + 2 <= W1.heap.size:=(by have:=hb1.size; rw [hW0] at this; exact this)))
   | (go_at_call 218; go_must (refine (YB (D m) (by have:=hHin.out m (Nat.lt_succ_self m); omega) (by have:=hHin.out m (Nat.lt_succ_self m); omega) W1 (HC hHt.out htn hbw1)).mono ?_; rintro e W2 ⟨rfl,hb2⟩; have hI2:=FZ hI1 hb2; have hx2:=(hb2.cell (p:=⟨n,0,none⟩) (show n < W1.heap.size by omega)).trans hx1; have hbw2:=hbw1.trans (hb2.mono (by omega)); have hs2:n + 2 <= W2.heap.size:=(by have:=hb2.size; omega)))
   | (go_at_call 238; go_must (refine (kWS (n + 1) (n + 1) ([] ++ [45]) (Lib.itoa (D m)) W2 hI2 (by have:=Lib.itoa_length_le (D m) (by have:=hHin.out m (Nat.lt_succ_self m); omega) (by have:=hHin.out m (Nat.lt_succ_self m); omega); simp; omega) (by omega)).mono ?_; rintro e W3 ⟨rfl,hI3,hb3⟩; have hx3:=(hb3.cell (p:=⟨n,0,none⟩) (Nat.lt_succ_self _)).trans hx2; have hbw3:=hbw2.trans (hb3.mono (Nat.le_succ n)); have hs3:n + 2 <= W3.heap.size:=(by have:=hb3.size; omega))))
  go_loopw [5] (fun u5 wr=>∃ (k:Nat) (acc:List UInt8),k <= m /\ u5 = .int .i64 ((k:Int) - 1) /\ Lib.IsBuilder 265 5 (n + 1) (n + 1) (Lib.byteCells acc) wr /\ Below n w wr /\ wr.cell? ⟨n,0,none⟩ = some (.slice (some ⟨blk,off,none⟩) (m + 1) cap) /\ n + 2 <= wr.heap.size /\ acc ++ T k = txt /\ acc.length <= 100 + 27 * (m - k))
   (fun u5 _=>(intOf u5 + 1).toNat)
  case atStart=>exact ⟨m,_,Nat.le_refl _,rfl,hI3,hbw3,hx3,hs3,by rw [hHtxt.out]; simp,by have:=XN (hHin.out m (Nat.lt_succ_self m)).1 (hHin.out m (Nat.lt_succ_self m)).2; simp; omega⟩
  case round =>
   obtain ⟨k,acc,hk,hu5,hI,hbw,hx,hs,hacc,hlen⟩:=hrel;have hHa:Hid (acc ++ T k = txt):=hid (hacc);clear hacc hI0 hX0 hB0 hW0 hI1 hb1 hx1 hbw1 hdm hs1 hb2 hI2 hx2 hbw2 hs2 hI3 hb3 hx3 hbw3 hs3
   cases k with
   | zero =>
    have hu6:u5 = .int .i64 (-1):=hu5;clear hu5;subst hu6
    go_wp2_with (first
     | (go_at_call 240; go_must (refine (Jp (n + 1) (n + 1) acc wr hI (by omega)).mono ?_; rintro e W4 ⟨rfl,hb4⟩)))
    go_ret
    have e0:=hHa.out;rw [hH0.out,List.append_nil] at e0;exact ⟨by rw [<- e0]; rfl,hbw.trans (hb4.mono (Nat.le_succ n))⟩
   | succ k =>
    obtain ⟨hwk,hwk1,hkm,hkm1,hkm2⟩:=wrapN hk hm67;have hdk:=hHk.out wr hbw k (by omega);obtain ⟨sd,zs,r,f1,f2,f3,hwl,f5,f6⟩:=JP (hHin.out k (by omega)).1 (hHin.out k (by omega)).2;have hwz:(6 - ((Ak sd).size:Int)) = (r:Int):=by rw [BH]; omega
    have hcat:(Ak zs).size + (Ak sd).size <= 9223372036854775807:=by rw [BH,BH]; omega
    have hHT:Hid (T (k + 1) = zs ++ sd ++ T k):=hid ((hH1.out k (by omega)).trans (by rw [f1]));have hHz:Hid (zs.length = r):=hid (f3);have hHr:Hid (r + sd.length = 6):=hid (f2);have hkI:Hid (Calls prog 218 #[.int .i64 (D k)] wr fun e w'=>e = .returned (.string (Ak sd)) /\ Below wr.heap.size wr w'):=hid (f5 wr (HC hHt.out htn hbw));have hkR:Hid (∀ W,Calls prog 195 #[.string (Ak [48]),.int .i64 (r:Int)] W fun e w'=>e = .returned (.string (Ak zs)) /\ Below W.heap.size W w'):=hid (f6);have hHl:Hid (acc.length <= 100 + 27 * (m - (k + 1))):=hid hlen;clear f1 f2 f3 f5 f6 hlen;have hu6:u5 = .int .i64 (k:Int):=hu5.trans (by rw [show ((k + 1:Nat):Int) - 1 = (k:Int) by omega]);clear hu5;subst hu6;have hk0:Hid (k + 1 <= m):=hid (hk);clear hk
    go_wp2_with (first
     | (go_at_call 218; go_must (refine Calls.mono hkI.out ?_; rintro e W1 ⟨rfl,hb1⟩; have hI1:=FZ hI hb1; have hx1:=(hb1.cell (p:=⟨n,0,none⟩) (show n < wr.heap.size by omega)).trans hx; have hbw1:=hbw.trans (hb1.mono (by omega)); have hs1:n + 2 <= W1.heap.size:=(by have:=hb1.size; omega)))
     | (go_at_call 195; go_must (refine Calls.mono (hkR.out W1) ?_; rintro e W2 ⟨rfl,hb2⟩; have hI2:=FZ hI1 hb2; have hx2:=(hb2.cell (p:=⟨n,0,none⟩) (show n < W1.heap.size by omega)).trans hx1; have hbw2:=hbw1.trans (hb2.mono (by omega)); have hs2:n + 2 <= W2.heap.size:=(by have:=hb2.size; omega)))
     | (go_at_call 238; go_must ((try rw [Ij]); refine (kWS (n + 1) (n + 1) acc (zs ++ sd) W2 hI2 (by have:=hHz.out; have:=hHr.out; have:=hHl.out; simp only [List.length_append]; omega) (by omega)).mono ?_; rintro e W3 ⟨rfl,hI3,hb3⟩; have hx3:=(hb3.cell (p:=⟨n,0,none⟩) (Nat.lt_succ_self _)).trans hx2; have hbw3:=hbw2.trans (hb3.mono (Nat.le_succ n)); have hs3:n + 2 <= W3.heap.size:=(by have:=hb3.size; omega))))
    go_roundw
    case rel =>
     have ha:=hHa.out;have hz:=hHz.out;have hr:=hHr.out;have hl:=hHl.out;have hm:=hk0.out;rw [hHT.out] at ha;refine ⟨k,acc ++ (zs ++ sd),by omega,rfl,hI3,hbw3,hx3,hs3,?_,?_⟩
     ·rw [<- ha]; simp
     ·simp only [List.length_append]; omega
    case measure =>
     simp only [intOf];omega
 | false =>
  have hdm:=hHk.out _ hB0 m (Nat.lt_succ_self m)
  go_enter func250,ntmps250
  go_wp2_with (first
   | (go_at_call 273; refine (ago _ _ _ _).mono ?_; rintro e w' ⟨rfl,rfl⟩)
   | (go_at_call 218; go_must (refine (YB (D m) (by have:=hHin.out m (Nat.lt_succ_self m); omega) (by have:=hHin.out m (Nat.lt_succ_self m); omega) _ (HC hHt.out htn hB0)).mono ?_; rintro e W2 ⟨rfl,hb2⟩; have hI2:=FZ hI0 hb2; have hx2:=(hb2.cell (p:=⟨n,0,none⟩) (by rw [hW0]; exact Nat.lt_add_of_pos_right (by decide))).trans hX0; have hbw2:=hB0.trans (hb2.mono (by rw [hW0]; exact Nat.le_add_right _ _)); have hs2:n + 2 <= W2.heap.size:=(by have:=hb2.size; rw [hW0] at this; exact this)))
   | (go_at_call 238; go_must (refine (kWS (n + 1) (n + 1) [] (Lib.itoa (D m)) W2 hI2 (by have:=Lib.itoa_length_le (D m) (by have:=hHin.out m (Nat.lt_succ_self m); omega) (by have:=hHin.out m (Nat.lt_succ_self m); omega); simp; omega) (by omega)).mono ?_; rintro e W3 ⟨rfl,hI3,hb3⟩; have hx3:=(hb3.cell (p:=⟨n,0,none⟩) (Nat.lt_succ_self _)).trans hx2; have hbw3:=hbw2.trans (hb3.mono (Nat.le_succ n)); have hs3:n + 2 <= W3.heap.size:=(by have:=hb3.size; omega))))
  go_loopw [5] (fun u5 wr=>∃ (k:Nat) (acc:List UInt8),k <= m /\ u5 = .int .i64 ((k:Int) - 1) /\ Lib.IsBuilder 265 5 (n + 1) (n + 1) (Lib.byteCells acc) wr /\ Below n w wr /\ wr.cell? ⟨n,0,none⟩ = some (.slice (some ⟨blk,off,none⟩) (m + 1) cap) /\ n + 2 <= wr.heap.size /\ acc ++ T k = txt /\ acc.length <= 100 + 27 * (m - k))
   (fun u5 _=>(intOf u5 + 1).toNat)
  case atStart=>exact ⟨m,_,Nat.le_refl _,rfl,hI3,hbw3,hx3,hs3,by rw [hHtxt.out]; simp,by have:=XN (hHin.out m (Nat.lt_succ_self m)).1 (hHin.out m (Nat.lt_succ_self m)).2; simp; omega⟩
  case round =>
   obtain ⟨k,acc,hk,hu5,hI,hbw,hx,hs,hacc,hlen⟩:=hrel;have hHa:Hid (acc ++ T k = txt):=hid (hacc);clear hacc hI0 hX0 hB0 hW0 hdm hb2 hI2 hx2 hbw2 hs2 hI3 hb3 hx3 hbw3 hs3
   cases k with
   | zero =>
    have hu6:u5 = .int .i64 (-1):=hu5;clear hu5;subst hu6
    go_wp2_with (first
     | (go_at_call 240; go_must (refine (Jp (n + 1) (n + 1) acc wr hI (by omega)).mono ?_; rintro e W4 ⟨rfl,hb4⟩)))
    go_ret
    have e0:=hHa.out;rw [hH0.out,List.append_nil] at e0;exact ⟨by rw [<- e0]; rfl,hbw.trans (hb4.mono (Nat.le_succ n))⟩
   | succ k =>
    obtain ⟨hwk,hwk1,hkm,hkm1,hkm2⟩:=wrapN hk hm67;have hdk:=hHk.out wr hbw k (by omega);obtain ⟨sd,zs,r,f1,f2,f3,hwl,f5,f6⟩:=JP (hHin.out k (by omega)).1 (hHin.out k (by omega)).2;have hwz:(6 - ((Ak sd).size:Int)) = (r:Int):=by rw [BH]; omega
    have hcat:(Ak zs).size + (Ak sd).size <= 9223372036854775807:=by rw [BH,BH]; omega
    have hHT:Hid (T (k + 1) = zs ++ sd ++ T k):=hid ((hH1.out k (by omega)).trans (by rw [f1]));have hHz:Hid (zs.length = r):=hid (f3);have hHr:Hid (r + sd.length = 6):=hid (f2);have hkI:Hid (Calls prog 218 #[.int .i64 (D k)] wr fun e w'=>e = .returned (.string (Ak sd)) /\ Below wr.heap.size wr w'):=hid (f5 wr (HC hHt.out htn hbw));have hkR:Hid (∀ W,Calls prog 195 #[.string (Ak [48]),.int .i64 (r:Int)] W fun e w'=>e = .returned (.string (Ak zs)) /\ Below W.heap.size W w'):=hid (f6);have hHl:Hid (acc.length <= 100 + 27 * (m - (k + 1))):=hid hlen;clear f1 f2 f3 f5 f6 hlen;have hu6:u5 = .int .i64 (k:Int):=hu5.trans (by rw [show ((k + 1:Nat):Int) - 1 = (k:Int) by omega]);clear hu5;subst hu6;have hk0:Hid (k + 1 <= m):=hid (hk);clear hk
    go_wp2_with (first
     | (go_at_call 218; go_must (refine Calls.mono hkI.out ?_; rintro e W1 ⟨rfl,hb1⟩; have hI1:=FZ hI hb1; have hx1:=(hb1.cell (p:=⟨n,0,none⟩) (show n < wr.heap.size by omega)).trans hx; have hbw1:=hbw.trans (hb1.mono (by omega)); have hs1:n + 2 <= W1.heap.size:=(by have:=hb1.size; omega)))
     | (go_at_call 195; go_must (refine Calls.mono (hkR.out W1) ?_; rintro e W2 ⟨rfl,hb2⟩; have hI2:=FZ hI1 hb2; have hx2:=(hb2.cell (p:=⟨n,0,none⟩) (show n < W1.heap.size by omega)).trans hx1; have hbw2:=hbw1.trans (hb2.mono (by omega)); have hs2:n + 2 <= W2.heap.size:=(by have:=hb2.size; omega)))
     | (go_at_call 238; go_must ((try rw [Ij]); refine (kWS (n + 1) (n + 1) acc (zs ++ sd) W2 hI2 (by have:=hHz.out; have:=hHr.out; have:=hHl.out; simp only [List.length_append]; omega) (by omega)).mono ?_; rintro e W3 ⟨rfl,hI3,hb3⟩; have hx3:=(hb3.cell (p:=⟨n,0,none⟩) (Nat.lt_succ_self _)).trans hx2; have hbw3:=hbw2.trans (hb3.mono (Nat.le_succ n)); have hs3:n + 2 <= W3.heap.size:=(by have:=hb3.size; omega))))
    go_roundw
    case rel =>
     have ha:=hHa.out;have hz:=hHz.out;have hr:=hHr.out;have hl:=hHl.out;have hm:=hk0.out;rw [hHT.out] at ha;refine ⟨k,acc ++ (zs ++ sd),by omega,rfl,hI3,hbw3,hx3,hs3,?_,?_⟩
     ·rw [<- ha]; simp
     ·simp only [List.length_append]; omega
    case measure =>
     simp only [intOf];omega
theorem ahR (d:List Int) (neg:Bool) (hd:F2 d):Af prog 250 [MH d neg] (· = .val (.string (Ak (GC d neg)))):=by
 refine Af.ahT ⟨_,func250,by decide,rfl⟩ rfl fun M vs hg hv=>?_;obtain ⟨sv,rfl,hs⟩:=ZX hv;obtain ⟨a,cap,rfl,hcell⟩:=ac7 hs;have htab:Zq M.w:=ab8 hg;clear hv hs hg;generalize M.w = w at *
 by_cases h0:d.length = 0
 ·have ht:GC d neg = [48]:=by unfold GC; rw [if_pos h0]
  rw [ht,h0]
  go_enter func250,ntmps250
  go_wp2
  go_ret
  exact ⟨rfl,(Below.refl _ w).alloc (Nat.le_refl _) _⟩
 ·have hb:((d.length:Int) == 0) = false:=beq_eq_false_iff_ne.2 (by omega)
  obtain ⟨⟨blk,off,sp⟩,rfl,hsp,_⟩:=hcell 0 (by omega);have hsp':sp = none:=hsp;subst hsp';have hdig:∀ j,j < d.length -> w.cell? ⟨blk,off + j,none⟩ = some (.int .i64 (d.getD j 0)):=fun j hj=>by
   obtain ⟨ad,h1,_,h2⟩:=hcell j hj;cases h1;exact h2
  clear hcell;obtain ⟨m,hm⟩:∃ m,d.length = m + 1:=⟨d.length - 1,by omega⟩
  rw [hm] at hdig;rw [hm];refine afb (GC d neg) (fun j=>d.getD j 0) (fun k=>(d.take k).reverse.flatMap QZ) neg m (by have:=(Nz hd (j:=0) (by omega)).2.2; omega) (fun j hj=>by have:=Nz hd (j:=j) (by omega); omega) rfl (fun k hk=>?_) ?_ blk off cap w htab hdig
  ·have:d.take (k + 1) = d.take k ++ [d.getD k 0]:=by
    rw [List.take_add_one,List.getElem?_eq_getElem (by omega),List.getD_eq_getElem?_getD,List.getElem?_eq_getElem (by omega)];rfl
   simp only [this,List.reverse_append,List.reverse_cons,List.reverse_nil,List.nil_append,List.cons_append,List.flatMap_cons]
  ·unfold GC
   rw [if_neg (by omega),hm];rfl
end Go.Proofs.Tryz

namespace Go.Proofs.Tryz
open Go.PM
theorem agd (d:List Int) (neg:Bool) (hd:F2 d):Af prog 250 [MH d neg] (· = .val (.string (Ak (GC d neg)))):=ahR d neg hd
end Go.Proofs.Tryz

namespace Go.Proofs.Tryz
open Go Go.RowKit Go.Shelf Go.PM
def G2 (s why:List UInt8):AV:=.iface 347 (.cptr [.val (.string (Ak [80,97,114,115,101,73,110,116])),.val (.string (Ak s)),.iface 373 (.cptr [.val (.string (Ak why))])])
def N2:List UInt8:=[105,110,118,97,108,105,100,32,115,121,110,116,97,120]
def OV:List UInt8:=[118,97,108,117,101,32,111,117,116,32,111,102,32,114,97,110,103,101]
def Fi (s:List UInt8):AV:=match Lib.parseIntB 64 s with
 | .ok v=>.tup [.val (.int .i64 v),.val .nilIface]
 | .range=>.tup [.val (.int .i64 (Lib.intSat 64 s)),G2 s OV]
 | _=>.tup [.val (.int .i64 0),G2 s N2]
theorem acy {M:Mem} {w':World} {N:Nat} {s why:List UInt8} {ev:Value} (htop:∀ b:Nat,M.w.heap.size <= b -> M.lo b = 0) (hB:Below M.w.heap.size M.w w') (hN:M.w.heap.size <= N) (hb:w'.heap[N]? = some (.cells #[.string ⟨#[80,97,114,115,101,73,110,116]⟩,.string (Ak s),ev] 365 (0,0)))
  (hev:Al M [] (.iface 373 (.cptr [.val (.string (Ak why))])) ev):Al ⟨w',fun b=>if b = N then 3 else M.lo b⟩ [] (G2 s why) (.iface 347 (.pointer (some ⟨N,0,none⟩))):=by
 have hA:Ch M ⟨w',fun b=>if b = N then 3 else M.lo b⟩:=⟨hB.size,hB.os,hB.tape,hB.output,fun b hb=>⟨hB.block b hb,by
  show (if b = N then 3 else M.lo b) = M.lo b
  rw [if_neg (by omega)]⟩⟩
 have hcell:∀ j,w'.cell? ⟨N,j,none⟩ = (#[.string ⟨#[80,97,114,115,101,73,110,116]⟩,.string (Ak s),ev]:Array Value)[j]?:=fun j=>by simp [World.cell?,hb]
 have himm:∀ j,j < 3 -> Mem.QM ⟨w',fun b=>if b = N then 3 else M.lo b⟩ N j:=fun j hj=>by
  refine ⟨by show j < if N = N then 3 else M.lo N; rw [if_pos rfl]; exact hj,?_⟩
  show (w'.cell? ⟨N,j,none⟩).isSome = true
  rw [hcell]
  match j,hj with
  | 0,_=>rfl
  | 1,_=>rfl
  | 2,_=>rfl
 have hget:∀ j,Mem.get ⟨w',fun b=>if b = N then 3 else M.lo b⟩ N j = ((#[.string ⟨#[80,97,114,115,101,73,110,116]⟩,.string (Ak s),ev]:Array Value)[j]?).getD undef:=fun j=>by
  unfold Mem.get
  show (w'.cell? ⟨N,j,none⟩).getD undef = _
  rw [hcell]
 have hev':Al ⟨w',fun b=>if b = N then 3 else M.lo b⟩ [] (.iface 373 (.cptr [.val (.string (Ak why))])) ev:=hev.mem (hA.gu (F:=fun _=>False) ⟨htop,fun _ h=>h.elim⟩).le;refine .iface (.cptr rfl (fun j c hc=>?_) (fun j c hc=>?_))
 ·have hj:j < 3:=(List.getElem?_eq_some_iff.1 hc).1
  refine ⟨by rw [Nat.zero_add]; exact himm j hj,?_⟩
  match j,hj with
  | 0,_=>cases hc; rfl
  | 1,_=>cases hc; rfl
  | 2,_=>cases hc; rfl
 ·have hj:j < 3:=(List.getElem?_eq_some_iff.1 hc).1
  rw [Nat.zero_add,hget]
  match j,hj with
  | 0,_=>cases hc; exact .val rfl
  | 1,_=>cases hc; exact .val rfl
  | 2,_=>cases hc; exact hev'
theorem ahJ (s:List UInt8) (hs:s.length <= 281474976710656):Af prog 251 [.val (.string (Ak s)),.val (.int .i64 10),.val (.int .i64 64)] (· = Fi s):=by
 refine Af.afY (vals:=[.string (Ak s),.int .i64 10,.int .i64 64]) (SD func251 (by decide) rfl) fun M hM htop=>?_;have hsz:(Ak s).size = s.length:=BH s;have hgo:∀ (w':World) (N:Nat) (why:List UInt8) (n:Int) (ev:Value),Below M.w.heap.size M.w w' -> M.w.heap.size <= N -> w'.heap[N]? = some (.cells #[.string ⟨#[80,97,114,115,101,73,110,116]⟩,.string (Ak s),ev] 365 (0,0)) ->
   Al M [] (.iface 373 (.cptr [.val (.string (Ak why))])) ev -> Fi s = .tup [.val (.int .i64 n),G2 s why] ->
   ∃ x xv lo,Ending.returned (.tuple #[.int .i64 n,.iface 347 (.pointer (some ⟨N,0,none⟩))]) = .returned xv /\ x = Fi s /\ x.pure = true /\ Below M.w.heap.size M.w w' /\ (∀ b:Nat,b < M.w.heap.size -> lo b = M.lo b) /\ (∀ b:Nat,w'.heap.size <= b -> lo b = 0) /\ Al ⟨w',lo⟩ [] x xv:=by
  intro w' N why n ev hB hN hb hev hp;refine ⟨_,_,fun b=>if b = N then 3 else M.lo b,rfl,rfl,?_,hB,fun b hb=>by show (if b = N then 3 else M.lo b) = _; rw [if_neg (by omega)],fun b hb'=>?_,?_⟩
  ·rw [hp]; rfl
  ·have hlt:N < w'.heap.size:=(Array.getElem?_eq_some_iff.1 hb).1
   show (if b = N then 3 else M.lo b) = 0
   rw [if_neg (by omega)];exact htop b (Nat.le_trans hB.size hb')
  ·rw [hp]
   refine .tup rfl fun i c hc=>?_
   match i,hc with
   | 0,hc=>cases hc; exact .val rfl
   | 1,hc=>cases hc; exact acy htop hB hN hb hev
 cases h:Lib.parseIntB 64 s with
 | ok v =>
  have hp:Fi s = .tup [.val (.int .i64 v),.val .nilIface]:=by unfold Fi; rw [h]
  refine Calls.mono (Any.strconv_ParseInt_10_at64_ok RT (Ak s) (by rw [hsz]; omega) v h M.w) fun e w' ⟨h1,h2⟩=>?_;have hB:Below M.w.heap.size M.w w':=by
   rcases h2 with rfl | ⟨t,rfl⟩
   ·exact Below.refl _ _
   ·exact Lib.bytesWorld_below _ _ _
  refine ⟨_,_,M.lo,h1,rfl,by rw [hp]; rfl,hB,fun _ _=>rfl,fun b hb=>htop b (Nat.le_trans hB.size hb),?_⟩;rw [hp];refine .tup rfl fun i c hc=>?_
  match i,hc with
  | 0,hc=>cases hc; exact .val rfl
  | 1,hc=>cases hc; exact .val rfl
 | range =>
  have hp:Fi s = .tup [.val (.int .i64 (Lib.intSat 64 s)),G2 s OV]:=by unfold Fi; rw [h]
  obtain ⟨ev,hv,hev⟩:=GB.ack hM (g:=3) rfl (j:=0) rfl;refine Calls.mono (Any.strconv_ParseInt_10_at64_range RT (Ak s) (by rw [hsz]; exact hs) h ev M.w hv (by cases hev; exact .inr ⟨_,_,rfl⟩)) fun e w' ⟨N,h1,h2,h3,h4⟩=>?_;subst h1;exact hgo w' N OV _ ev h4 h2 h3 hev hp
 | _ =>
  have hp:Fi s = .tup [.val (.int .i64 0),G2 s N2]:=by unfold Fi; rw [h]
  obtain ⟨ev,hv,hev⟩:=GB.ack hM (g:=2) rfl (j:=0) rfl;refine Calls.mono (Any.strconv_ParseInt_10_at64_syntax RT (Ak s) (by rw [hsz]; exact hs) h ev M.w hv (by cases hev; exact .inr ⟨_,_,rfl⟩)) fun e w' ⟨N,h1,h2,h3,h4⟩=>?_;subst h1;exact hgo w' N N2 0 ev h4 h2 h3 hev hp
end Go.Proofs.Tryz
