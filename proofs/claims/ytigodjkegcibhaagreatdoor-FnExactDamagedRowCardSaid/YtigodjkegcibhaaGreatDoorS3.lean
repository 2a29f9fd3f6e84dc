/- Functions of the given program and of its reference: what each returns, as an equation over data; by the interpreter. -/
import Derived.Test.YtigodjkegcibhaaGreatDoorS2
import Derived.Test.YtigodjkegcibhaaGreatDoorProg
import Derived.KernelRfl
import Derived.Shelf.Spec.SlicesInsertGrow
import Derived.Lib.SlicesDelete
import Derived.Deep.RegionLaw
import Derived.Deep.LoopGhost
import Derived.Below
import Derived.Shelf.LaysM
import Derived.Shelf.Strconv.Itoa3
import Derived.Shelf.LaysC
import Derived.Shelf.Strconv.AtoiAll
import Derived.Lib.AppendIntMem
import Derived.Lib.Bytealg
import Derived.Sort.Walk0
set_option linter.unusedVariables false
set_option linter.unusedSimpArgs false
set_option linter.unusedSectionVars false
set_option linter.deprecated false
namespace Go.Proofs.YtigodjkegcibhaaGreatDoor.V
open Go.Shelf
def aUf:Go.Shelf.Ren:=⟨fun | 171=>120 | 243=>143 | 246=>130 | 283=>153 | 284=>154 | 285=>155 | 286=>156 | 129=>184 | 317=>183 | 318=>185 | 319=>186 | 320=>187 | 337=>210 | 338=>211 | n=>n,fun | 3=>3 | 9=>9 | 2=>2 | 4=>4 | 171=>164 | 0=>0 | 53=>165 | 37=>109 | 5=>5 | 173=>168 | 212=>187 | 51=>170 | 20=>20 | 213=>188 | 46=>114 | 232=>212 | 233=>213 | n=>n,fun | 17=>0 | 18=>4 | 19=>5 | n=>n⟩
theorem aUg:Go.Proofs.LaysM.n171 Tryz.prog aUf:={
 mixed:=by kernel_rfl
 f129:=Tryz.func184.trans (congrArg some (by kernel_rfl))
 f171:=Tryz.func120.trans (congrArg some (by kernel_rfl))
 f243:=Tryz.func143.trans (congrArg some (by kernel_rfl))
 f246:=Tryz.func130.trans (congrArg some (by kernel_rfl))
 f283:=Tryz.func153.trans (congrArg some (by kernel_rfl))
 f284:=Tryz.func154.trans (congrArg some (by kernel_rfl))
 f285:=Tryz.func155.trans (congrArg some (by kernel_rfl))
 f286:=Tryz.func156.trans (congrArg some (by kernel_rfl))
 f317:=Tryz.func183.trans (congrArg some (by kernel_rfl))
 f318:=Tryz.func185.trans (congrArg some (by kernel_rfl))
 f319:=Tryz.func186.trans (congrArg some (by kernel_rfl))
 f320:=Tryz.func187.trans (congrArg some (by kernel_rfl))
 f337:=Tryz.func210.trans (congrArg some (by kernel_rfl))
 f338:=Tryz.func211.trans (congrArg some (by kernel_rfl))
 t0:=Tryz.underlying0
 a0:=Tryz.isAgg0
 z0:=Tryz.sizeOf0
 v0:=Tryz.zeroValue0
 t2:=Tryz.underlying2
 a2:=Tryz.isAgg2
 z2:=Tryz.sizeOf2
 v2:=Tryz.zeroValue2
 t3:=Tryz.underlying3
 a3:=Tryz.isAgg3
 z3:=Tryz.sizeOf3
 v3:=Tryz.zeroValue3
 t4:=Tryz.underlying4
 a4:=Tryz.isAgg4
 z4:=Tryz.sizeOf4
 v4:=Tryz.zeroValue4
 t5:=Tryz.underlying5
 a5:=Tryz.isAgg5
 z5:=Tryz.sizeOf5
 v5:=Tryz.zeroValue5
 t9:=Tryz.underlying9
 a9:=Tryz.isAgg9
 z9:=Tryz.sizeOf9
 v9:=Tryz.zeroValue9
 t20:=Tryz.underlying20
 a20:=Tryz.isAgg20
 z20:=Tryz.sizeOf20
 v20:=Tryz.zeroValue20
 t37:=Tryz.underlying109
 a37:=Tryz.isAgg109
 z37:=Tryz.sizeOf109
 v37:=Tryz.zeroValue109
 t46:=Tryz.underlying114
 a46:=Tryz.isAgg114
 z46:=Tryz.sizeOf114
 v46:=Tryz.zeroValue114
 t51:=Tryz.underlying170
 a51:=Tryz.isAgg170
 z51:=Tryz.sizeOf170
 v51:=Tryz.zeroValue170
 t53:=Tryz.underlying165
 a53:=Tryz.isAgg165
 z53:=Tryz.sizeOf165
 v53:=Tryz.zeroValue165
 t171:=Tryz.underlying164
 a171:=Tryz.isAgg164
 z171:=Tryz.sizeOf164
 v171:=Tryz.zeroValue164
 t173:=Tryz.underlying168
 a173:=Tryz.isAgg168
 z173:=Tryz.sizeOf168
 v173:=Tryz.zeroValue168
 t212:=Tryz.underlying187
 a212:=Tryz.isAgg187
 z212:=Tryz.sizeOf187
 v212:=Tryz.zeroValue187
 t213:=Tryz.underlying188
 a213:=Tryz.isAgg188
 z213:=Tryz.sizeOf188
 t232:=Tryz.underlying212
 a232:=Tryz.isAgg212
 z232:=Tryz.sizeOf212
 v232:=Tryz.zeroValue212
 t233:=Tryz.underlying213
 a233:=Tryz.isAgg213
 z233:=Tryz.sizeOf213
 v233:=Tryz.zeroValue213
 g17:=by kernel_rfl
 g18:=by kernel_rfl
 g19:=by kernel_rfl
 i0:=by kernel_rfl
 i2:=by kernel_rfl
 i3:=by kernel_rfl
 i4:=by kernel_rfl
 i5:=by kernel_rfl
 i9:=by kernel_rfl
 i20:=by kernel_rfl
 i37:=by kernel_rfl
 i46:=by kernel_rfl
 i51:=by kernel_rfl
 i53:=by kernel_rfl
 i171:=by kernel_rfl
 i173:=by kernel_rfl
 i212:=by kernel_rfl
 i232:=by kernel_rfl
 i233:=by kernel_rfl
 m17:=by kernel_rfl
 m18:=by kernel_rfl
 m19:=by kernel_rfl}
open Go.RowKit Go.Sort Go.Lib in
theorem aUe (n : Int) (h0 : -9223372036854775808 ≤ n) (h1 : n ≤ 9223372036854775807) (w : World) (htab : Lib.TabIs Tryz.prog w "internal/strconv.uint64pow10" .u64 Lib.pow10Tab) :
  Calls Tryz.prog 120 #[.int .i64 n] w fun e w'=>e=.returned (.string ⟨(Lib.itoa n).toArray⟩)∧∃ k os,w'=grow (w.drewN k) os:=Any.strconv_Itoa aUg n h0 h1 w htab
def aUh:Go.Shelf.Ren:=⟨fun | 172=>139 | 244=>163 | 245=>164 | 247=>194 | 279=>195 | 280=>196 | 281=>197 | 282=>198 | 287=>214 | 316=>215 | 171=>120 | 205=>216 | 321=>218 | 322=>219 | 243=>143 | 246=>130 | 283=>153 | 284=>154 | 285=>155 | 286=>156 | 129=>184 | 317=>183 | 318=>185 | 319=>186 | 320=>187 | 337=>210 | 338=>211 | n=>n,fun | 9=>9 | 3=>3 | 75=>151 | 76=>152 | 4=>4 | 5=>5 | 167=>194 | 37=>109 | 0=>0 | 85=>195 | 2=>2 | 168=>197 | 53=>165 | 175=>205 | 46=>114 | 210=>209 | 127=>175 | 145=>217 | 143=>215 | 21=>21 | 171=>164 | 173=>168 | 212=>187 | 51=>170 | 20=>20 | 213=>188 | 232=>212 | 233=>213 | 80=>155 | n=>n,fun | 15=>2 | 16=>3 | 17=>0 | 18=>4 | 19=>5 | n=>n⟩
theorem aOc:Go.Proofs.LaysC.n172 Tryz.prog aUh:={
 mixed:=by kernel_rfl
 f129:=Tryz.func184.trans (congrArg some (by kernel_rfl))
 f171:=Tryz.func120.trans (congrArg some (by kernel_rfl))
 f172:=Tryz.func139.trans (congrArg some (by kernel_rfl))
 f205:=Tryz.func216.trans (congrArg some (by kernel_rfl))
 f243:=Tryz.func143.trans (congrArg some (by kernel_rfl))
 f244:=Tryz.func163.trans (congrArg some (by kernel_rfl))
 f245:=Tryz.func164.trans (congrArg some (by kernel_rfl))
 f246:=Tryz.func130.trans (congrArg some (by kernel_rfl))
 f247:=Tryz.func194.trans (congrArg some (by kernel_rfl))
 f279:=Tryz.func195.trans (congrArg some (by kernel_rfl))
 f280:=Tryz.func196.trans (congrArg some (by kernel_rfl))
 f281:=Tryz.func197.trans (congrArg some (by kernel_rfl))
 f282:=Tryz.func198.trans (congrArg some (by kernel_rfl))
 f283:=Tryz.func153.trans (congrArg some (by kernel_rfl))
 f284:=Tryz.func154.trans (congrArg some (by kernel_rfl))
 f285:=Tryz.func155.trans (congrArg some (by kernel_rfl))
 f286:=Tryz.func156.trans (congrArg some (by kernel_rfl))
 f287:=Tryz.func214.trans (congrArg some (by kernel_rfl))
 f316:=Tryz.func215.trans (congrArg some (by kernel_rfl))
 f317:=Tryz.func183.trans (congrArg some (by kernel_rfl))
 f318:=Tryz.func185.trans (congrArg some (by kernel_rfl))
 f319:=Tryz.func186.trans (congrArg some (by kernel_rfl))
 f320:=Tryz.func187.trans (congrArg some (by kernel_rfl))
 f321:=Tryz.func218.trans (congrArg some (by kernel_rfl))
 f322:=Tryz.func219.trans (congrArg some (by kernel_rfl))
 f337:=Tryz.func210.trans (congrArg some (by kernel_rfl))
 f338:=Tryz.func211.trans (congrArg some (by kernel_rfl))
 t0:=Tryz.underlying0
 a0:=Tryz.isAgg0
 z0:=Tryz.sizeOf0
 v0:=Tryz.zeroValue0
 t2:=Tryz.underlying2
 a2:=Tryz.isAgg2
 z2:=Tryz.sizeOf2
 v2:=Tryz.zeroValue2
 t3:=Tryz.underlying3
 a3:=Tryz.isAgg3
 z3:=Tryz.sizeOf3
 v3:=Tryz.zeroValue3
 t4:=Tryz.underlying4
 a4:=Tryz.isAgg4
 z4:=Tryz.sizeOf4
 v4:=Tryz.zeroValue4
 t5:=Tryz.underlying5
 a5:=Tryz.isAgg5
 z5:=Tryz.sizeOf5
 v5:=Tryz.zeroValue5
 t9:=Tryz.underlying9
 a9:=Tryz.isAgg9
 z9:=Tryz.sizeOf9
 v9:=Tryz.zeroValue9
 t20:=Tryz.underlying20
 a20:=Tryz.isAgg20
 z20:=Tryz.sizeOf20
 v20:=Tryz.zeroValue20
 t21:=Tryz.underlying21
 a21:=Tryz.isAgg21
 z21:=Tryz.sizeOf21
 v21:=Tryz.zeroValue21
 t37:=Tryz.underlying109
 a37:=Tryz.isAgg109
 z37:=Tryz.sizeOf109
 v37:=Tryz.zeroValue109
 t46:=Tryz.underlying114
 a46:=Tryz.isAgg114
 z46:=Tryz.sizeOf114
 v46:=Tryz.zeroValue114
 t51:=Tryz.underlying170
 a51:=Tryz.isAgg170
 z51:=Tryz.sizeOf170
 v51:=Tryz.zeroValue170
 t53:=Tryz.underlying165
 a53:=Tryz.isAgg165
 z53:=Tryz.sizeOf165
 v53:=Tryz.zeroValue165
 t75:=Tryz.underlying151
 a75:=Tryz.isAgg151
 z75:=Tryz.sizeOf151
 v75:=Tryz.zeroValue151
 t76:=Tryz.underlying152
 a76:=Tryz.isAgg152
 z76:=Tryz.sizeOf152
 v76:=Tryz.zeroValue152
 t85:=Tryz.underlying195
 a85:=Tryz.isAgg195
 z85:=Tryz.sizeOf195
 v85:=Tryz.zeroValue195
 t127:=Tryz.underlying175
 a127:=Tryz.isAgg175
 z127:=Tryz.sizeOf175
 v127:=Tryz.zeroValue175
 t143:=Tryz.underlying215
 a143:=Tryz.isAgg215
 z143:=Tryz.sizeOf215
 v143:=Tryz.zeroValue215
 t145:=Tryz.underlying217
 a145:=Tryz.isAgg217
 z145:=Tryz.sizeOf217
 v145:=Tryz.zeroValue217
 t167:=Tryz.underlying194
 a167:=Tryz.isAgg194
 z167:=Tryz.sizeOf194
 v167:=Tryz.zeroValue194
 t168:=Tryz.underlying197
 a168:=Tryz.isAgg197
 z168:=Tryz.sizeOf197
 v168:=Tryz.zeroValue197
 t171:=Tryz.underlying164
 a171:=Tryz.isAgg164
 z171:=Tryz.sizeOf164
 v171:=Tryz.zeroValue164
 t173:=Tryz.underlying168
 a173:=Tryz.isAgg168
 z173:=Tryz.sizeOf168
 v173:=Tryz.zeroValue168
 t175:=Tryz.underlying205
 a175:=Tryz.isAgg205
 z175:=Tryz.sizeOf205
 v175:=Tryz.zeroValue205
 t210:=Tryz.underlying209
 a210:=Tryz.isAgg209
 z210:=Tryz.sizeOf209
 v210:=Tryz.zeroValue209
 t212:=Tryz.underlying187
 a212:=Tryz.isAgg187
 z212:=Tryz.sizeOf187
 v212:=Tryz.zeroValue187
 t213:=Tryz.underlying188
 a213:=Tryz.isAgg188
 z213:=Tryz.sizeOf188
 t232:=Tryz.underlying212
 a232:=Tryz.isAgg212
 z232:=Tryz.sizeOf212
 v232:=Tryz.zeroValue212
 t233:=Tryz.underlying213
 a233:=Tryz.isAgg213
 z233:=Tryz.sizeOf213
 v233:=Tryz.zeroValue213
 g15:=by kernel_rfl
 g16:=by kernel_rfl
 g17:=by kernel_rfl
 g18:=by kernel_rfl
 g19:=by kernel_rfl
 t80:=Tryz.underlying155
 a80:=Tryz.isAgg155
 z80:=Tryz.sizeOf155
 v80:=Tryz.zeroValue155
 i0:=by kernel_rfl
 i2:=by kernel_rfl
 i3:=by kernel_rfl
 i4:=by kernel_rfl
 i5:=by kernel_rfl
 i9:=by kernel_rfl
 i20:=by kernel_rfl
 i21:=by kernel_rfl
 i37:=by kernel_rfl
 i46:=by kernel_rfl
 i51:=by kernel_rfl
 i53:=by kernel_rfl
 i75:=by kernel_rfl
 i76:=by kernel_rfl
 i80:=by kernel_rfl
 i85:=by kernel_rfl
 i127:=by kernel_rfl
 i143:=by kernel_rfl
 i145:=by kernel_rfl
 i167:=by kernel_rfl
 i168:=by kernel_rfl
 i171:=by kernel_rfl
 i173:=by kernel_rfl
 i175:=by kernel_rfl
 i210:=by kernel_rfl
 i212:=by kernel_rfl
 i232:=by kernel_rfl
 i233:=by kernel_rfl
 m15:=by kernel_rfl
 m16:=by kernel_rfl
 m17:=by kernel_rfl
 m18:=by kernel_rfl
 m19:=by kernel_rfl
 c0:=by kernel_rfl
 c2:=by kernel_rfl
 c3:=by kernel_rfl
 c4:=by kernel_rfl
 c5:=by kernel_rfl
 c9:=by kernel_rfl
 c20:=by kernel_rfl
 c21:=by kernel_rfl
 c37:=by kernel_rfl
 c46:=by kernel_rfl
 c51:=by kernel_rfl
 c53:=by kernel_rfl
 c75:=by kernel_rfl
 c76:=by kernel_rfl
 c80:=by kernel_rfl
 c85:=by kernel_rfl
 c127:=by kernel_rfl
 c143:=by kernel_rfl
 c145:=by kernel_rfl
 c167:=by kernel_rfl
 c168:=by kernel_rfl
 c171:=by kernel_rfl
 c173:=by kernel_rfl
 c175:=by kernel_rfl
 c210:=by kernel_rfl
 c212:=by kernel_rfl
 c213:=by kernel_rfl
 c232:=by kernel_rfl
 c233:=by kernel_rfl}
open Go.RowKit in
theorem aP7 (s:ByteArray) (hmax:s.size≤9223372036854775806) (v:Int) (h:Lib.atoiAll s.data.toList=.ok v) (w:World) :
  Calls Tryz.prog 139 #[.string s] w fun e w'=>e=.returned (.tuple #[.int .i64 v,.nilIface])∧(w'=w∨∃ t,w'=Lib.bytesWorld w 5 t):=Any.strconv_Atoi_ok aOc s hmax v h w
open Go.RowKit in
theorem aK9 (s:ByteArray) (hlim:s.size≤281474976710656) (h:Lib.atoiAll s.data.toList=Lib.atoiAll []) (ev:Value) (w:World) (hv:w.cell? ⟨2,0,none⟩=some ev) (hev:ev=.nilIface∨∃ te pe,ev=.iface te pe) :
  Calls Tryz.prog 139 #[.string s] w fun e w'=>∃ N,e=.returned (.tuple #[.int .i64 (0),.iface 197 (.pointer (some ⟨N,0,none⟩))])∧w.heap.size≤N∧w'.heap[N]? =some (.cells #[.string ⟨#[65,116,111,105]⟩,.string s,ev] 209 (0,0))∧Below w.heap.size w w':=Any.strconv_Atoi_syntax aOc s hlim h ev w hv hev
open Go.RowKit in
theorem aKm (s:ByteArray) (hlim:s.size≤281474976710656) (h:Lib.atoiAll s.data.toList=.range) (ev:Value) (w:World) (hv:w.cell? ⟨3,0,none⟩=some ev) (hev:ev=.nilIface∨∃ te pe,ev=.iface te pe) :
  Calls Tryz.prog 139 #[.string s] w fun e w'=>∃ N,e=.returned (.tuple #[.int .i64 (Lib.atoiSat s.data.toList),.iface 197 (.pointer (some ⟨N,0,none⟩))])∧w.heap.size≤N∧w'.heap[N]? =some (.cells #[.string ⟨#[65,116,111,105]⟩,.string s,ev] 209 (0,0))∧Below w.heap.size w w':=Any.strconv_Atoi_range aOc s hlim h ev w hv hev
theorem bDv : Tryz.prog.globalNamed "strconv.ErrSyntax" = some 2 := by kernel_rfl
theorem bHz : Tryz.prog.globalNamed "strconv.ErrRange" = some 3 := by kernel_rfl
end Go.Proofs.YtigodjkegcibhaaGreatDoor.V
namespace Go.Proofs.YtigodjkegcibhaaGreatDoor.V
noncomputable section
def aMe:Spec:=fun cs=>match cs with
 |[.int .i64 n]=>some (inB n 0 1000000000,[.str (aIp n)])
 |_=>none
def bX8:Env:=mkE [] [(120,(sg [pI] [rS]),aMe)]
def aOq (t:List UInt8):Int:=match Lib.atoiAll t with | .ok v=>v | .range=>Lib.atoiSat t | _=>0
def aNl (t:List UInt8):Er:=match Lib.atoiAll t with | .ok _=>.nil | _=>.any
def bD0:Spec:=fun cs=>match cs with
 |[.str t]=>some (decide (t.length≤281474976710656),[.int .i64 (aOq t),.err (aNl t)])
 |_=>none
def cBa:Env:=mkE [] [(85,(sg [pI] [rB]),aCm),(101,(sg [pI] [rS]),aMe),(139,(sg [pS] [rI,⟨false,[(.err,false)]⟩]),bD0)]
end
set_option maxRecDepth 100000
theorem bS3 (H:List Pt→Nat→St→T (List C)) (n:Int):(aAi bX8 aAa (sg [pI] [rS]) Tryz.f101 H [C.int .i64 n]).eval=((.must (inB n 0 1000000000) (.ret [C.str (aIp n)])):T (List C)).eval:=aAh (by kernel_rfl)
theorem bVc (H:List Pt→Nat→St→T (List C)) (t:List UInt8):(aAi cBa aAa (sg [pS] [rI,rB]) Tryz.f115 H [C.str t]).eval=((.must (decide (t.length≤281474976710656)) (.ask (!match aNl t with | Er.nil=>true | x=>false) (.ret [C.int .i64 0,C.bool false]) (.ask (inB (aOq t) 0 1000000000) (.must (inB (aOq t) 0 1000000000) (.ask (!aIp (aOq t)==t) (.ret [C.int .i64 0,C.bool false]) (.ret [C.int .i64 (aOq t),C.bool true]))) (.ret [C.int .i64 0,C.bool false])))):T (List C)).eval:=aAh (by kernel_rfl)
theorem bGt:∀ (f n:Nat) (s:List UInt8),0<n→n<10^f→bGu f n s=Lib.decDigits n++s
 |0,n,s,h0,h=>by simp at h;omega
 |f+1,n,s,h0,h=>by
  unfold bGu
  rw[if_neg (by omega)]
  by_cases c:n<10
  ·have e:n / 10=0:=by omega
   rw[e,Lib.decDigits,dif_pos c]
   have hz:∀ (f:Nat) (s:List UInt8),bGu f 0 s=s:=fun f s=>by cases f<;>simp[bGu]
   rw[hz]
   show _=cAq n::s
   rw[Nat.mod_eq_of_lt c]
  ·rw[bGt f (n / 10) _ (by omega) (by rw[Nat.pow_succ]at h;omega)]
   have e:Lib.decDigits n=Lib.decDigits (n / 10)++[UInt8.ofNat (48+n % 10)]:=by rw[Lib.decDigits,dif_neg c]
   rw[e,List.append_assoc]
   rfl
theorem aZi (n:Nat) (h:n<100000000000000000000):aIp (n:Int)=Lib.itoa n:=by
 unfold aIp Lib.itoa
 rw[if_neg (by omega:¬(n:Int)<0),Int.toNat_natCast]
 by_cases c:n=0
 ·subst c;simp[Lib.decDigits]
 ·rw[if_neg (by omega),bGt 20 n [] (by omega) (by simpa using h),List.append_nil]
theorem bSo:∀ (k u:Nat),u<10^k→1≤k→(Lib.decDigits u).length≤k
 |0,u,h,h1=>by omega
 |k+1,u,h,h1=>by
  rw[Lib.decDigits]
  split
  ·simp
  ·rename_i c
   have hk:k≠0:=fun e=>by subst e;simp at h;omega
   have:=bSo k (u / 10) (by rw[Nat.pow_succ]at h;omega) (by omega)
   rw[List.length_append]
   simp only[List.length_cons,List.length_nil]
   omega
theorem bVv:∀ (u:Nat),∀ c∈Lib.decDigits u,48≤c.toNat∧c.toNat≤57:=by
 intro u
 induction u using Nat.strongRecOn with
 |_ u ih =>
  have fig:∀ d:Nat,d<10→48≤(UInt8.ofNat (48+d)).toNat∧(UInt8.ofNat (48+d)).toNat≤57:=fun d hd=>by
   rw[UInt8.toNat_ofNat']
   omega
  intro c hc
  rw[Lib.decDigits]at hc
  split at hc
  ·rename_i h
   simp only[List.mem_singleton]at hc
   subst hc
   exact fig u h
  ·rename_i h
   rcases List.mem_append.1 hc with hc | hc
   ·exact ih (u / 10) (by omega) c hc
   ·simp only[List.mem_singleton]at hc
    subst hc
    exact fig (u % 10) (by omega)
theorem bG7 {P:Program} {nm:String} {g:Nat} (hn:P.globalNamed nm=some g):∃ gi,P.globals[g]? =some gi∧gi.name=nm:=by
 unfold Program.globalNamed at hn
 split at hn
 ·rename_i q hq
  obtain rfl:=Option.some.inj hn
  have hm:q∈(List.range P.globals.size).filter fun g=>(P.globals[g]?).any (·.name==nm):=by rw[hq];exact List.mem_singleton.2 rfl
  have:=(List.mem_filter.1 hm).2
  cases hgq:P.globals[q]? with
  |none=>rw[hgq]at this;cases this
  |some gi=>rw[hgq]at this;exact⟨gi,rfl,by simpa using this⟩
 ·cases hn
theorem bTu {w : World} {okR : Nat → Prop} (hg : aS9 Tryz.prog w okR) : Lib.TabIs Tryz.prog w "internal/strconv.uint64pow10" .u64 Lib.pow10Tab := by
 obtain ⟨g, hn⟩ : ∃ g, Tryz.prog.globalNamed "internal/strconv.uint64pow10" = some g := ⟨_, aUg.m17⟩
 obtain⟨gi,h1,h2⟩:=bG7 hn
 obtain⟨⟨_,ht⟩,_⟩:=hg g (bZm aJx) ⟨gi,h1,by rw[h2];rfl⟩
 obtain⟨E,fr,hh⟩:=ht rfl
 unfold Lib.TabIs World.var?
 rw[hn,Option.bind_some,hh]
 rfl
theorem bLw {f : FuncId} {fn : Func} (hf : Tryz.prog.funcs[f]? = some fn) (hn : (fn.name == "runtime.NumGoroutine") = false) (hb : fn.body.isSome = true) (args : Array Value) (w : World) : (callFunc f args).run Tryz.prog w = .ok (.enter f args) w := by
 have hn' : fn.name ≠ "runtime.NumGoroutine" := by simpa using hn
 obtain⟨c,hc⟩:=Option.isSome_iff_exists.1 hb
 simp[callFunc,hf,hn',hc,mark]
theorem bJj:aAs Tryz.prog 120 (sg [pI] [rS]) aMe:=by
 intro w okR pb vals cs outs hok hg hpb ha hk h
 unfold aMe at h
 split at h
 ·simp only[Option.some.injEq,Prod.mk.injEq,aBr]at h
  obtain⟨⟨h1,h2⟩,rfl⟩:=h
  rename_i n
  generalize hcs:[C.int .i64 n]=cs0 at ha
  cases ha with
  |val l1 r1 a1 =>
   cases a1
   obtain⟨d,rfl,hr⟩:=r1
   simp only[List.append_nil,List.cons.injEq,and_true]at hcs
   subst hcs
   cases hr
   refine .inl ⟨bLw Tryz.func120 (by kernel_rfl) rfl _ w,(aUe n (by omega) (by omega) w (bTu hg)).mono ?_⟩
   rintro e w' ⟨rfl,k,os,rfl⟩
   obtain⟨m,rfl⟩:=Int.eq_ofNat_of_zero_le h1
   have hbl:=Lib.below_grow w.heap.size w (Nat.le_refl _) k os
   rw[←aZi m (by omega)]
   exact⟨_,rfl,⟨⟨[.string ⟨(aIp m).toArray⟩],[],[.str (aIp m)],[],fun _=>False,fun b hb=>hb.elim,rfl,rfl,.one (cs1:=[.str (aIp m)]) (cs:=[]) (bs1:=[]) (bs:=[]) rfl (.data (.str ⟨(aIp m).toArray⟩) .nil) .nil,.val .nil,fun i j b hi=>by simp at hi,fun b hb=>by simp at hb⟩,hbl.size,fun b hb _=>hbl.block b hb,hbl.os,hbl.output⟩⟩
 ·cases h
theorem cC5 (e:Lib.NumEnd Int):(∃ v,e=.ok v)∨e=.range∨e=Lib.atoiAll []:=by
 cases e
 ·exact .inl ⟨_,rfl⟩
 ·exact .inr (.inr rfl)
 ·exact .inr (.inl rfl)
theorem bKt:aAs Tryz.prog 139 (sg [pS] [rI,⟨false,[(.err,false)]⟩]) bD0:=by
 intro w okR pb vals cs outs hok hg hpb ha hk h
 unfold bD0 at h
 split at h
 ·simp only[Option.some.injEq,Prod.mk.injEq,decide_eq_true_eq]at h
  obtain⟨h1,rfl⟩:=h
  rename_i t
  generalize hcs:[C.str t]=cs0 at ha
  cases ha with
  |val l1 r1 a1 =>
   cases a1
   obtain⟨d,rfl,hr⟩:=r1
   simp only[List.append_nil,List.cons.injEq,and_true]at hcs
   subst hcs
   cases hr with
   |str sb =>
    have hlen:sb.size≤281474976710656:=by rw[Lib.size_eq];exact h1
    have fin:∀ (v:Int) (ev:Value) (er:Er),Rep w (fun _=>False) ev (.err er)→aOq sb.data.toList=v→aNl sb.data.toList=er→∀ w',RowKit.Below w.heap.size w w'→(∀ w2,Rep w2 (fun _=>False) ev (.err er)) →
      bTj Tryz.prog w okR [] (sg [pS] [rI,⟨false,[(.err,false)]⟩]) [.int .i64 (aOq sb.data.toList),.err (aNl sb.data.toList)] (.tuple #[.int .i64 v,ev]) w':=by
     rintro v ev er _ rfl rfl w' hbl hr2
     exact⟨⟨[.int .i64 (aOq sb.data.toList),ev],[],[.int .i64 (aOq sb.data.toList),.err (aNl sb.data.toList)],[],fun _=>False,fun b hb=>hb.elim,rfl,rfl,.one (cs1:=[.int .i64 (aOq sb.data.toList)]) (cs:=[.err (aNl sb.data.toList)]) (bs1:=[]) (bs:=[]) rfl (.data (.int _ _) .nil) (.one (cs1:=[.err (aNl sb.data.toList)]) (cs:=[]) (bs1:=[]) (bs:=[]) rfl (.data (hr2 _) .nil) .nil),.val .nil,fun i j b hi=>by simp at hi,fun b hb=>by simp at hb⟩,hbl.size,fun b hb _=>hbl.block b hb,hbl.os,hbl.output⟩
    have sent:∀ (nm:String) (g:Nat),Tryz.prog.globalNamed nm=some g→aRb nm=some [.err .any]→∃ ev,w.cell? ⟨g,0,none⟩=some ev∧(ev=.nilIface∨∃ te pe,ev=.iface te pe):=fun nm g hn hr=>by
     obtain⟨gi,q1,q2⟩:=bG7 hn
     obtain⟨_,hc⟩:=hg g [.err .any] ⟨gi,q1,by rw[q2];exact hr⟩
     obtain⟨u,hu,hru⟩:=hc 0 _ rfl
     cases hru with
     |eany te pe=>exact⟨_,hu,.inr ⟨te,pe,rfl⟩⟩
    have ent:=bLw Tryz.func139 (by kernel_rfl) rfl #[.string sb] w
    rcases cC5 (Lib.atoiAll sb.data.toList)with⟨v,hat⟩ | hat | hat
    ·-- a number
     refine .inl ⟨ent,(aP7 sb (by omega) v hat w).mono ?_⟩
     rintro e w' ⟨rfl,hw⟩
     refine⟨_,rfl,fin v .nilIface .nil .enil (by unfold aOq;rw[hat]) (by unfold aNl;rw[hat]) w' ?_ (fun _=>.enil)⟩
     rcases hw with rfl | ⟨t,rfl⟩
     ·exact RowKit.Below.refl _ _
     ·exact Lib.bytesWorld_below w _ t
    ·-- a number that is too large
     obtain ⟨ev, e1, e2⟩ := sent "strconv.ErrRange" _ bHz rfl
     refine .inl ⟨ent,(aKm sb hlen hat ev w e1 e2).mono ?_⟩
     rintro e w' ⟨N,rfl,_,_,hbl⟩
     exact⟨_,rfl,fin (Lib.atoiSat sb.data.toList) _ .any (.eany _ _) (by unfold aOq;rw[hat]) (by unfold aNl;rw[hat]) w' hbl (fun _=>.eany _ _)⟩
    ·-- no number
     obtain ⟨ev, e1, e2⟩ := sent "strconv.ErrSyntax" _ bDv rfl
     refine .inl ⟨ent,(aK9 sb hlen hat ev w e1 e2).mono ?_⟩
     rintro e w' ⟨N,rfl,_,_,hbl⟩
     exact⟨_,rfl,fin 0 _ .any (.eany _ _) (by unfold aOq;rw[hat];rfl) (by unfold aNl;rw[hat];rfl) w' hbl (fun _=>.eany _ _)⟩
 ·cases h
theorem cA0:∀ (l:List UInt8) (n k:Nat),n<10^k→l.length+k≤18→Lib.parseUint10 n l=match bEt l n with | some m=>.ok m.toNat | none=>Lib.parseMag []
 |[],n,k,h,hk=>by simp[Lib.parseUint10,bEt]
 |c::r,n,k,h,hk=>by
  have p:10^k≤10^17:=Nat.pow_le_pow_right (by omega) (by simp only[List.length_cons]at hk;omega)
  unfold Lib.parseUint10 bEt
  by_cases c1:48≤c.toNat∧c.toNat≤57
  ·rw[if_pos c1,if_neg (by omega),if_neg (by omega),if_neg (by omega),if_neg (by omega)]
   have e:10*(n:Int)+(c.toNat:Int)-48=((n*10+(c.toNat-48):Nat):Int):=by omega
   rw[e,cA0 r (n*10+(c.toNat-48)) (k+1) (by rw[Nat.pow_succ];omega) (by simp only[List.length_cons]at hk;omega)]
  ·rw[if_neg c1]
   by_cases c2:(c.toNat:Int)<48
   ·rw[if_pos c2];rfl
   ·rw[if_neg c2,if_pos (by omega)];rfl
theorem bB5:∀ (l:List UInt8) (n:Nat) (m:Int),bEt l n=some m→0≤m
 |[],n,m,h=>by simp only[bEt,Option.some.injEq]at h;omega
 |c::r,n,m,h=>by
  unfold bEt at h
  split at h
  ·cases h
  ·split at h
   ·cases h
   ·have e:10*(n:Int)+(c.toNat:Int)-48=((10*n+c.toNat-48:Nat):Int):=by omega
    rw[e]at h
    exact bB5 r _ m h
theorem bWk (t:List UInt8) (n:Nat) (hn:n≤1000000000) (h:aIp (n:Int)=t):t≠[]∧t.length≤10∧∀ c∈t,48≤c.toNat∧c.toNat≤57:=by
 rw[aZi n (by omega),Lib.itoa_nonneg]at h
 subst h
 refine⟨fun e=>?_,bSo 10 n (by omega) (by omega),bVv n⟩
 rw[Lib.decDigits]at e
 split at e<;>simp at e
theorem cB2 (t:List UInt8) (h0:t≠[]) (hl:t.length≤10) (hf:∀ c∈t,48≤c.toNat∧c.toNat≤57):Lib.atoiAll t=match bEt t 0 with | some m=>(if 9223372036854775808≤m.toNat then .range else .ok m.toNat) | none=>Lib.atoiAll []:=by
 match t,h0 with
 |c::r,_ =>
  have hc:=hf c List.mem_cons_self
  unfold Lib.atoiAll
  have n1:¬c.toNat=43:=by omega
  have n2:¬c.toNat=45:=by omega
  simp only[n1,n2,or_self,not_false_eq_true,true_and,false_and,if_false]
  unfold Lib.parseMag
  rw[if_neg (by simp),cA0 (c::r) 0 0 (by simp) (by omega)]
  cases bEt (c::r) 0 with
  |none=>rfl
  |some m=>rfl
theorem bWj {t:List UInt8} (h:aM3 t=true):Lib.atoiAll t=.ok (aD8 t)∧0≤aD8 t∧aD8 t≤1000000000∧aIp (aD8 t)=t:=by
 have hv:aD8 t=(bEt t 0).getD 0:=by unfold aD8;rw[h];rfl
 unfold aM3 at h
 simp only[Bool.and_eq_true,decide_eq_true_eq]at h
 obtain⟨hl,h⟩:=h
 split at h
 ·rename_i m hm
  simp only[Bool.and_eq_true,decide_eq_true_eq]at h
  have hm0:0≤m:=bB5 t 0 m (by simpa using hm)
  rw[hm]at hv
  simp only[Option.getD_some]at hv
  obtain⟨k,rfl⟩:=Int.eq_ofNat_of_zero_le hm0
  obtain⟨f1,f2,f3⟩:=bWk t k (by omega) h.2
  rw[hv]
  refine⟨?_,hm0,h.1,h.2⟩
  rw[cB2 t f1 f2 f3,hm]
  simp only[Int.toNat_natCast]
  rw[if_neg (by omega)]
 ·cases h
theorem bZx (t:List UInt8) (v:Int) (h:Lib.atoiAll t=.ok v) (h0:0≤v) (h1:v≤1000000000) (h2:aIp v=t):aM3 t=true:=by
 obtain⟨k,rfl⟩:=Int.eq_ofNat_of_zero_le h0
 obtain⟨f1,f2,f3⟩:=bWk t k (by omega) h2
 rw[cB2 t f1 f2 f3]at h
 split at h
 ·rename_i m hm
  split at h
  ·cases h
  ·injection h with h
   have hm0:0≤m:=bB5 t 0 m (by simpa using hm)
   unfold aM3
   rw[hm]
   have e:m=(k:Int):=by omega
   subst e
   simp only[Bool.and_eq_true,decide_eq_true_eq]
   exact⟨f2,h1,h2⟩
 ·cases h
theorem cAk:aA8 Tryz.prog bX8:=aA6 (by simp[bJj])
theorem bOr:aAs Tryz.prog 101 (sg [pI] [rS]) aMe:=aA5 cAk aA9 Tryz.func101 (by kernel_rfl) fun cs outs hk h=>by
 unfold aMe at h
 split at h
 ·simp only[Option.some.injEq,Prod.mk.injEq]at h
  obtain⟨h1,rfl⟩:=h
  rw[aAb,bS3]
  exact aA7 h1 rfl
 ·cases h
theorem cBv:aA8 Tryz.prog cBa:=aA6 (by simp[aCg,bOr,bKt])
theorem bRw:aAs Tryz.prog 115 (sg [pS] [rI,rB]) aYz:=aA5 cBv aA9 Tryz.func115 (by kernel_rfl) fun cs outs hk h=>by
 unfold aYz at h
 split at h
 ·simp only[Option.some.injEq,Prod.mk.injEq,decide_eq_true_eq]at h
  obtain⟨h1,rfl⟩:=h
  rename_i t
  rw[aAb,bVc]
  refine aA7 (decide_eq_true h1) ?_
  have no:(∀ v,Lib.atoiAll t=.ok v→¬(0≤v∧v≤1000000000∧aIp v=t))→aM3 t=false:=fun h=>by
   cases hr:aM3 t
   ·rfl
   ·obtain⟨q1,q2,q3,q4⟩:=bWj hr
    exact absurd ⟨q2,q3,q4⟩ (h _ q1)
  have zero:aM3 t=false→aD8 t=0:=fun h=>by unfold aD8;rw[h];rfl
  have bad:aM3 t=false→(some [C.int .i64 0,C.bool false]:Option (List C))=some [.int .i64 (aD8 t),.bool (aM3 t)]:=fun h=>by rw[zero h,h]
  rcases cC5 (Lib.atoiAll t)with⟨v,ha⟩ | ha | ha
  ·-- a number
   have e1:aNl t=.nil:=by unfold aNl;rw[ha]
   have e2:aOq t=v:=by unfold aOq;rw[ha]
   rw[e1,e2]
   refine aAj rfl ?_
   by_cases c1:0≤v∧v≤1000000000
   ·have i1:inB v 0 1000000000=true:=(aBr _ _ _).2 c1
    refine aAc i1 (aA7 i1 ?_)
    by_cases c2:aIp v=t
    ·have hr:=bZx t v ha c1.1 c1.2 c2
     obtain⟨q1,_⟩:=bWj hr
     rw[ha]at q1
     injection q1 with q1
     rw[hr,←q1]
     exact aAj (by rw[c2];simp) rfl
    ·exact aAc (by simpa using c2) (bad (no fun u hu hc=>by rw[ha]at hu;injection hu with hu;subst hu;exact c2 hc.2.2))
   ·have i1:inB v 0 1000000000=false:=by
     cases h:inB v 0 1000000000
     ·rfl
     ·exact absurd ((aBr _ _ _).1 h) c1
    exact aAj i1 (bad (no fun u hu hc=>by rw[ha]at hu;injection hu with hu;subst hu;exact c1 ⟨hc.1,hc.2.1⟩))
  ·-- too large
   have e1:aNl t=.any:=by unfold aNl;rw[ha]
   rw[e1]
   exact aAc rfl (bad (no fun u hu=>by rw[ha]at hu;cases hu))
  ·-- no number
   have e1:aNl t=.any:=by unfold aNl;rw[ha];rfl
   rw[e1]
   exact aAc rfl (bad (no fun u hu=>by rw[ha]at hu;cases hu))
 ·cases h
noncomputable section
def aC9 (s:List UInt8):Int:=Lib.indexByte s 58
def aR4:Spec:=fun cs=>match cs with
 |[.str s,.int .u8 c]=>some (decide (c=58),[.int .i64 (aC9 s)])
 |_=>none
def bRg:Spec:=fun cs=>match cs with
 |[.str s,.str p]=>some (decide (p=[58])&&decide (s.length≤281474976710656),[.int .i64 (aC9 s)])
 |_=>none
def aAd (s:List UInt8):List UInt8:=if aC9 s<0 then s else s.take (aC9 s).toNat
def aBg (s:List UInt8):List UInt8:=if aC9 s<0 then[]else s.drop ((aC9 s).toNat+1)
def aLi (s:List UInt8):Bool:=decide (0≤aC9 s)
def aMk:Spec:=fun cs=>match cs with
 |[.str s,.str p]=>some (decide (p=[58])&&decide (s.length≤281474976710656),[.str (aAd s),.str (aBg s),.bool (aLi s)])
 |_=>none
def cB9:Env:=mkE [] [(212,(sg [pS,pU8] [rI]),aR4)]
def cB8:Env:=mkE [(15,[0,1,5,6,7,8,9,10])] [(190,(sg [pS,pU8] [rI]),aR4)]
def bTf:Env:=mkE [] [(162,(sg [pS,pS] [rI]),bRg)]
def bTe:Env:=mkE [] [(138,(sg [pS,pS] [rS,rS,rB]),aMk)]
def aLs:Env:=mkE [(2,[0,6,7])] [(86,(sg [pI,pI,pI] [rB]),aDo)]
def aCq (t:List UInt8) (n i:Int):St:=st0 [(0,aYj t),(6,aB5 n),(7,aB5 i)]
end
theorem bV3 (H:List Pt→Nat→St→T (List C)) (s:List UInt8):(aAi cB9 aAa (sg [pS,pU8] [rI]) Tryz.f190 H [C.str s,C.int .u8 58]).eval=((.ret [C.int .i64 (aC9 s)]):T (List C)).eval:=aAh (by kernel_rfl)
theorem bV2 (H:List Pt→Nat→St→T (List C)) (s:List UInt8):(aAi cB8 aAa (sg [pS,pS] [rI]) Tryz.f162 H [C.str s,C.str [(58:UInt8)]]).eval=((.ask ([(58:UInt8)]==s) (.ret [C.int .i64 0]) (.ret [C.int .i64 (aC9 s)])):T (List C)).eval:=aAh (by kernel_rfl)
theorem bP7 (H:List Pt→Nat→St→T (List C)) (s:List UInt8):(aAi bTf aAa (sg [pS,pS] [rS,rS,rB]) Tryz.f138 H [C.str s,C.str [(58:UInt8)]]).eval=((.must (decide ([(58:UInt8)]=[(58:UInt8)])&&decide (s.length≤281474976710656)) (.ask (decide ((0:Int)≤aC9 s)) (.must (decide ((0:Int)≤aC9 s)&&decide (aC9 s≤(↑s.length:Int))) (.must (decide ((0:Int)≤IntKind.i64.wrap (aC9 s+(↑[(58:UInt8)].length:Int)))&&decide (IntKind.i64.wrap (aC9 s+(↑[(58:UInt8)].length:Int))≤(↑s.length:Int))) (.ret [C.str (List.drop 0 (List.take (aC9 s).toNat s)),C.str (List.drop (IntKind.i64.wrap (aC9 s+(↑[(58:UInt8)].length:Int))).toNat (List.take s.length s)),C.bool true]))) (.ret [C.str s,C.str [],C.bool false]))):T (List C)).eval:=aAh (by kernel_rfl)
theorem bP6 (H:List Pt→Nat→St→T (List C)) (s:List UInt8):(aAi bTe aAa (sg [pS,pS] [rS,rS,rB]) Tryz.f114 H [C.str s,C.str [(58:UInt8)]]).eval=((.must (decide ([(58:UInt8)]=[(58:UInt8)])&&decide (s.length≤281474976710656)) (.ask (aLi s) (.ret [C.str (aAd s),C.str (aBg s),C.bool true]) (.ret [C.str (aAd s),C.str (aBg s),C.bool false]))):T (List C)).eval:=aAh (by kernel_rfl)
theorem bFu (H:List Pt→Nat→St→T (List C)) (t:List UInt8):(aAi aLs aAa (sg [pS] [rB]) Tryz.f100 H [C.str t]).eval=((H [Pt.r,Pt.l,Pt.r,Pt.b] 9223372036854775808 (aCq (t) ((↑t.length:Int)) ((0:Int)))):T (List C)).eval:=aAh (by kernel_rfl)
theorem aY6 (H:List Pt→Nat→St→T (List C)) (t:List UInt8) (n:Int) (i:Int) (k:Nat):(aB7 aLs aAa (sg [pS] [rB]) Tryz.f100 H [Pt.r,Pt.l,Pt.r,Pt.b] k (aCq t n i)).eval=((.ask (decide (i<n)) (.must (decide ((0:Int)≤i)&&decide (i<(↑t.length:Int))) (.ask (decide ((97:Int)≤(↑(t.getD i.toNat (0:UInt8)).toNat:Int))) (.ask (decide ((↑(t.getD i.toNat (0:UInt8)).toNat:Int)≤(122:Int))) (H [Pt.r,Pt.l,Pt.r,Pt.b] k (aCq (t) (n) (IntKind.i64.wrap (i+(1:Int))))) (.ask (decide ((48:Int)≤(↑(t.getD i.toNat (0:UInt8)).toNat:Int))) (.ask (decide ((↑(t.getD i.toNat (0:UInt8)).toNat:Int)≤(57:Int))) (H [Pt.r,Pt.l,Pt.r,Pt.b] k (aCq (t) (n) (IntKind.i64.wrap (i+(1:Int))))) (.ask (decide ((↑(t.getD i.toNat (0:UInt8)).toNat:Int)=(46:Int))) (H [Pt.r,Pt.l,Pt.r,Pt.b] k (aCq (t) (n) (IntKind.i64.wrap (i+(1:Int))))) (.ask (decide ((↑(t.getD i.toNat (0:UInt8)).toNat:Int)=(45:Int))) (H [Pt.r,Pt.l,Pt.r,Pt.b] k (aCq (t) (n) (IntKind.i64.wrap (i+(1:Int))))) (.ret [C.bool false])))) (.ask (decide ((↑(t.getD i.toNat (0:UInt8)).toNat:Int)=(46:Int))) (H [Pt.r,Pt.l,Pt.r,Pt.b] k (aCq (t) (n) (IntKind.i64.wrap (i+(1:Int))))) (.ask (decide ((↑(t.getD i.toNat (0:UInt8)).toNat:Int)=(45:Int))) (H [Pt.r,Pt.l,Pt.r,Pt.b] k (aCq (t) (n) (IntKind.i64.wrap (i+(1:Int))))) (.ret [C.bool false]))))) (.ask (decide ((48:Int)≤(↑(t.getD i.toNat (0:UInt8)).toNat:Int))) (.ask (decide ((↑(t.getD i.toNat (0:UInt8)).toNat:Int)≤(57:Int))) (H [Pt.r,Pt.l,Pt.r,Pt.b] k (aCq (t) (n) (IntKind.i64.wrap (i+(1:Int))))) (.ask (decide ((↑(t.getD i.toNat (0:UInt8)).toNat:Int)=(46:Int))) (H [Pt.r,Pt.l,Pt.r,Pt.b] k (aCq (t) (n) (IntKind.i64.wrap (i+(1:Int))))) (.ask (decide ((↑(t.getD i.toNat (0:UInt8)).toNat:Int)=(45:Int))) (H [Pt.r,Pt.l,Pt.r,Pt.b] k (aCq (t) (n) (IntKind.i64.wrap (i+(1:Int))))) (.ret [C.bool false])))) (.ask (decide ((↑(t.getD i.toNat (0:UInt8)).toNat:Int)=(46:Int))) (H [Pt.r,Pt.l,Pt.r,Pt.b] k (aCq (t) (n) (IntKind.i64.wrap (i+(1:Int))))) (.ask (decide ((↑(t.getD i.toNat (0:UInt8)).toNat:Int)=(45:Int))) (H [Pt.r,Pt.l,Pt.r,Pt.b] k (aCq (t) (n) (IntKind.i64.wrap (i+(1:Int))))) (.ret [C.bool false])))))) (.ask (inB (↑t.length:Int) 1 20) (.ret [C.bool true]) (.ret [C.bool false]))):T (List C)).eval:=aAh (by kernel_rfl)
theorem bO9:aAs Tryz.prog 212 (sg [pS,pU8] [rI]) aR4:=by
 intro w okR pb vals cs outs hok hg hpb ha hk h
 unfold aR4 at h
 split at h
 ·simp only[Option.some.injEq,Prod.mk.injEq,decide_eq_true_eq]at h
  obtain⟨rfl,rfl⟩:=h
  rename_i s
  generalize hcs:[C.str s,C.int .u8 58]=cs0 at ha
  cases ha with
  |val l1 r1 a1 =>
   cases a1 with
   |val l2 r2 a2 =>
    cases a2
    obtain⟨d,rfl,hr⟩:=r1
    obtain⟨d2,rfl,hr2⟩:=r2
    simp only[List.append_nil,List.cons_append,List.nil_append,List.cons.injEq,and_true]at hcs
    obtain⟨rfl,rfl⟩:=hcs
    cases hr with
    |str sb =>
     cases hr2
     refine .inr ⟨.int .i64 (aC9 sb.data.toList),w,?_,⟨⟨[.int .i64 (aC9 sb.data.toList)],[],[.int .i64 (aC9 sb.data.toList)],[],fun _=>False,fun b hb=>hb.elim,rfl,rfl,.one (cs1:=[.int .i64 (aC9 sb.data.toList)]) (cs:=[]) (bs1:=[]) (bs:=[]) rfl (.data (.int _ _) .nil) .nil,.val (.val .nil),fun i j b hi=>by simp at hi,fun b hb=>by simp at hb⟩,Nat.le_refl _,fun b hb _=>rfl,rfl,rfl⟩⟩
     rw[run_callFunc_extern Tryz.func212 (by kernel_rfl) (by kernel_rfl) (by kernel_rfl) (e:=Extern.BytealgIndexByte.indexByte) (by kernel_rfl),Lib.run_indexByteString]
     rfl
 ·cases h
theorem bLo (s:List UInt8):aC9 s= -1∨(0≤aC9 s∧aC9 s<s.length):=by
 unfold aC9
 induction s with
 |nil=>exact .inl rfl
 |cons b l ih =>
  unfold Lib.indexByte
  by_cases c:(b==58)=true
  ·rw[if_pos c];right;simp only[List.length_cons];omega
  ·rw[if_neg c]
   by_cases d:(Lib.indexByte l 58== -1)=true
   ·rw[if_pos d];exact .inl rfl
   ·rw[if_neg d]
    right
    have:Lib.indexByte l 58≠ -1:=by simpa using d
    simp only[List.length_cons]
    omega
theorem bWt:∀ (l:List UInt8) (i:Nat),aD1 aL6 l i=if aC9 l= -1 then -1 else aC9 l+i
 |[],i=>by simp[aD1,aC9,Lib.indexByte]
 |b::l,i=>by
  have ih:=bWt l (i+1)
  have rg:=bLo l
  unfold aD1
  have e:aC9 (b::l)=if b==58 then 0 else if Lib.indexByte l 58== -1 then -1 else Lib.indexByte l 58+1:=by unfold aC9;rw[Lib.indexByte]
  have e2:aC9 l=Lib.indexByte l 58:=rfl
  rw[←e2]at e
  by_cases c:b=58
  ·subst c
   rw[if_pos (by decide)]
   rw[e]
   simp
  ·have nc:aL6 b=false:=by
    unfold aL6
    refine decide_eq_false fun h=>c ?_
    exact UInt8.toNat_inj.1 h
   have nb:(b==58)=false:=by simpa using c
   rw[nc,if_neg (by simp),ih,e,nb]
   simp only[Bool.false_eq_true,if_false,beq_iff_eq]
   by_cases d:aC9 l= -1
   ·rw[if_pos d,if_pos d,if_pos rfl]
   ·rw[if_neg d,if_neg d,if_neg (by omega)];omega
theorem cBq:aA8 Tryz.prog cB9:=aA6 (by simp[bO9])
theorem bRo:aAs Tryz.prog 190 (sg [pS,pU8] [rI]) aR4:=aA5 cBq aA9 Tryz.func190 (by kernel_rfl) fun cs outs hk h=>by
 unfold aR4 at h
 split at h
 ·simp only[Option.some.injEq,Prod.mk.injEq,decide_eq_true_eq]at h
  obtain⟨rfl,rfl⟩:=h
  rename_i s
  rw[aAb,bV3]
  rfl
 ·cases h
theorem cBp:aA8 Tryz.prog cB8:=aA6 (by simp[bRo])
theorem bRl:aAs Tryz.prog 162 (sg [pS,pS] [rI]) bRg:=aA5 cBp aA9 Tryz.func162 (by kernel_rfl) fun cs outs hk h=>by
 unfold bRg at h
 split at h
 ·simp only[Option.some.injEq,Prod.mk.injEq,Bool.and_eq_true,decide_eq_true_eq]at h
  obtain⟨⟨rfl,h1⟩,rfl⟩:=h
  rename_i s
  rw[aAb,bV2]
  by_cases c:[58]=s
  ·subst c
   rfl
  ·refine aAj (by simpa using c) ?_
   rfl
 ·cases h
theorem bZ7:aA8 Tryz.prog bTf:=aA6 (by simp[bRl])
theorem bKq:aAs Tryz.prog 138 (sg [pS,pS] [rS,rS,rB]) aMk:=aA5 bZ7 aA9 Tryz.func138 (by kernel_rfl) fun cs outs hk h=>by
 unfold aMk at h
 split at h
 ·simp only[Option.some.injEq,Prod.mk.injEq,Bool.and_eq_true,decide_eq_true_eq]at h
  obtain⟨⟨rfl,h1⟩,rfl⟩:=h
  rename_i s
  rw[aAb,bP7]
  have rg:=bLo s
  have d1:decide (s.length≤281474976710656)=true:=decide_eq_true h1
  rcases rg with e | ⟨e1,e2⟩
  ·simp[aA0,aA2,aA1,h1,e,aAd,aBg,aLi]
  ·obtain⟨k,hk⟩:=Int.eq_ofNat_of_zero_le e1
   have w:IntKind.i64.wrap ((k:Int)+((1:Nat):Int))=((k+1:Nat):Int):=by rw[aAg]<;>omega
   rw[hk]at e2
   have n1:¬((k:Int)<0):=by omega
   have p1:(k:Int)≤s.length:=by omega
   have p2:((k+1:Nat):Int)≤s.length:=by omega
   simp only[aA0,aA2,aA1,h1,hk,aAd,aBg,aLi,w,n1,p1,p2,Int.toNat_natCast,decide_true,decide_false,if_true,if_false,Bool.and_self,Bool.and_true,Bool.true_and,e1,Int.natCast_nonneg,decide_eq_true_eq,Bool.false_eq_true,List.take_length,List.length_cons,List.length_nil,Nat.zero_add,Int.ofNat_eq_natCast,List.drop_zero]
 ·cases h
theorem bZ6:aA8 Tryz.prog bTe:=aA6 (by simp[bKq])
theorem bKp:aAs Tryz.prog 114 (sg [pS,pS] [rS,rS,rB]) aMk:=aA5 bZ6 aA9 Tryz.func114 (by kernel_rfl) fun cs outs hk h=>by
 unfold aMk at h
 split at h
 ·simp only[Option.some.injEq,Prod.mk.injEq,Bool.and_eq_true,decide_eq_true_eq]at h
  obtain⟨⟨rfl,h1⟩,rfl⟩:=h
  rename_i s
  rw[aAb,bP6]
  cases c:aLi s<;>simp[aA0,aA2,aA1,h1,c]
 ·cases h
theorem bFv (t:List UInt8) (ht:t.length≤281474976710656):∀ (N i:Nat),i≤t.length→t.length<i+N →
  (aBh aLs aAa (sg [pS] [rB]) Tryz.f100 [.r,.l,.r,.b] N (aCq t t.length i)).eval=some [.bool ((t.drop i).all aL2&&inB t.length 1 20)]:=by
 intro N
 induction N with
 |zero=>intro i h1 h2;omega
 |succ N ih =>
  intro i h1 h2
  rw[aAv _ _ _ _ _ _ _ (by kernel_rfl),aY6]
  by_cases hi:i<t.length
  ·have hb:=aFs t i
   have m:(decide ((0:Int)≤i)&&decide ((i:Int)<t.length))=true:=by rw[decide_eq_true (by omega),decide_eq_true (by omega)];rfl
   have e:=ih (i+1) (by omega) (by omega)
   have w2:IntKind.i64.wrap ((i:Int)+1)=((i+1:Nat):Int):=by rw[aAg]<;>omega
   rw[Int.toNat_natCast,aBx t i 0 hi,List.all_cons,w2]
   generalize t.getD i 0=x at hb ⊢
   have nb:aL2 x=(inB (x.toNat:Int) 97 122||inB (x.toNat:Int) 48 57||decide ((x.toNat:Int)=46)||decide ((x.toNat:Int)=45)):=rfl
   have yes:aL2 x=true→(aBh aLs aAa (sg [pS] [rB]) Tryz.f100 [.r,.l,.r,.b] N (aCq t t.length ((i+1:Nat):Int))).eval=some [.bool (aL2 x&&(t.drop (i+1)).all aL2&&inB t.length 1 20)]:=fun h=>by rw[h,Bool.true_and];exact e
   have nob:aL2 x=false→(some [C.bool false]:Option (List C))=some [.bool (aL2 x&&(t.drop (i+1)).all aL2&&inB t.length 1 20)]:=fun h=>by rw[h];rfl
   refine aAc (decide_eq_true (by omega)) (aA7 m ?_)
   simp only[aA2,aA1,decide_eq_true_eq]
   repeat' split
   all_goals first
    |exact yes (by rw[nb];simp only[inB,Bool.or_eq_true,Bool.and_eq_true,decide_eq_true_eq];omega)
    |exact nob (by rw[nb];simp only[inB,Bool.or_eq_false_iff,Bool.and_eq_false_imp,decide_eq_true_eq,decide_eq_false_iff_not];omega)
  ·have e:i=t.length:=by omega
   subst e
   have hi':¬((t.length:Int)<(t.length:Int)):=by omega
   rw[List.drop_length]
   refine aAj (decide_eq_false hi') ?_
   cases c:inB (t.length:Int) 1 20
   ·exact aAj rfl rfl
   ·exact aAc rfl rfl
theorem bRy:aA8 Tryz.prog aLs:=aA6 (by simp[aF4])
theorem aPq:aAs Tryz.prog 100 (sg [pS] [rB]) aGv:=aA5 bRy aA9 Tryz.func100 (by kernel_rfl) fun cs outs hk h=>by
 unfold aGv at h
 split at h
 ·simp only[Option.some.injEq,Prod.mk.injEq,decide_eq_true_eq]at h
  obtain⟨h1,rfl⟩:=h
  rename_i t
  rw[aAb,bFu]
  exact bFv t h1 9223372036854775808 0 (by omega) (by omega)
 ·cases h
noncomputable section
def bTl (nm:List UInt8) (e:En):Bool:= !(Op.bytesLess e.name nm||e.name==nm)
def aHm (l:List En) (nm:List UInt8):Int:=aD1 (bTl nm) l 0
def aT1 (l:List En) (e:En):List En:=if 0≤aA4 l e.name then l.set (aA4 l e.name).toNat ⟨(l.getD (aA4 l e.name).toNat ⟨[],0⟩).name,e.id⟩else
 if aHm l e.name<0 then l++[e]else l.take (aHm l e.name).toNat++[e]++l.drop (aHm l e.name).toNat
def aHa (l:List En) (nm:List UInt8):List En:=l.take (aA4 l nm).toNat++l.drop ((aA4 l nm).toNat+1)
abbrev Srt (l:List En):Prop:=l.Pairwise fun a b=>Op.bytesLess a.name b.name=true
def bCe:Spec:=fun cs=>match cs with
 |[.str n,.int .i64 _,.pt [.str nm]]=>some (true,[.bool (!(Op.bytesLess n nm||n==nm))])
 |_=>none
def bBr:Spec:=fun cs=>match cs with
 |[.sl rows,.fn f [.pt [.str nm]]]=>some (decide (f=140)&&(decide (rows.length≤aHh)&&aAf kEn rows),[.int .i64 (aHm (ens rows) nm)])
 |_=>none
def bM6 (r:List (List C)) (nm:List UInt8) (n i:Int):St:=st0 [(0,.l (.sl r)),(1,.l (.fn 140 [.pt [.str nm]])),(7,aB5 n),(8,aB5 i)]
def bXa:Env:=mkE [] []
def bMf:Env:=mkE [(2,[0,1,7,8])] [(140,(sg [aDe,pP] [rB]),bCe)]
def bMk:Env:=mkE [] [(83,(sg [pSl 92,pS] [rI]),aKy)]
def bW5 (a b:List (List C)) (n i:Int):St:=st0 [(0,.l (.sl a)),(1,.l (.sl b)),(12,aB5 n),(13,aB5 i)]
def bW7:Env:=mkE [(4,[0,1,12,13])] []
def bXm (g:FuncId):Option Func:=if g=116 then some Tryz.f116 else if g=117 then some Tryz.f117 else if g=141 then some Tryz.f141 else if g=142 then some Tryz.f142 else none
def cC6 (lv:List (Nat×List Nat)) (gs:Laws):Env:={mkE lv gs with inl:=bXm}
def cBk (g:FuncId):Bool:=g==141||g==142
def bNt (s:List UInt8):Bool:=aLi (s.drop 1)
def pNm (s:List UInt8):List UInt8:=aAd (s.drop 1)
def aNh (s:List UInt8):List UInt8:=aBg (s.drop 1)
def aEz (l:List En) (s:List UInt8):Option (List En) :=
 if s=[]then none
 else if aB3 s=43 then (if bNt s&&aM3 (aNh s)&&aBf (pNm s)then some (aT1 l ⟨pNm s,aD8 (aNh s)⟩)else none)
 else if aB3 s=45 then (if decide (0≤aA4 l (s.drop 1))&&aBf (s.drop 1)then some (aHa l (s.drop 1))else none)
 else if aB3 s=62 then (if decide (0≤aA4 l (pNm s))&&aBf (pNm s)&&bNt s&&aBf (aNh s)&& !decide (pNm s=aNh s)then some (aT1 (aHa l (pNm s)) ⟨aNh s,aB4 l (pNm s)⟩)else none)
 else none
def aNu (l:List (List C)) (s:List UInt8):List (List C):=((aEz (ens l) s).getD []).map eEn
def aZ0 (l:List (List C)) (s:List UInt8):Bool:=(aEz (ens l) s).isSome
def aVc:Spec:=fun cs=>match cs with
 |[.sl l,.str s]=>some (aI7 l&&decide (l.length<dN)&&decide (s.length≤dN),[.sl (aNu l s),.bool (aZ0 l s)])
 |_=>none
def bKu:Env:=cC6 [] [(114,(sg [pS,pS] [rS,rS,rB]),aMk),(81,(sg [pSl 92] [rSl 92]),aIr),(115,(sg [pS] [rI,rB]),aYz),(100,(sg [pS] [rB]),aGv),(83,(sg [pSl 92,pS] [rI]),aKy),(110,(sg [pSl 92,pF] [rI]),bBr),(118,(sg [pSl 92,pS] [rI]),aGh)]
end
theorem bS5 (H:List Pt→Nat→St→T (List C)) (n:List UInt8) (id:Int) (nm:List UInt8):(aAi bXa aAa (sg [aDe,pP] [rB]) Tryz.f140 H [C.str n,C.int .i64 id,C.pt [C.str nm]]).eval=((.ask (!(Op.bytesLess n nm||n==nm)) (.ret [C.bool true]) (.ret [C.bool false])):T (List C)).eval:=aAh (by kernel_rfl)
theorem bRj (H:List Pt→Nat→St→T (List C)) (r:List (List C)) (nm:List UInt8):(aAi bMf aAa (sg [pSl 92,pF] [rI]) Tryz.f110 H [C.sl r,C.fn 140 [C.pt [C.str nm]]]).eval=((H [Pt.r,Pt.l,Pt.r,Pt.b] 9223372036854775808 (bM6 (r) (nm) ((↑r.length:Int)) ((0:Int)))):T (List C)).eval:=aAh (by kernel_rfl)
theorem bJh (H:List Pt→Nat→St→T (List C)) (r:List (List C)) (nm:List UInt8) (n:Int) (i:Int) (k:Nat):(aB7 bMf aAa (sg [pSl 92,pF] [rI]) Tryz.f110 H [Pt.r,Pt.l,Pt.r,Pt.b] k (bM6 r nm n i)).eval=((.ask (decide (i<n)) (.must (decide ((0:Int)≤i)&&decide (i<(↑r.length:Int))&&decide ((r.getD i.toNat []).length=2)) (.must (decide (0<(r.getD i.toNat []).length)&&C.is K.str ((r.getD i.toNat []).getD 0 (C.fn 0 []))&&(decide (0+1<(r.getD i.toNat []).length)&&C.is (K.int .i64) ((r.getD i.toNat []).getD (0+1) (C.fn 0 []))&&true)) (.ask (!(Op.bytesLess ((r.getD i.toNat []).getD 0 (C.fn 0 [])).toStr nm||((r.getD i.toNat []).getD 0 (C.fn 0 [])).toStr==nm)) (.ret [C.int .i64 i]) (H [Pt.r,Pt.l,Pt.r,Pt.b] k (bM6 (r) (nm) (n) (IntKind.i64.wrap (i+(1:Int)))))))) (.ret [C.int .i64 (-1)])):T (List C)).eval:=aAh (by kernel_rfl)
theorem bK3 (H:List Pt→Nat→St→T (List C)) (r:List (List C)) (nm:List UInt8):(aAi bMk aAa (sg [pSl 92,pS] [rI]) Tryz.f118 H [C.sl r,C.str nm]).eval=((.must (decide (r.length≤aHh)&&aAf [K.str,K.int .i64] r) (.ask (decide (aA4 (ens r) nm<(0:Int))) (.ret [C.int .i64 0]) (.must (decide ((0:Int)≤aA4 (ens r) nm)&&decide (aA4 (ens r) nm<(↑r.length:Int))&&decide ((r.getD (aA4 (ens r) nm).toNat []).length=2)) (.must (decide (0+1<(r.getD (aA4 (ens r) nm).toNat []).length)&&C.is (K.int .i64) ((r.getD (aA4 (ens r) nm).toNat []).getD (0+1) (C.fn 0 []))&&true) (.ret [C.int .i64 ((r.getD (aA4 (ens r) nm).toNat []).getD (0+1) (C.fn 0 [])).toInt]))))):T (List C)).eval:=aAh (by kernel_rfl)
theorem bVo (H:List Pt→Nat→St→T (List C)) (a:List (List C)) (b:List (List C)):(aAi bW7 aAa (sg [pSl 92,pSl 92] [rB]) Tryz.f89 H [C.sl a,C.sl b]).eval=((.ask ((↑a.length:Int) != (↑b.length:Int)) (.ret [C.bool false]) (H [Pt.r,Pt.r,Pt.l,Pt.r,Pt.b] 9223372036854775808 (bW5 (a) (b) ((↑a.length:Int)) ((0:Int))))):T (List C)).eval:=aAh (by kernel_rfl)
theorem bP0 (H:List Pt→Nat→St→T (List C)) (a:List (List C)) (b:List (List C)) (n:Int) (i:Int) (k:Nat):(aB7 bW7 aAa (sg [pSl 92,pSl 92] [rB]) Tryz.f89 H [Pt.r,Pt.r,Pt.l,Pt.r,Pt.b] k (bW5 a b n i)).eval=((.ask (decide (i<n)) (.must (decide ((0:Int)≤i)&&decide (i<(↑a.length:Int))&&decide ((a.getD i.toNat []).length=2)) (.must (decide (0<(a.getD i.toNat []).length)&&C.is K.str ((a.getD i.toNat []).getD 0 (C.fn 0 []))&&(decide (0+1<(a.getD i.toNat []).length)&&C.is (K.int .i64) ((a.getD i.toNat []).getD (0+1) (C.fn 0 []))&&true)) (.must (decide ((0:Int)≤i)&&decide (i<(↑b.length:Int))&&decide ((b.getD i.toNat []).length=2)) (.must (decide (0<(b.getD i.toNat []).length)&&C.is K.str ((b.getD i.toNat []).getD 0 (C.fn 0 []))&&(decide (0+1<(b.getD i.toNat []).length)&&C.is (K.int .i64) ((b.getD i.toNat []).getD (0+1) (C.fn 0 []))&&true)) (.ask (!(((a.getD i.toNat []).getD 0 (C.fn 0 [])).toStr==((b.getD i.toNat []).getD 0 (C.fn 0 [])).toStr&&(decide (((a.getD i.toNat []).getD (0+1) (C.fn 0 [])).toInt=((b.getD i.toNat []).getD (0+1) (C.fn 0 [])).toInt)&&true))) (.ret [C.bool false]) (H [Pt.r,Pt.r,Pt.l,Pt.r,Pt.b] k (bW5 (a) (b) (n) (IntKind.i64.wrap (i+(1:Int)))))))))) (.ret [C.bool true])):T (List C)).eval:=aAh (by kernel_rfl)
theorem bOk (H:List Pt→Nat→St→T (List C)) (l:List (List C)) (s:List UInt8):(aAi bKu (cAh (cBs cCb) cBk bKu 2) (sg [pSl 92,pS] [rSl 92,rB]) Tryz.f90 H [C.sl l,C.str s]).eval=((.ask (s==[]) (.ret [C.sl [],C.bool false]) (.must (decide ((0:Int)≤(1:Int))&&decide ((1:Int)≤(↑s.length:Int))) (.must (decide ([(58:UInt8)]=[(58:UInt8)])&&decide ((List.drop (Int.toNat 1) (List.take s.length s)).length≤281474976710656)) (.ask (aLi (List.drop (Int.toNat 1) (List.take s.length s))) (.must (aAf [K.str,K.int .i64] l&&decide (l.length≤1099511627776)) (.must ((true&&l.all fun row=>decide (row.length=2))&&true&&true&&true) (.must (decide ((0:Int)≤(0:Int))&&decide ((0:Int)<(↑s.length:Int))) (.ask (decide ((↑(s.getD (Int.toNat 0) (0:UInt8)).toNat:Int)=(43:Int))) (.must (decide ((aBg (List.drop (Int.toNat 1) (List.take s.length s))).length≤281474976710656)) (.ask (aM3 (aBg (List.drop (Int.toNat 1) (List.take s.length s)))) (.must (decide ((aAd (List.drop (Int.toNat 1) (List.take s.length s))).length≤281474976710656)) (.ask (aBf (aAd (List.drop (Int.toNat 1) (List.take s.length s)))) (.must (decide ((List.take l.length l).length≤aHh)&&aAf [K.str,K.int .i64] (List.take l.length l)) (.ask (decide ((0:Int)≤aA4 (ens (List.take l.length l)) (aAd (List.drop (Int.toNat 1) (List.take s.length s))))) (.must (decide ((0:Int)≤aA4 (ens (List.take l.length l)) (aAd (List.drop (Int.toNat 1) (List.take s.length s))))&&decide (aA4 (ens (List.take l.length l)) (aAd (List.drop (Int.toNat 1) (List.take s.length s)))<(↑l.length:Int))) (.must (decide (0+(aA4 (ens (List.take l.length l)) (aAd (List.drop (Int.toNat 1) (List.take s.length s)))).toNat<l.length)) (.must (decide (l.length=(l.set (0+(aA4 (ens (List.take l.length l)) (aAd (List.drop (Int.toNat 1) (List.take s.length s)))).toNat) (((List.take (0+1) (l.getD (0+(aA4 (ens (List.take l.length l)) (aAd (List.drop (Int.toNat 1) (List.take s.length s)))).toNat) [])).append [C.int .i64 (aD8 (aBg (List.drop (Int.toNat 1) (List.take s.length s))))]).append (List.drop (0+1+1) (l.getD (0+(aA4 (ens (List.take l.length l)) (aAd (List.drop (Int.toNat 1) (List.take s.length s)))).toNat) [])))).length)&&(false||(l.set (0+(aA4 (ens (List.take l.length l)) (aAd (List.drop (Int.toNat 1) (List.take s.length s)))).toNat) (((List.take (0+1) (l.getD (0+(aA4 (ens (List.take l.length l)) (aAd (List.drop (Int.toNat 1) (List.take s.length s)))).toNat) [])).append [C.int .i64 (aD8 (aBg (List.drop (Int.toNat 1) (List.take s.length s))))]).append (List.drop (0+1+1) (l.getD (0+(aA4 (ens (List.take l.length l)) (aAd (List.drop (Int.toNat 1) (List.take s.length s)))).toNat) [])))).all fun r=>r.all C.flat)&&true&&(true&&(false||true)&&true&&true)&&true) (.ret [C.sl (l.set (0+(aA4 (ens (List.take l.length l)) (aAd (List.drop (Int.toNat 1) (List.take s.length s)))).toNat) (((List.take (0+1) (l.getD (0+(aA4 (ens (List.take l.length l)) (aAd (List.drop (Int.toNat 1) (List.take s.length s)))).toNat) [])).append [C.int .i64 (aD8 (aBg (List.drop (Int.toNat 1) (List.take s.length s))))]).append (List.drop (0+1+1) (l.getD (0+(aA4 (ens (List.take l.length l)) (aAd (List.drop (Int.toNat 1) (List.take s.length s)))).toNat) [])))),C.bool true])))) (.must (decide (140=140)&&(decide ((List.take l.length l).length≤aHh)&&aAf [K.str,K.int .i64] (List.take l.length l))) (.ask (decide (aHm (ens (List.take l.length l)) (aAd (List.drop (Int.toNat 1) (List.take s.length s)))<(0:Int))) (.must (decide (l.length=l.length)&&(decide ((0:Int)≤(↑l.length:Int))&&decide ((↑l.length:Int)≤(↑l.length:Int)))&&aBc (l.length+1) 24) (.must (decide (l.length+1=(((List.take (↑l.length:Int).toNat l).append [[C.str (aAd (List.drop (Int.toNat 1) (List.take s.length s))),C.int .i64 (aD8 (aBg (List.drop (Int.toNat 1) (List.take s.length s))))]]).append (List.drop (↑l.length:Int).toNat l)).length)&&(false||(((List.take (↑l.length:Int).toNat l).append [[C.str (aAd (List.drop (Int.toNat 1) (List.take s.length s))),C.int .i64 (aD8 (aBg (List.drop (Int.toNat 1) (List.take s.length s))))]]).append (List.drop (↑l.length:Int).toNat l)).all fun r=>r.all C.flat)&&true&&(true&&(false||true)&&true&&true)&&true) (.ret [C.sl (((List.take (↑l.length:Int).toNat l).append [[C.str (aAd (List.drop (Int.toNat 1) (List.take s.length s))),C.int .i64 (aD8 (aBg (List.drop (Int.toNat 1) (List.take s.length s))))]]).append (List.drop (↑l.length:Int).toNat l)),C.bool true]))) (.must (decide (l.length=l.length)&&(decide ((0:Int)≤aHm (ens (List.take l.length l)) (aAd (List.drop (Int.toNat 1) (List.take s.length s))))&&decide (aHm (ens (List.take l.length l)) (aAd (List.drop (Int.toNat 1) (List.take s.length s)))≤(↑l.length:Int)))&&aBc (l.length+1) 24) (.must (decide (l.length+1=(((List.take (aHm (ens (List.take l.length l)) (aAd (List.drop (Int.toNat 1) (List.take s.length s)))).toNat l).append [[C.str (aAd (List.drop (Int.toNat 1) (List.take s.length s))),C.int .i64 (aD8 (aBg (List.drop (Int.toNat 1) (List.take s.length s))))]]).append (List.drop (aHm (ens (List.take l.length l)) (aAd (List.drop (Int.toNat 1) (List.take s.length s)))).toNat l)).length)&&(false||(((List.take (aHm (ens (List.take l.length l)) (aAd (List.drop (Int.toNat 1) (List.take s.length s)))).toNat l).append [[C.str (aAd (List.drop (Int.toNat 1) (List.take s.length s))),C.int .i64 (aD8 (aBg (List.drop (Int.toNat 1) (List.take s.length s))))]]).append (List.drop (aHm (ens (List.take l.length l)) (aAd (List.drop (Int.toNat 1) (List.take s.length s)))).toNat l)).all fun r=>r.all C.flat)&&true&&(true&&(false||true)&&true&&true)&&true) (.ret [C.sl (((List.take (aHm (ens (List.take l.length l)) (aAd (List.drop (Int.toNat 1) (List.take s.length s)))).toNat l).append [[C.str (aAd (List.drop (Int.toNat 1) (List.take s.length s))),C.int .i64 (aD8 (aBg (List.drop (Int.toNat 1) (List.take s.length s))))]]).append (List.drop (aHm (ens (List.take l.length l)) (aAd (List.drop (Int.toNat 1) (List.take s.length s)))).toNat l)),C.bool true]))))))) (.ret [C.sl [],C.bool false]))) (.ret [C.sl [],C.bool false]))) (.ask (decide ((↑(s.getD (Int.toNat 0) (0:UInt8)).toNat:Int)=(45:Int))) (.must (decide ((0:Int)≤(1:Int))&&decide ((1:Int)≤(↑s.length:Int))) (.must (decide ((List.take l.length l).length≤aHh)&&aAf [K.str,K.int .i64] (List.take l.length l)) (.ask (decide (aA4 (ens (List.take l.length l)) (List.drop (Int.toNat 1) (List.take s.length s))<(0:Int))) (.ret [C.sl [],C.bool false]) (.must (decide ((List.drop (Int.toNat 1) (List.take s.length s)).length≤281474976710656)) (.ask (aBf (List.drop (Int.toNat 1) (List.take s.length s))) (.must (decide (l.length=l.length)&&(decide ((0:Int)≤aA4 (ens (List.take l.length l)) (List.drop (Int.toNat 1) (List.take s.length s)))&&decide (aA4 (ens (List.take l.length l)) (List.drop (Int.toNat 1) (List.take s.length s))<(↑l.length:Int))&&decide (IntKind.i64.wrap (aA4 (ens (List.take l.length l)) (List.drop (Int.toNat 1) (List.take s.length s))+(1:Int))=aA4 (ens (List.take l.length l)) (List.drop (Int.toNat 1) (List.take s.length s))+(1:Int)))&&aBc l.length 24) (.must (decide (l.length-1=((List.take (aA4 (ens (List.take l.length l)) (List.drop (Int.toNat 1) (List.take s.length s))).toNat l).append (List.drop ((aA4 (ens (List.take l.length l)) (List.drop (Int.toNat 1) (List.take s.length s))).toNat+1) l)).length)&&(false||((List.take (aA4 (ens (List.take l.length l)) (List.drop (Int.toNat 1) (List.take s.length s))).toNat l).append (List.drop ((aA4 (ens (List.take l.length l)) (List.drop (Int.toNat 1) (List.take s.length s))).toNat+1) l)).all fun r=>r.all C.flat)&&true&&(true&&(false||true)&&true&&true)&&true) (.ret [C.sl ((List.take (aA4 (ens (List.take l.length l)) (List.drop (Int.toNat 1) (List.take s.length s))).toNat l).append (List.drop ((aA4 (ens (List.take l.length l)) (List.drop (Int.toNat 1) (List.take s.length s))).toNat+1) l)),C.bool true]))) (.ret [C.sl [],C.bool false])))))) (.ask (decide ((↑(s.getD (Int.toNat 0) (0:UInt8)).toNat:Int)=(62:Int))) (.must (decide (l.length≤aHh)&&aAf [K.str,K.int .i64] l) (.must (decide ((List.take l.length l).length≤aHh)&&aAf [K.str,K.int .i64] (List.take l.length l)) (.ask (decide (aA4 (ens (List.take l.length l)) (aAd (List.drop (Int.toNat 1) (List.take s.length s)))<(0:Int))) (.ret [C.sl [],C.bool false]) (.must (decide ((aAd (List.drop (Int.toNat 1) (List.take s.length s))).length≤281474976710656)) (.ask (aBf (aAd (List.drop (Int.toNat 1) (List.take s.length s)))) (.must (decide (l.length=l.length)&&(decide ((0:Int)≤aA4 (ens (List.take l.length l)) (aAd (List.drop (Int.toNat 1) (List.take s.length s))))&&decide (aA4 (ens (List.take l.length l)) (aAd (List.drop (Int.toNat 1) (List.take s.length s)))<(↑l.length:Int))&&decide (IntKind.i64.wrap (aA4 (ens (List.take l.length l)) (aAd (List.drop (Int.toNat 1) (List.take s.length s)))+(1:Int))=aA4 (ens (List.take l.length l)) (aAd (List.drop (Int.toNat 1) (List.take s.length s)))+(1:Int)))&&aBc l.length 24) (.must (decide ((aBg (List.drop (Int.toNat 1) (List.take s.length s))).length≤281474976710656)) (.ask (aBf (aBg (List.drop (Int.toNat 1) (List.take s.length s)))) (.ask (aAd (List.drop (Int.toNat 1) (List.take s.length s))==aBg (List.drop (Int.toNat 1) (List.take s.length s))) (.ret [C.sl [],C.bool false]) (.must (decide ((List.take (l.length-1) ((List.take (aA4 (ens (List.take l.length l)) (aAd (List.drop (Int.toNat 1) (List.take s.length s)))).toNat l).append (List.drop ((aA4 (ens (List.take l.length l)) (aAd (List.drop (Int.toNat 1) (List.take s.length s)))).toNat+1) l))).length≤aHh)&&aAf [K.str,K.int .i64] (List.take (l.length-1) ((List.take (aA4 (ens (List.take l.length l)) (aAd (List.drop (Int.toNat 1) (List.take s.length s)))).toNat l).append (List.drop ((aA4 (ens (List.take l.length l)) (aAd (List.drop (Int.toNat 1) (List.take s.length s)))).toNat+1) l)))) (.ask (decide ((0:Int)≤aA4 (ens (List.take (l.length-1) ((List.take (aA4 (ens (List.take l.length l)) (aAd (List.drop (Int.toNat 1) (List.take s.length s)))).toNat l).append (List.drop ((aA4 (ens (List.take l.length l)) (aAd (List.drop (Int.toNat 1) (List.take s.length s)))).toNat+1) l)))) (aBg (List.drop (Int.toNat 1) (List.take s.length s))))) (.must (decide ((0:Int)≤aA4 (ens (List.take (l.length-1) ((List.take (aA4 (ens (List.take l.length l)) (aAd (List.drop (Int.toNat 1) (List.take s.length s)))).toNat l).append (List.drop ((aA4 (ens (List.take l.length l)) (aAd (List.drop (Int.toNat 1) (List.take s.length s)))).toNat+1) l)))) (aBg (List.drop (Int.toNat 1) (List.take s.length s))))&&decide (aA4 (ens (List.take (l.length-1) ((List.take (aA4 (ens (List.take l.length l)) (aAd (List.drop (Int.toNat 1) (List.take s.length s)))).toNat l).append (List.drop ((aA4 (ens (List.take l.length l)) (aAd (List.drop (Int.toNat 1) (List.take s.length s)))).toNat+1) l)))) (aBg (List.drop (Int.toNat 1) (List.take s.length s)))<(↑(l.length-1):Int))) (.must (decide (0+(aA4 (ens (List.take (l.length-1) ((List.take (aA4 (ens (List.take l.length l)) (aAd (List.drop (Int.toNat 1) (List.take s.length s)))).toNat l).append (List.drop ((aA4 (ens (List.take l.length l)) (aAd (List.drop (Int.toNat 1) (List.take s.length s)))).toNat+1) l)))) (aBg (List.drop (Int.toNat 1) (List.take s.length s)))).toNat<((List.take (aA4 (ens (List.take l.length l)) (aAd (List.drop (Int.toNat 1) (List.take s.length s)))).toNat l).append (List.drop ((aA4 (ens (List.take l.length l)) (aAd (List.drop (Int.toNat 1) (List.take s.length s)))).toNat+1) l)).length)) (.must (decide (l.length-1=(((List.take (aA4 (ens (List.take l.length l)) (aAd (List.drop (Int.toNat 1) (List.take s.length s)))).toNat l).append (List.drop ((aA4 (ens (List.take l.length l)) (aAd (List.drop (Int.toNat 1) (List.take s.length s)))).toNat+1) l)).set (0+(aA4 (ens (List.take (l.length-1) ((List.take (aA4 (ens (List.take l.length l)) (aAd (List.drop (Int.toNat 1) (List.take s.length s)))).toNat l).append (List.drop ((aA4 (ens (List.take l.length l)) (aAd (List.drop (Int.toNat 1) (List.take s.length s)))).toNat+1) l)))) (aBg (List.drop (Int.toNat 1) (List.take s.length s)))).toNat) (((List.take (0+1) (((List.take (aA4 (ens (List.take l.length l)) (aAd (List.drop (Int.toNat 1) (List.take s.length s)))).toNat l).append (List.drop ((aA4 (ens (List.take l.length l)) (aAd (List.drop (Int.toNat 1) (List.take s.length s)))).toNat+1) l)).getD (0+(aA4 (ens (List.take (l.length-1) ((List.take (aA4 (ens (List.take l.length l)) (aAd (List.drop (Int.toNat 1) (List.take s.length s)))).toNat l).append (List.drop ((aA4 (ens (List.take l.length l)) (aAd (List.drop (Int.toNat 1) (List.take s.length s)))).toNat+1) l)))) (aBg (List.drop (Int.toNat 1) (List.take s.length s)))).toNat) [])).append [C.int .i64 (aB4 (ens l) (aAd (List.drop (Int.toNat 1) (List.take s.length s))))]).append (List.drop (0+1+1) (((List.take (aA4 (ens (List.take l.length l)) (aAd (List.drop (Int.toNat 1) (List.take s.length s)))).toNat l).append (List.drop ((aA4 (ens (List.take l.length l)) (aAd (List.drop (Int.toNat 1) (List.take s.length s)))).toNat+1) l)).getD (0+(aA4 (ens (List.take (l.length-1) ((List.take (aA4 (ens (List.take l.length l)) (aAd (List.drop (Int.toNat 1) (List.take s.length s)))).toNat l).append (List.drop ((aA4 (ens (List.take l.length l)) (aAd (List.drop (Int.toNat 1) (List.take s.length s)))).toNat+1) l)))) (aBg (List.drop (Int.toNat 1) (List.take s.length s)))).toNat) [])))).length)&&(false||(((List.take (aA4 (ens (List.take l.length l)) (aAd (List.drop (Int.toNat 1) (List.take s.length s)))).toNat l).append (List.drop ((aA4 (ens (List.take l.length l)) (aAd (List.drop (Int.toNat 1) (List.take s.length s)))).toNat+1) l)).set (0+(aA4 (ens (List.take (l.length-1) ((List.take (aA4 (ens (List.take l.length l)) (aAd (List.drop (Int.toNat 1) (List.take s.length s)))).toNat l).append (List.drop ((aA4 (ens (List.take l.length l)) (aAd (List.drop (Int.toNat 1) (List.take s.length s)))).toNat+1) l)))) (aBg (List.drop (Int.toNat 1) (List.take s.length s)))).toNat) (((List.take (0+1) (((List.take (aA4 (ens (List.take l.length l)) (aAd (List.drop (Int.toNat 1) (List.take s.length s)))).toNat l).append (List.drop ((aA4 (ens (List.take l.length l)) (aAd (List.drop (Int.toNat 1) (List.take s.length s)))).toNat+1) l)).getD (0+(aA4 (ens (List.take (l.length-1) ((List.take (aA4 (ens (List.take l.length l)) (aAd (List.drop (Int.toNat 1) (List.take s.length s)))).toNat l).append (List.drop ((aA4 (ens (List.take l.length l)) (aAd (List.drop (Int.toNat 1) (List.take s.length s)))).toNat+1) l)))) (aBg (List.drop (Int.toNat 1) (List.take s.length s)))).toNat) [])).append [C.int .i64 (aB4 (ens l) (aAd (List.drop (Int.toNat 1) (List.take s.length s))))]).append (List.drop (0+1+1) (((List.take (aA4 (ens (List.take l.length l)) (aAd (List.drop (Int.toNat 1) (List.take s.length s)))).toNat l).append (List.drop ((aA4 (ens (List.take l.length l)) (aAd (List.drop (Int.toNat 1) (List.take s.length s)))).toNat+1) l)).getD (0+(aA4 (ens (List.take (l.length-1) ((List.take (aA4 (ens (List.take l.length l)) (aAd (List.drop (Int.toNat 1) (List.take s.length s)))).toNat l).append (List.drop ((aA4 (ens (List.take l.length l)) (aAd (List.drop (Int.toNat 1) (List.take s.length s)))).toNat+1) l)))) (aBg (List.drop (Int.toNat 1) (List.take s.length s)))).toNat) [])))).all fun r=>r.all C.flat)&&true&&(true&&(false||true)&&true&&true)&&true) (.ret [C.sl (((List.take (aA4 (ens (List.take l.length l)) (aAd (List.drop (Int.toNat 1) (List.take s.length s)))).toNat l).append (List.drop ((aA4 (ens (List.take l.length l)) (aAd (List.drop (Int.toNat 1) (List.take s.length s)))).toNat+1) l)).set (0+(aA4 (ens (List.take (l.length-1) ((List.take (aA4 (ens (List.take l.length l)) (aAd (List.drop (Int.toNat 1) (List.take s.length s)))).toNat l).append (List.drop ((aA4 (ens (List.take l.length l)) (aAd (List.drop (Int.toNat 1) (List.take s.length s)))).toNat+1) l)))) (aBg (List.drop (Int.toNat 1) (List.take s.length s)))).toNat) (((List.take (0+1) (((List.take (aA4 (ens (List.take l.length l)) (aAd (List.drop (Int.toNat 1) (List.take s.length s)))).toNat l).append (List.drop ((aA4 (ens (List.take l.length l)) (aAd (List.drop (Int.toNat 1) (List.take s.length s)))).toNat+1) l)).getD (0+(aA4 (ens (List.take (l.length-1) ((List.take (aA4 (ens (List.take l.length l)) (aAd (List.drop (Int.toNat 1) (List.take s.length s)))).toNat l).append (List.drop ((aA4 (ens (List.take l.length l)) (aAd (List.drop (Int.toNat 1) (List.take s.length s)))).toNat+1) l)))) (aBg (List.drop (Int.toNat 1) (List.take s.length s)))).toNat) [])).append [C.int .i64 (aB4 (ens l) (aAd (List.drop (Int.toNat 1) (List.take s.length s))))]).append (List.drop (0+1+1) (((List.take (aA4 (ens (List.take l.length l)) (aAd (List.drop (Int.toNat 1) (List.take s.length s)))).toNat l).append (List.drop ((aA4 (ens (List.take l.length l)) (aAd (List.drop (Int.toNat 1) (List.take s.length s)))).toNat+1) l)).getD (0+(aA4 (ens (List.take (l.length-1) ((List.take (aA4 (ens (List.take l.length l)) (aAd (List.drop (Int.toNat 1) (List.take s.length s)))).toNat l).append (List.drop ((aA4 (ens (List.take l.length l)) (aAd (List.drop (Int.toNat 1) (List.take s.length s)))).toNat+1) l)))) (aBg (List.drop (Int.toNat 1) (List.take s.length s)))).toNat) [])))),C.bool true])))) (.must (decide (140=140)&&(decide ((List.take (l.length-1) ((List.take (aA4 (ens (List.take l.length l)) (aAd (List.drop (Int.toNat 1) (List.take s.length s)))).toNat l).append (List.drop ((aA4 (ens (List.take l.length l)) (aAd (List.drop (Int.toNat 1) (List.take s.length s)))).toNat+1) l))).length≤aHh)&&aAf [K.str,K.int .i64] (List.take (l.length-1) ((List.take (aA4 (ens (List.take l.length l)) (aAd (List.drop (Int.toNat 1) (List.take s.length s)))).toNat l).append (List.drop ((aA4 (ens (List.take l.length l)) (aAd (List.drop (Int.toNat 1) (List.take s.length s)))).toNat+1) l))))) (.ask (decide (aHm (ens (List.take (l.length-1) ((List.take (aA4 (ens (List.take l.length l)) (aAd (List.drop (Int.toNat 1) (List.take s.length s)))).toNat l).append (List.drop ((aA4 (ens (List.take l.length l)) (aAd (List.drop (Int.toNat 1) (List.take s.length s)))).toNat+1) l)))) (aBg (List.drop (Int.toNat 1) (List.take s.length s)))<(0:Int))) (.must (decide (l.length-1=((List.take (aA4 (ens (List.take l.length l)) (aAd (List.drop (Int.toNat 1) (List.take s.length s)))).toNat l).append (List.drop ((aA4 (ens (List.take l.length l)) (aAd (List.drop (Int.toNat 1) (List.take s.length s)))).toNat+1) l)).length)&&(decide ((0:Int)≤(↑(l.length-1):Int))&&decide ((↑(l.length-1):Int)≤(↑((List.take (aA4 (ens (List.take l.length l)) (aAd (List.drop (Int.toNat 1) (List.take s.length s)))).toNat l).append (List.drop ((aA4 (ens (List.take l.length l)) (aAd (List.drop (Int.toNat 1) (List.take s.length s)))).toNat+1) l)).length:Int)))&&aBc (((List.take (aA4 (ens (List.take l.length l)) (aAd (List.drop (Int.toNat 1) (List.take s.length s)))).toNat l).append (List.drop ((aA4 (ens (List.take l.length l)) (aAd (List.drop (Int.toNat 1) (List.take s.length s)))).toNat+1) l)).length+1) 24) (.must (decide (((List.take (aA4 (ens (List.take l.length l)) (aAd (List.drop (Int.toNat 1) (List.take s.length s)))).toNat l).append (List.drop ((aA4 (ens (List.take l.length l)) (aAd (List.drop (Int.toNat 1) (List.take s.length s)))).toNat+1) l)).length+1=(((List.take (↑(l.length-1):Int).toNat ((List.take (aA4 (ens (List.take l.length l)) (aAd (List.drop (Int.toNat 1) (List.take s.length s)))).toNat l).append (List.drop ((aA4 (ens (List.take l.length l)) (aAd (List.drop (Int.toNat 1) (List.take s.length s)))).toNat+1) l))).append [[C.str (aBg (List.drop (Int.toNat 1) (List.take s.length s))),C.int .i64 (aB4 (ens l) (aAd (List.drop (Int.toNat 1) (List.take s.length s))))]]).append (List.drop (↑(l.length-1):Int).toNat ((List.take (aA4 (ens (List.take l.length l)) (aAd (List.drop (Int.toNat 1) (List.take s.length s)))).toNat l).append (List.drop ((aA4 (ens (List.take l.length l)) (aAd (List.drop (Int.toNat 1) (List.take s.length s)))).toNat+1) l)))).length)&&(false||(((List.take (↑(l.length-1):Int).toNat ((List.take (aA4 (ens (List.take l.length l)) (aAd (List.drop (Int.toNat 1) (List.take s.length s)))).toNat l).append (List.drop ((aA4 (ens (List.take l.length l)) (aAd (List.drop (Int.toNat 1) (List.take s.length s)))).toNat+1) l))).append [[C.str (aBg (List.drop (Int.toNat 1) (List.take s.length s))),C.int .i64 (aB4 (ens l) (aAd (List.drop (Int.toNat 1) (List.take s.length s))))]]).append (List.drop (↑(l.length-1):Int).toNat ((List.take (aA4 (ens (List.take l.length l)) (aAd (List.drop (Int.toNat 1) (List.take s.length s)))).toNat l).append (List.drop ((aA4 (ens (List.take l.length l)) (aAd (List.drop (Int.toNat 1) (List.take s.length s)))).toNat+1) l)))).all fun r=>r.all C.flat)&&true&&(true&&(false||true)&&true&&true)&&true) (.ret [C.sl (((List.take (↑(l.length-1):Int).toNat ((List.take (aA4 (ens (List.take l.length l)) (aAd (List.drop (Int.toNat 1) (List.take s.length s)))).toNat l).append (List.drop ((aA4 (ens (List.take l.length l)) (aAd (List.drop (Int.toNat 1) (List.take s.length s)))).toNat+1) l))).append [[C.str (aBg (List.drop (Int.toNat 1) (List.take s.length s))),C.int .i64 (aB4 (ens l) (aAd (List.drop (Int.toNat 1) (List.take s.length s))))]]).append (List.drop (↑(l.length-1):Int).toNat ((List.take (aA4 (ens (List.take l.length l)) (aAd (List.drop (Int.toNat 1) (List.take s.length s)))).toNat l).append (List.drop ((aA4 (ens (List.take l.length l)) (aAd (List.drop (Int.toNat 1) (List.take s.length s)))).toNat+1) l)))),C.bool true]))) (.must (decide (l.length-1=((List.take (aA4 (ens (List.take l.length l)) (aAd (List.drop (Int.toNat 1) (List.take s.length s)))).toNat l).append (List.drop ((aA4 (ens (List.take l.length l)) (aAd (List.drop (Int.toNat 1) (List.take s.length s)))).toNat+1) l)).length)&&(decide ((0:Int)≤aHm (ens (List.take (l.length-1) ((List.take (aA4 (ens (List.take l.length l)) (aAd (List.drop (Int.toNat 1) (List.take s.length s)))).toNat l).append (List.drop ((aA4 (ens (List.take l.length l)) (aAd (List.drop (Int.toNat 1) (List.take s.length s)))).toNat+1) l)))) (aBg (List.drop (Int.toNat 1) (List.take s.length s))))&&decide (aHm (ens (List.take (l.length-1) ((List.take (aA4 (ens (List.take l.length l)) (aAd (List.drop (Int.toNat 1) (List.take s.length s)))).toNat l).append (List.drop ((aA4 (ens (List.take l.length l)) (aAd (List.drop (Int.toNat 1) (List.take s.length s)))).toNat+1) l)))) (aBg (List.drop (Int.toNat 1) (List.take s.length s)))≤(↑((List.take (aA4 (ens (List.take l.length l)) (aAd (List.drop (Int.toNat 1) (List.take s.length s)))).toNat l).append (List.drop ((aA4 (ens (List.take l.length l)) (aAd (List.drop (Int.toNat 1) (List.take s.length s)))).toNat+1) l)).length:Int)))&&aBc (((List.take (aA4 (ens (List.take l.length l)) (aAd (List.drop (Int.toNat 1) (List.take s.length s)))).toNat l).append (List.drop ((aA4 (ens (List.take l.length l)) (aAd (List.drop (Int.toNat 1) (List.take s.length s)))).toNat+1) l)).length+1) 24) (.must (decide (((List.take (aA4 (ens (List.take l.length l)) (aAd (List.drop (Int.toNat 1) (List.take s.length s)))).toNat l).append (List.drop ((aA4 (ens (List.take l.length l)) (aAd (List.drop (Int.toNat 1) (List.take s.length s)))).toNat+1) l)).length+1=(((List.take (aHm (ens (List.take (l.length-1) ((List.take (aA4 (ens (List.take l.length l)) (aAd (List.drop (Int.toNat 1) (List.take s.length s)))).toNat l).append (List.drop ((aA4 (ens (List.take l.length l)) (aAd (List.drop (Int.toNat 1) (List.take s.length s)))).toNat+1) l)))) (aBg (List.drop (Int.toNat 1) (List.take s.length s)))).toNat ((List.take (aA4 (ens (List.take l.length l)) (aAd (List.drop (Int.toNat 1) (List.take s.length s)))).toNat l).append (List.drop ((aA4 (ens (List.take l.length l)) (aAd (List.drop (Int.toNat 1) (List.take s.length s)))).toNat+1) l))).append [[C.str (aBg (List.drop (Int.toNat 1) (List.take s.length s))),C.int .i64 (aB4 (ens l) (aAd (List.drop (Int.toNat 1) (List.take s.length s))))]]).append (List.drop (aHm (ens (List.take (l.length-1) ((List.take (aA4 (ens (List.take l.length l)) (aAd (List.drop (Int.toNat 1) (List.take s.length s)))).toNat l).append (List.drop ((aA4 (ens (List.take l.length l)) (aAd (List.drop (Int.toNat 1) (List.take s.length s)))).toNat+1) l)))) (aBg (List.drop (Int.toNat 1) (List.take s.length s)))).toNat ((List.take (aA4 (ens (List.take l.length l)) (aAd (List.drop (Int.toNat 1) (List.take s.length s)))).toNat l).append (List.drop ((aA4 (ens (List.take l.length l)) (aAd (List.drop (Int.toNat 1) (List.take s.length s)))).toNat+1) l)))).length)&&(false||(((List.take (aHm (ens (List.take (l.length-1) ((List.take (aA4 (ens (List.take l.length l)) (aAd (List.drop (Int.toNat 1) (List.take s.length s)))).toNat l).append (List.drop ((aA4 (ens (List.take l.length l)) (aAd (List.drop (Int.toNat 1) (List.take s.length s)))).toNat+1) l)))) (aBg (List.drop (Int.toNat 1) (List.take s.length s)))).toNat ((List.take (aA4 (ens (List.take l.length l)) (aAd (List.drop (Int.toNat 1) (List.take s.length s)))).toNat l).append (List.drop ((aA4 (ens (List.take l.length l)) (aAd (List.drop (Int.toNat 1) (List.take s.length s)))).toNat+1) l))).append [[C.str (aBg (List.drop (Int.toNat 1) (List.take s.length s))),C.int .i64 (aB4 (ens l) (aAd (List.drop (Int.toNat 1) (List.take s.length s))))]]).append (List.drop (aHm (ens (List.take (l.length-1) ((List.take (aA4 (ens (List.take l.length l)) (aAd (List.drop (Int.toNat 1) (List.take s.length s)))).toNat l).append (List.drop ((aA4 (ens (List.take l.length l)) (aAd (List.drop (Int.toNat 1) (List.take s.length s)))).toNat+1) l)))) (aBg (List.drop (Int.toNat 1) (List.take s.length s)))).toNat ((List.take (aA4 (ens (List.take l.length l)) (aAd (List.drop (Int.toNat 1) (List.take s.length s)))).toNat l).append (List.drop ((aA4 (ens (List.take l.length l)) (aAd (List.drop (Int.toNat 1) (List.take s.length s)))).toNat+1) l)))).all fun r=>r.all C.flat)&&true&&(true&&(false||true)&&true&&true)&&true) (.ret [C.sl (((List.take (aHm (ens (List.take (l.length-1) ((List.take (aA4 (ens (List.take l.length l)) (aAd (List.drop (Int.toNat 1) (List.take s.length s)))).toNat l).append (List.drop ((aA4 (ens (List.take l.length l)) (aAd (List.drop (Int.toNat 1) (List.take s.length s)))).toNat+1) l)))) (aBg (List.drop (Int.toNat 1) (List.take s.length s)))).toNat ((List.take (aA4 (ens (List.take l.length l)) (aAd (List.drop (Int.toNat 1) (List.take s.length s)))).toNat l).append (List.drop ((aA4 (ens (List.take l.length l)) (aAd (List.drop (Int.toNat 1) (List.take s.length s)))).toNat+1) l))).append [[C.str (aBg (List.drop (Int.toNat 1) (List.take s.length s))),C.int .i64 (aB4 (ens l) (aAd (List.drop (Int.toNat 1) (List.take s.length s))))]]).append (List.drop (aHm (ens (List.take (l.length-1) ((List.take (aA4 (ens (List.take l.length l)) (aAd (List.drop (Int.toNat 1) (List.take s.length s)))).toNat l).append (List.drop ((aA4 (ens (List.take l.length l)) (aAd (List.drop (Int.toNat 1) (List.take s.length s)))).toNat+1) l)))) (aBg (List.drop (Int.toNat 1) (List.take s.length s)))).toNat ((List.take (aA4 (ens (List.take l.length l)) (aAd (List.drop (Int.toNat 1) (List.take s.length s)))).toNat l).append (List.drop ((aA4 (ens (List.take l.length l)) (aAd (List.drop (Int.toNat 1) (List.take s.length s)))).toNat+1) l)))),C.bool true])))))))) (.ret [C.sl [],C.bool false])))) (.ret [C.sl [],C.bool false])))))) (.ret [C.sl [],C.bool false]))))))) (.must (aAf [K.str,K.int .i64] l&&decide (l.length≤1099511627776)) (.must ((true&&l.all fun row=>decide (row.length=2))&&true&&true&&true) (.must (decide ((0:Int)≤(0:Int))&&decide ((0:Int)<(↑s.length:Int))) (.ask (decide ((↑(s.getD (Int.toNat 0) (0:UInt8)).toNat:Int)=(43:Int))) (.must (decide ((aBg (List.drop (Int.toNat 1) (List.take s.length s))).length≤281474976710656)) (.ask (aM3 (aBg (List.drop (Int.toNat 1) (List.take s.length s)))) (.ret [C.sl [],C.bool false]) (.ret [C.sl [],C.bool false]))) (.ask (decide ((↑(s.getD (Int.toNat 0) (0:UInt8)).toNat:Int)=(45:Int))) (.must (decide ((0:Int)≤(1:Int))&&decide ((1:Int)≤(↑s.length:Int))) (.must (decide ((List.take l.length l).length≤aHh)&&aAf [K.str,K.int .i64] (List.take l.length l)) (.ask (decide (aA4 (ens (List.take l.length l)) (List.drop (Int.toNat 1) (List.take s.length s))<(0:Int))) (.ret [C.sl [],C.bool false]) (.must (decide ((List.drop (Int.toNat 1) (List.take s.length s)).length≤281474976710656)) (.ask (aBf (List.drop (Int.toNat 1) (List.take s.length s))) (.must (decide (l.length=l.length)&&(decide ((0:Int)≤aA4 (ens (List.take l.length l)) (List.drop (Int.toNat 1) (List.take s.length s)))&&decide (aA4 (ens (List.take l.length l)) (List.drop (Int.toNat 1) (List.take s.length s))<(↑l.length:Int))&&decide (IntKind.i64.wrap (aA4 (ens (List.take l.length l)) (List.drop (Int.toNat 1) (List.take s.length s))+(1:Int))=aA4 (ens (List.take l.length l)) (List.drop (Int.toNat 1) (List.take s.length s))+(1:Int)))&&aBc l.length 24) (.must (decide (l.length-1=((List.take (aA4 (ens (List.take l.length l)) (List.drop (Int.toNat 1) (List.take s.length s))).toNat l).append (List.drop ((aA4 (ens (List.take l.length l)) (List.drop (Int.toNat 1) (List.take s.length s))).toNat+1) l)).length)&&(false||((List.take (aA4 (ens (List.take l.length l)) (List.drop (Int.toNat 1) (List.take s.length s))).toNat l).append (List.drop ((aA4 (ens (List.take l.length l)) (List.drop (Int.toNat 1) (List.take s.length s))).toNat+1) l)).all fun r=>r.all C.flat)&&true&&(true&&(false||true)&&true&&true)&&true) (.ret [C.sl ((List.take (aA4 (ens (List.take l.length l)) (List.drop (Int.toNat 1) (List.take s.length s))).toNat l).append (List.drop ((aA4 (ens (List.take l.length l)) (List.drop (Int.toNat 1) (List.take s.length s))).toNat+1) l)),C.bool true]))) (.ret [C.sl [],C.bool false])))))) (.ask (decide ((↑(s.getD (Int.toNat 0) (0:UInt8)).toNat:Int)=(62:Int))) (.must (decide (l.length≤aHh)&&aAf [K.str,K.int .i64] l) (.must (decide ((List.take l.length l).length≤aHh)&&aAf [K.str,K.int .i64] (List.take l.length l)) (.ask (decide (aA4 (ens (List.take l.length l)) (aAd (List.drop (Int.toNat 1) (List.take s.length s)))<(0:Int))) (.ret [C.sl [],C.bool false]) (.must (decide ((aAd (List.drop (Int.toNat 1) (List.take s.length s))).length≤281474976710656)) (.ask (aBf (aAd (List.drop (Int.toNat 1) (List.take s.length s)))) (.must (decide (l.length=l.length)&&(decide ((0:Int)≤aA4 (ens (List.take l.length l)) (aAd (List.drop (Int.toNat 1) (List.take s.length s))))&&decide (aA4 (ens (List.take l.length l)) (aAd (List.drop (Int.toNat 1) (List.take s.length s)))<(↑l.length:Int))&&decide (IntKind.i64.wrap (aA4 (ens (List.take l.length l)) (aAd (List.drop (Int.toNat 1) (List.take s.length s)))+(1:Int))=aA4 (ens (List.take l.length l)) (aAd (List.drop (Int.toNat 1) (List.take s.length s)))+(1:Int)))&&aBc l.length 24) (.ret [C.sl [],C.bool false])) (.ret [C.sl [],C.bool false])))))) (.ret [C.sl [],C.bool false]))))))))))):T (List C)).eval:=aAh (by kernel_rfl)
theorem bM1 (a:List UInt8):Op.bytesLess a a=false:=by rw[Go.Proofs.bytesLess_eq];exact decide_eq_false (List.lt_irrefl a)
theorem bM0 {a b c:List UInt8} (h:Op.bytesLess a b=true) (h2:Op.bytesLess b c=true):Op.bytesLess a c=true:=by
 rw[Go.Proofs.bytesLess_eq]at *
 exact decide_eq_true (List.lt_trans (of_decide_eq_true h) (of_decide_eq_true h2))
theorem bZa {a b:List UInt8} (h:Op.bytesLess a b=true):Op.bytesLess b a=false:=by
 cases h2:Op.bytesLess b a
 ·rfl
 ·have:=bM0 h h2
  rw[bM1]at this
  cases this
theorem cB1 {a b:List UInt8} (h:Op.bytesLess a b=false) (hn:a≠b):Op.bytesLess b a=true:=by
 rw[Go.Proofs.bytesLess_eq]at *
 have h:=of_decide_eq_false h
 refine decide_eq_true ?_
 have h1:b≤a:=List.not_lt.1 h
 exact Std.lt_of_le_of_ne h1 fun e=>hn e.symm
theorem aVn {A:Type} (p:A→Bool):∀ (l:List A) (i:Nat),(aD1 p l i= -1∧∀ x∈l,p x=false)∨∃ a x b,l=a++x::b∧(∀ y∈a,p y=false)∧p x=true∧aD1 p l i=((i+a.length:Nat):Int)
 |[],i=>.inl ⟨rfl,fun x hx=>by cases hx⟩
 |x::r,i=>by
  unfold aD1
  cases c:p x
  ·rcases aVn p r (i+1)with⟨h1,h2⟩ | ⟨a,y,b,h1,h2,h3,h4⟩
   ·refine .inl ⟨h1,fun y hy=>?_⟩
    rcases List.mem_cons.1 hy with rfl | hy
    ·exact c
    ·exact h2 y hy
   ·refine .inr ⟨x::a,y,b,by rw[h1];rfl,fun z hz=>?_,h3,by rw[if_neg (by simp),h4];congr 1;simp;omega⟩
    rcases List.mem_cons.1 hz with rfl | hz
    ·exact c
    ·exact h2 z hz
  ·exact .inr ⟨[],x,r,rfl,fun y hy=>(by cases hy),c,by rw[if_pos rfl];simp⟩
theorem aM4 (e:En) (r:List En):∀ (a:List En),(∀ x∈a,geB x.name e.name=false∧x.name≠e.name)→aEn e (a++r) false=a++aEn e r false
 |[],_=>rfl
 |x::a,h=>by
  obtain⟨h1,h2⟩:=h x List.mem_cons_self
  have ih:=aM4 e r a fun y hy=>h y (List.mem_cons_of_mem _ hy)
  show (if false then[]else if geB x.name e.name then[e]else[])++(if x.name=e.name then[]else[x])++aEn e (a++r) (false||geB x.name e.name)=_
  rw[h1,if_neg h2,Bool.false_or,ih];rfl
theorem aR2 (e:En):∀ (l:List En),(∀ x∈l,x.name≠e.name)→aEn e l true=l
 |[],_=>rfl
 |x::a,h=>by
  have ih:=aR2 e a fun y hy=>h y (List.mem_cons_of_mem _ hy)
  show (if true then[]else if geB x.name e.name then[e]else[])++(if x.name=e.name then[]else[x])++aEn e a (true||geB x.name e.name)=_
  rw[if_neg (h x List.mem_cons_self),Bool.true_or,ih];rfl
theorem bGm (nm:List UInt8) (l:List En) (h:∀ x∈l,x.name≠nm):aDg l nm=l:=by
 unfold aDg
 rw[List.filter_eq_self]
 intro x hx
 simpa using h x hx
theorem aVb (l:List En) (nm:List UInt8):(aA4 l nm= -1∧∀ x∈l,x.name≠nm)∨∃ a x b,l=a++x::b∧(∀ y∈a,y.name≠nm)∧x.name=nm∧aA4 l nm=(a.length:Int):=by
 rcases aVn (bKl nm) l 0 with⟨h1,h2⟩ | ⟨a,x,b,h1,h2,h3,h4⟩
 ·exact .inl ⟨h1,fun x hx=>by simpa[bKl]using h2 x hx⟩
 ·exact .inr ⟨a,x,b,h1,fun y hy=>by simpa[bKl]using h2 y hy,by simpa[bKl]using h3,by unfold aA4;rw[h4,Nat.zero_add]⟩
theorem bQ5 {a b:List En} {x:En} (h:Srt (a++x::b)):(∀ y∈a,Op.bytesLess y.name x.name=true)∧∀ y∈b,Op.bytesLess x.name y.name=true:=by
 obtain⟨_,h2,h3⟩:=List.pairwise_append.1 h
 exact⟨fun y hy=>h3 y hy x List.mem_cons_self,fun y hy=>(List.pairwise_cons.1 h2).1 y hy⟩
theorem bZ9 {a b:List UInt8} (h:Op.bytesLess a b=true):a≠b:=fun e=>by subst e;rw[bM1]at h;cases h
theorem bQv (l:List En) (e:En) (h:Srt l):aT1 l e=aSp l e:=by
 unfold aT1 aSp
 rcases aVb l e.name with⟨h1,h2⟩ | ⟨a,x,b,rfl,h2,h3,h4⟩
 ·rw[h1,if_neg (by omega)]
  have keep:∀ a:List En,(∀ y∈a,bTl e.name y=false)→(∀ y∈a,y.name≠e.name)→∀ x∈a,geB x.name e.name=false∧x.name≠e.name:=fun a q1 q2 x hx=>by
   have q:=q1 x hx
   have n:=q2 x hx
   simp only[bTl,Bool.not_eq_false',Bool.or_eq_true,beq_iff_eq]at q
   rcases q with q | q
   ·exact⟨by unfold geB;rw[q];rfl,n⟩
   ·exact absurd q n
  rcases aVn (bTl e.name) l 0 with⟨g1,g2⟩ | ⟨a,x,b,rfl,g2,g3,g4⟩
  ·have:aHm l e.name= -1:=g1
   rw[this,if_pos (by omega)]
   have k:=aM4 e [] l (keep l g2 h2)
   rw[List.append_nil]at k
   rw[k];rfl
  ·have:aHm (a++x::b) e.name=(a.length:Int):=by unfold aHm;rw[g4,Nat.zero_add]
   rw[this,if_neg (by omega),Int.toNat_natCast,List.take_left,List.drop_left,aM4 e (x::b) a (keep a g2 fun y hy=>h2 y (List.mem_append_left _ hy))]
   have hx:=h2 x (List.mem_append_right _ List.mem_cons_self)
   simp only[bTl,Bool.not_eq_true',Bool.or_eq_false_iff]at g3
   have ge:geB x.name e.name=true:=by unfold geB;rw[g3.1];rfl
   have pd:=aR2 e b fun y hy=>h2 y (List.mem_append_right _ (List.mem_cons_of_mem _ hy))
   show _=a++((if false then[]else if geB x.name e.name then[e]else[])++(if x.name=e.name then[]else[x])++aEn e b (false||geB x.name e.name))
   rw[ge,if_neg hx,Bool.or_true,pd]
   simp
 ·obtain⟨s1,s2⟩:=bQ5 h
  rw[h3]at s1 s2
  rw[h4,if_pos (by omega),Int.toNat_natCast,aM4 e (x::b) a fun y hy=>⟨by unfold geB;rw[s1 y hy];rfl,bZ9 (s1 y hy)⟩]
  have ge:geB x.name e.name=true:=by unfold geB;rw[h3,bM1];rfl
  have pd:=aR2 e b fun y hy=>(bZ9 (s2 y hy)).symm
  show _=a++((if false then[]else if geB x.name e.name then[e]else[])++(if x.name=e.name then[]else[x])++aEn e b (false||geB x.name e.name))
  rw[ge,if_pos h3,Bool.or_true,pd]
  have:(a++x::b).getD a.length ⟨[],0⟩=x:=by simp[List.getD_eq_getElem?_getD]
  rw[this,h3]
  simp
theorem bLk (l:List En) (nm:List UInt8) (h:Srt l) (hp:0≤aA4 l nm):aHa l nm=aDg l nm:=by
 unfold aHa
 rcases aVb l nm with⟨h1,h2⟩ | ⟨a,x,b,rfl,h2,h3,h4⟩
 ·omega
 ·obtain⟨s1,s2⟩:=bQ5 h
  rw[h3]at s1 s2
  have d1:=bGm nm a h2
  have d2:=bGm nm b fun y hy=>(bZ9 (s2 y hy)).symm
  unfold aDg at d1 d2 ⊢
  rw[h4,Int.toNat_natCast,List.filter_append,List.filter_cons,d1,d2,List.take_left,if_neg (by simp[h3])]
  congr 1
  rw[List.drop_append]
  simp
theorem bTz {l:List En} {nm:List UInt8} (h:Srt l):Srt (aDg l nm):=h.sublist List.filter_sublist
theorem cAm:aA8 Tryz.prog bXa:=aA6 (by simp[])
theorem bOv:aAs Tryz.prog 140 (sg [aDe,pP] [rB]) bCe:=aA5 cAm aA9 Tryz.func140 (by kernel_rfl) fun cs outs hk h=>by
 unfold bCe at h
 split at h
 ·simp only[Option.some.injEq,Prod.mk.injEq,true_and]at h
  subst h
  rename_i n i nm
  rw[aAb,bS5]
  cases c:(!(Op.bytesLess n nm||n==nm))
  ·exact aAj rfl rfl
  ·exact aAc rfl rfl
 ·cases h
theorem bRk (l:List En) (nm:List UInt8) (hl:l.length≤281474976710656):∀ (n i:Nat),i≤l.length→l.length<i+n →
  (aBh bMf aAa (sg [pSl 92,pF] [rI]) Tryz.f110 [.r,.l,.r,.b] n (bM6 (l.map eEn) nm l.length i)).eval=some [.int .i64 (aD1 (bTl nm) (l.drop i) i)]:=by
 intro n
 induction n with
 |zero=>intro i h1 h2;omega
 |succ n ih =>
  intro i h1 h2
  rw[aAv _ _ _ _ _ _ _ (by kernel_rfl),bJh]
  by_cases hi:i<l.length
  ·have g:=aAx eEn l ⟨[],0⟩ i hi
   have w:IntKind.i64.wrap ((i:Int)+1)=((i+1:Nat):Int):=by rw[aAg]<;>omega
   have e:=ih (i+1) (by omega) (by omega)
   rw[List.length_map,Int.toNat_natCast,g,w,aBx l i ⟨[],0⟩ hi]
   generalize l.getD i ⟨[],0⟩=y
   refine aAc (decide_eq_true (by omega)) (aA7 (at2 _ _ hi _ _ rfl) (aA7 rfl ?_))
   show (T.ask (bTl nm y) _ _).eval=some [C.int .i64 (if bTl nm y then _ else _)]
   cases c:bTl nm y
   ·exact aAj rfl e
   ·exact aAc rfl rfl
  ·have e:i=l.length:=by omega
   subst e
   rw[List.drop_length]
   exact aAj (decide_eq_false (by omega)) rfl
theorem cAe:aA8 Tryz.prog bMf:=aA6 (by simp[bOv])
theorem bO7:aAs Tryz.prog 110 (sg [pSl 92,pF] [rI]) bBr:=aA5 cAe aA9 Tryz.func110 (by kernel_rfl) fun cs outs hk h=>by
 unfold bBr at h
 split at h
 ·simp only[Option.some.injEq,Prod.mk.injEq,Bool.and_eq_true,decide_eq_true_eq]at h
  obtain⟨⟨rfl,h1,h2⟩,rfl⟩:=h
  rename_i rows nm
  have hr:=aDi h2
  have hl:(ens rows).length≤281474976710656:=by unfold ens;rw[List.length_map];exact h1
  generalize ens rows=l at hr hl ⊢
  subst hr
  rw[aAb,bRj,List.length_map]
  exact bRk l nm hl 9223372036854775808 0 (by omega) (by omega)
 ·cases h
theorem bVg:aA8 Tryz.prog bMk:=aA6 (by simp[aI2])
theorem bG2:aAs Tryz.prog 118 (sg [pSl 92,pS] [rI]) aGh:=aA5 bVg aA9 Tryz.func118 (by kernel_rfl) fun cs outs hk h=>by
 unfold aGh at h
 split at h
 ·simp only[Option.some.injEq,Prod.mk.injEq,Bool.and_eq_true,decide_eq_true_eq]at h
  obtain⟨⟨h1,h2⟩,rfl⟩:=h
  rename_i rows nm
  have hr:=aDi h2
  have big:(decide (rows.length≤aHh)&&aAf [K.str,K.int .i64] rows)=true:=by rw[decide_eq_true h1];exact h2
  rw[aAb,bK3]
  have rg:=aEo (ens rows) nm
  have hll:(ens rows).length=rows.length:=by unfold ens;rw[List.length_map]
  unfold aB4
  refine aA7 big ?_
  by_cases c:aA4 (ens rows) nm<0
  ·rw[if_pos c]
   exact aAc (decide_eq_true c) rfl
  ·rw[if_neg c]
   refine aAj (decide_eq_false c) ?_
   have hi:(aA4 (ens rows) nm).toNat<(ens rows).length:=by omega
   have g:=aAx eEn (ens rows) ⟨[],0⟩ _ hi
   rw[←hr]at g
   rw[g]
   have m:(decide (0≤aA4 (ens rows) nm)&&decide (aA4 (ens rows) nm<(rows.length:Int)))=true:=by rw[decide_eq_true (by omega),decide_eq_true (by omega)];rfl
   refine aA7 (by rw[m];rfl) (aA7 rfl rfl)
 ·cases h
theorem bVp (x y:List En) (hx:x.length≤16777216) (hl:x.length=y.length):∀ (n i:Nat),i≤x.length→x.length<i+n→x.take i=y.take i →
  (aBh bW7 aAa (sg [pSl 92,pSl 92] [rB]) Tryz.f89 [.r,.r,.l,.r,.b] n (bW5 (x.map eEn) (y.map eEn) x.length i)).eval=some [.bool (decide (x=y))]:=by
 intro n
 induction n with
 |zero=>intro i h1 h2;omega
 |succ n ih =>
  intro i h1 h2 h3
  rw[aAv _ _ _ _ _ _ _ (by kernel_rfl),bP0]
  by_cases hi:i<x.length
  ·have hi2:i<y.length:=by omega
   have w:IntKind.i64.wrap ((i:Int)+1)=((i+1:Nat):Int):=by rw[aAg]<;>omega
   have g:=aAx eEn x ⟨[],0⟩ i hi
   have g2:=aAx eEn y ⟨[],0⟩ i hi2
   rw[List.length_map,List.length_map,Int.toNat_natCast,g,g2,w]
   refine aAc (decide_eq_true (by omega)) (aA7 (at2 _ _ hi _ _ rfl) (aA7 rfl (aA7 (at2 _ _ hi2 _ _ rfl) (aA7 rfl ?_))))
   show (T.ask (!((x.getD i ⟨[],0⟩).name==(y.getD i ⟨[],0⟩).name&&(decide ((x.getD i ⟨[],0⟩).id=(y.getD i ⟨[],0⟩).id)&&true))) _ _).eval=_
   by_cases hxy:x.getD i ⟨[],0⟩=y.getD i ⟨[],0⟩
   ·have e:=ih (i+1) (by omega) (by omega) (aG8 ⟨[],0⟩ hi hi2 h3 hxy)
    exact aAj (by rw[hxy];simp) e
   ·have:x≠y:=fun h=>hxy (by rw[h])
    rw[decide_eq_false this]
    exact aAc (cAv hxy) rfl
  ·have e1:i=x.length:=by omega
   have:x=y:=by
    rw[e1,List.take_length,hl,List.take_length]at h3
    exact h3
   rw[decide_eq_true this]
   exact aAj (decide_eq_false (by omega)) rfl
theorem cBy:aA8 Tryz.prog bW7:=aA6 (by simp[])
theorem bSi:aAs Tryz.prog 89 (sg [pSl 92,pSl 92] [rB]) aLz:=aA5 cBy aA9 Tryz.func89 (by kernel_rfl) fun cs outs hk h=>by
 unfold aLz at h
 split at h
 ·simp only[Option.some.injEq,Prod.mk.injEq,Bool.and_eq_true]at h
  obtain⟨⟨h1,h2⟩,rfl⟩:=h
  rename_i x0 y0
  obtain⟨x,rfl,e,hl,ht⟩:=aEp h1
  obtain⟨y,rfl,e2,hl2,ht2⟩:=aEp h2
  rw[e,e2,aAb,bVo,List.length_map,List.length_map]
  by_cases c:x.length=y.length
  ·exact aAj (by simp[c]) (bVp x y hl c _ 0 (by omega) (by omega) rfl)
  ·have:x≠y:=fun h=>c (by rw[h])
   rw[decide_eq_false this]
   exact aAc (by simp;omega) rfl
 ·cases h
theorem bL5 {g : FuncId} {fn : Func} (h : bXm g = some fn) : Tryz.prog.funcs[g]? = some fn ∧ (fn.name == "runtime.NumGoroutine") = false := by
 unfold bXm at h
 split at h
 ·rename_i hg;subst hg;obtain rfl:=Option.some.inj h;exact⟨Tryz.func116,by kernel_rfl⟩
 ·split at h
  ·rename_i hg;subst hg;obtain rfl:=Option.some.inj h;exact⟨Tryz.func117,by kernel_rfl⟩
  ·split at h
   ·rename_i hg;subst hg;obtain rfl:=Option.some.inj h;exact⟨Tryz.func141,by kernel_rfl⟩
   ·split at h
    ·rename_i hg;subst hg;obtain rfl:=Option.some.inj h;exact⟨Tryz.func142,by kernel_rfl⟩
    ·cases h
theorem bO0 {lv:List (Nat×List Nat)} {gs:Laws} (h:∀ p,p∈gs→aAs Tryz.prog p.1 p.2.1 p.2.2):aA8 Tryz.prog (cC6 lv gs) :=
 ⟨⟨(bL2 aT0).1,fun g fn hh=>(bL5 hh).1,fun t m e te h1 h2=>bSy bH0 t m e te h1 h2,bWw bLs,fun t e h=>by cases h⟩,fun g sig spec hl=>h (g,sig,spec) (aFo hl),fun g fn hh=>(bL5 hh).2,by kernel_rfl⟩
theorem bZ4 (q:List En) (k:Nat):(List.take k (q.map eEn)).append (List.drop (k+1) (q.map eEn))=(q.take k++q.drop (k+1)).map eEn:=by
 show List.take k (q.map eEn)++List.drop (k+1) (q.map eEn)=_
 rw[List.map_append,List.map_take,List.map_drop]
theorem bRr (q:List En) (k:Nat) (nm:List UInt8) (id:Int):((List.take k (q.map eEn)).append [[C.str nm,C.int .i64 id]]).append (List.drop k (q.map eEn))=(q.take k++[(⟨nm,id⟩:En)]++q.drop k).map eEn:=by
 show List.take k (q.map eEn)++[[C.str nm,C.int .i64 id]]++List.drop k (q.map eEn)=_
 rw[List.map_append,List.map_append,List.map_take,List.map_drop];rfl
theorem bXo (q:List En) (k:Nat) (hk:k<q.length) (id:Int):(q.map eEn).set k (((List.take 1 ((q.map eEn).getD k [])).append [C.int .i64 id]).append (List.drop 2 ((q.map eEn).getD k [])))=(q.set k ⟨(q.getD k ⟨[],0⟩).name,id⟩).map eEn:=by
 rw[aAx eEn q ⟨[],0⟩ k hk,List.map_set]
 rfl
theorem aT5 (q:List En) (nm:List UInt8):aHm q nm= -1∨(0≤aHm q nm∧aHm q nm<q.length):=by
 rcases aJh (bTl nm) q 0 with h | h
 ·exact .inl h
 ·refine .inr ?_
  unfold aHm
  omega
theorem bLj (q:List En) (e:En):q.length≤(aT1 q e).length∧(aT1 q e).length≤q.length+1:=by
 have rg:=aT5 q e.name
 unfold aT1
 split
 ·simp
 ·split
  ·simp
  ·simp;omega
theorem bY4 {q:List En} {nm:List UInt8} {id:Int} (h:0≤aA4 q nm):q.set (aA4 q nm).toNat ⟨(q.getD (aA4 q nm).toNat ⟨[],0⟩).name,id⟩=aT1 q ⟨nm,id⟩∧(aA4 q nm).toNat<q.length:=by
 have rg:=aEo q nm
 unfold aT1
 exact⟨by rw[if_pos h],by omega⟩
theorem bY6 {q:List En} {nm:List UInt8} {id:Int} (h:¬0≤aA4 q nm) (hg:aHm q nm<0):q.take q.length++[(⟨nm,id⟩:En)]++q.drop q.length=aT1 q ⟨nm,id⟩:=by
 unfold aT1
 rw[if_neg h,if_pos hg];simp
theorem bY5 {q:List En} {nm:List UInt8} {id:Int} (h:¬0≤aA4 q nm) (hg:¬aHm q nm<0):q.take (aHm q nm).toNat++[(⟨nm,id⟩:En)]++q.drop (aHm q nm).toNat=aT1 q ⟨nm,id⟩∧(aHm q nm).toNat≤q.length:=by
 have rg:=aT5 q nm
 unfold aT1
 exact⟨by rw[if_neg h,if_neg hg],by omega⟩
theorem bLc (q:List En) (h:q.length≤16777216):(decide ((q.map eEn).length≤aHh)&&aAf [K.str,K.int .i64] (q.map eEn))=true:=by
 rw[List.length_map];exact bKm q h
theorem bIk (n:Nat) (h:n≤16777218):aBc n 24=true:=by simp only[aBc,decide_eq_true_eq];omega
theorem bRv:aA8 Tryz.prog bKu:=bO0 (by simp[bKp,aLl,bRw,aPq,aI2,bO7,bG2])
theorem bJp : aAs Tryz.prog 90 (sg [pSl 92, pS] [rSl 92, rB]) aVc := aA5 bRv (fun c hc => bRt (bYn bRs c hc) 2 (hc ▸ bRv)) Tryz.func90 (by kernel_rfl) fun cs outs hk h => by
  unfold aVc at h
  split at h
  · simp only [Option.some.injEq, Prod.mk.injEq, Bool.and_eq_true, decide_eq_true_eq, dN] at h
    obtain ⟨⟨⟨h1, hlt⟩, hs⟩, rfl⟩ := h
    rename_i l0 s
    obtain ⟨q, rfl, e, hql, hqt⟩ := aEp h1
    rw [List.length_map] at hlt
    unfold aNu aZ0
    rw [aAb, bOk, e]
    have t1 : Int.toNat (1 : Int) = 1 := rfl
    have t0 : Int.toNat (0 : Int) = 0 := rfl
    by_cases h0 : s = []
    · subst h0
      exact aAc rfl rfl
    have hl : 1 ≤ s.length := by cases s with
      | nil => exact absurd rfl h0
      | cons _ _ => simp
    have big := bLc q hql
    have r1 : (aAf [K.str, K.int .i64] (q.map eEn) && decide ((q.map eEn).length ≤ 1099511627776)) = true := by rw [List.length_map, decide_eq_true (by omega)]; rw [Bool.and_true]; exact aM0 q
    have r2 := en2 q
    have m1 : (decide ((0 : Int) ≤ 1) && decide ((1 : Int) ≤ (s.length : Int))) = true := by rw [decide_eq_true (by omega), decide_eq_true (by omega)]; rfl
    have m0 : (decide ((0 : Int) ≤ 0) && decide ((0 : Int) < (s.length : Int))) = true := by rw [decide_eq_true (by omega), decide_eq_true (by omega)]; rfl
    have d1 : (s.drop 1).length ≤ 281474976710656 := by rw [List.length_drop]; omega
    have dN : (aAd (s.drop 1)).length ≤ 281474976710656 := by unfold aAd; split <;> simp only [List.length_take, List.length_drop] <;> omega
    have dR : (aBg (s.drop 1)).length ≤ 281474976710656 := by unfold aBg; split <;> simp only [List.length_nil, List.length_drop] <;> omega
    have fin : ∀ o : Option (List En), aEz q s = o → (some [C.sl ((o.getD []).map eEn), C.bool o.isSome] : Option (List C)) = some [C.sl (((aEz q s).getD []).map eEn), C.bool (aEz q s).isSome] := fun o h => by rw [h]
    have bad : aEz q s = none → (some [C.sl [], C.bool false] : Option (List C)) = some [C.sl (((aEz q s).getD []).map eEn), C.bool (aEz q s).isSome] := fun h => fin none h
    refine aAj (by simpa using h0) (aA7 m1 ?_)
    rw [List.take_length, List.take_length, t1, t0, e]
    refine aA7 (by rw [decide_eq_true d1]; rfl) ?_
    have sm : (((s.getD 0 0).toNat : Nat) : Int) = aB3 s := rfl
    rw [sm]
    have p0 : aEz q s = (if aB3 s = 43 then (if bNt s && aM3 (aNh s) && aBf (pNm s) then some (aT1 q ⟨pNm s, aD8 (aNh s)⟩) else none)
      else if aB3 s = 45 then (if decide (0 ≤ aA4 q (s.drop 1)) && aBf (s.drop 1) then some (aHa q (s.drop 1)) else none)
      else if aB3 s = 62 then (if decide (0 ≤ aA4 q (pNm s)) && aBf (pNm s) && bNt s && aBf (aNh s) && !decide (pNm s = aNh s) then some (aT1 (aHa q (pNm s)) ⟨aNh s, aB4 q (pNm s)⟩) else none)
      else none) := by unfold aEz; rw [if_neg h0]
    have pN : pNm s = aAd (s.drop 1) := rfl
    have pR : aNh s = aBg (s.drop 1) := rfl
    have pH : bNt s = aLi (s.drop 1) := rfl
    rw [pN, pR, pH] at p0
    generalize aAd (s.drop 1) = NM at p0 dN ⊢
    generalize aBg (s.drop 1) = RS at p0 dR ⊢
    have delOk : ∀ nm, 0 ≤ aA4 q nm → (decide ((q.map eEn).length = (q.map eEn).length) && (decide (0 ≤ aA4 q nm) && decide (aA4 q nm < ((q.map eEn).length : Int)) && decide (IntKind.i64.wrap (aA4 q nm + 1) = aA4 q nm + 1)) && aBc (q.map eEn).length 24) = true := fun nm hp => by
      have rg := aEo q nm
      have w : IntKind.i64.wrap (aA4 q nm + 1) = aA4 q nm + 1 := by rw [aAg] <;> omega
      rw [List.length_map, w, decide_eq_true rfl, decide_eq_true hp, decide_eq_true (by omega), decide_eq_true rfl, bIk q.length (by omega)]; rfl
    have delLen : ∀ nm, 0 ≤ aA4 q nm → (aHa q nm).length = q.length - 1 := fun nm hp => by
      have rg := aEo q nm
      unfold aHa
      simp only [List.length_append, List.length_take, List.length_drop]
      omega
    have delT : ∀ nm, 0 ≤ aA4 q nm → (List.take (aA4 q nm).toNat (q.map eEn)).append (List.drop ((aA4 q nm).toNat + 1) (q.map eEn)) = (aHa q nm).map eEn := fun nm _ => bZ4 q _
    have putL : ∀ (u : List En) (nm : List UInt8) (id : Int), (0 ≤ aA4 u nm → (aT1 u ⟨nm, id⟩).length = u.length) ∧ (¬ 0 ≤ aA4 u nm → (aT1 u ⟨nm, id⟩).length = u.length + 1) := fun u nm id => by
      have rg := aT5 u nm
      unfold aT1
      refine ⟨fun h => by rw [if_pos h]; simp, fun h => ?_⟩
      rw [if_neg h]
      split
      · simp
      · simp; omega
    have put : ∀ (u : List En) (nm : List UInt8) (id : Int), u.length < 16777216 → ∀ o : Option (List En), o = some (aT1 u ⟨nm, id⟩) → aEz q s = o →
        ((T.must (decide ((u.map eEn).length ≤ aHh) && aAf [K.str, K.int .i64] (u.map eEn))
          (T.ask (decide ((0 : Int) ≤ aA4 u nm))
            (T.must (decide ((0 : Int) ≤ aA4 u nm) && decide (aA4 u nm < ((u.map eEn).length : Int)))
              (T.must (decide ((aA4 u nm).toNat < (u.map eEn).length))
                (T.must (decide ((u.map eEn).length = ((u.map eEn).set (aA4 u nm).toNat (((List.take 1 ((u.map eEn).getD (aA4 u nm).toNat [])).append [C.int .i64 id]).append (List.drop (1 + 1) ((u.map eEn).getD (aA4 u nm).toNat [])))).length) && (false || ((u.map eEn).set (aA4 u nm).toNat (((List.take 1 ((u.map eEn).getD (aA4 u nm).toNat [])).append [C.int .i64 id]).append (List.drop (1 + 1) ((u.map eEn).getD (aA4 u nm).toNat [])))).all fun r => r.all C.flat) && true && (true && (false || true) && true && true) && true)
                  (T.ret [C.sl ((u.map eEn).set (aA4 u nm).toNat (((List.take 1 ((u.map eEn).getD (aA4 u nm).toNat [])).append [C.int .i64 id]).append (List.drop (1 + 1) ((u.map eEn).getD (aA4 u nm).toNat [])))), C.bool true]))))
            (T.must (decide ((140 : Nat) = (140 : FuncId)) && (decide ((u.map eEn).length ≤ aHh) && aAf [K.str, K.int .i64] (u.map eEn)))
              (T.ask (decide (aHm u nm < (0 : Int)))
                (T.must (decide ((u.map eEn).length = (u.map eEn).length) && (decide ((0 : Int) ≤ ((u.map eEn).length : Int)) && decide (((u.map eEn).length : Int) ≤ ((u.map eEn).length : Int))) && aBc ((u.map eEn).length + 1) 24)
                  (T.must (decide ((u.map eEn).length + 1 = (((List.take ((u.map eEn).length : Int).toNat (u.map eEn)).append [[C.str nm, C.int .i64 id]]).append (List.drop ((u.map eEn).length : Int).toNat (u.map eEn))).length) && (false || (((List.take ((u.map eEn).length : Int).toNat (u.map eEn)).append [[C.str nm, C.int .i64 id]]).append (List.drop ((u.map eEn).length : Int).toNat (u.map eEn))).all fun r => r.all C.flat) && true && (true && (false || true) && true && true) && true)
                    (T.ret [C.sl (((List.take ((u.map eEn).length : Int).toNat (u.map eEn)).append [[C.str nm, C.int .i64 id]]).append (List.drop ((u.map eEn).length : Int).toNat (u.map eEn))), C.bool true])))
                (T.must (decide ((u.map eEn).length = (u.map eEn).length) && (decide ((0 : Int) ≤ aHm u nm) && decide (aHm u nm ≤ ((u.map eEn).length : Int))) && aBc ((u.map eEn).length + 1) 24)
                  (T.must (decide ((u.map eEn).length + 1 = (((List.take (aHm u nm).toNat (u.map eEn)).append [[C.str nm, C.int .i64 id]]).append (List.drop (aHm u nm).toNat (u.map eEn))).length) && (false || (((List.take (aHm u nm).toNat (u.map eEn)).append [[C.str nm, C.int .i64 id]]).append (List.drop (aHm u nm).toNat (u.map eEn))).all fun r => r.all C.flat) && true && (true && (false || true) && true && true) && true)
                    (T.ret [C.sl (((List.take (aHm u nm).toNat (u.map eEn)).append [[C.str nm, C.int .i64 id]]).append (List.drop (aHm u nm).toNat (u.map eEn))), C.bool true]))))))) : T (List C)).eval =
          some [C.sl (((aEz q s).getD []).map eEn), C.bool (aEz q s).isSome] := fun u nm id hu o ho hp => by
      subst ho
      have bu := bLc u (by omega)
      have rg := aEo u nm
      have rg2 := aT5 u nm
      have f := fin _ hp
      refine aA7 bu ?_
      by_cases a : 0 ≤ aA4 u nm
      · obtain ⟨y1, y2⟩ := bY4 (id := id) a
        have x1 := bXo u _ y2 id
        rw [y1] at x1
        refine aAc (decide_eq_true a) (aA7 (by rw [List.length_map, decide_eq_true a, decide_eq_true (by omega)]; rfl) (aA7 (by rw [List.length_map]; exact decide_eq_true y2) ?_))
        show (T.must (decide ((u.map eEn).length = ((u.map eEn).set (aA4 u nm).toNat (((List.take 1 ((u.map eEn).getD (aA4 u nm).toNat [])).append [C.int .i64 id]).append (List.drop 2 ((u.map eEn).getD (aA4 u nm).toNat [])))).length) && (false || ((u.map eEn).set (aA4 u nm).toNat (((List.take 1 ((u.map eEn).getD (aA4 u nm).toNat [])).append [C.int .i64 id]).append (List.drop 2 ((u.map eEn).getD (aA4 u nm).toNat [])))).all fun r => r.all C.flat) && true && (true && (false || true) && true && true) && true)
                  (T.ret [C.sl ((u.map eEn).set (aA4 u nm).toNat (((List.take 1 ((u.map eEn).getD (aA4 u nm).toNat [])).append [C.int .i64 id]).append (List.drop 2 ((u.map eEn).getD (aA4 u nm).toNat [])))), C.bool true])).eval = _
        rw [x1]
        refine aA7 ?_ f
        rw [List.length_map, List.length_map, (putL u nm id).1 a, aF7, decide_eq_true rfl]; rfl
      · refine aAj (decide_eq_false a) (aA7 (by rw [bu, decide_eq_true rfl]; rfl) ?_)
        by_cases b : aHm u nm < 0
        · have x2 := bRr u u.length nm id
          rw [bY6 a b] at x2
          have tn : ((u.length : Nat) : Int).toNat = u.length := Int.toNat_natCast _
          rw [List.length_map, tn, x2]
          refine aAc (decide_eq_true b) (aA7 ?_ (aA7 ?_ f))
          · rw [decide_eq_true rfl, decide_eq_true (by omega), decide_eq_true (by omega), bIk _ (by omega)]; rfl
          · rw [List.length_map, (putL u nm id).2 a, aF7, decide_eq_true rfl]; rfl
        · obtain ⟨y1, y2⟩ := bY5 (id := id) a b
          have x3 := bRr u (aHm u nm).toNat nm id
          rw [y1] at x3
          rw [x3]
          refine aAj (decide_eq_false b) (aA7 ?_ (aA7 ?_ f))
          · rw [List.length_map, decide_eq_true rfl, decide_eq_true (by omega), decide_eq_true (by omega), bIk _ (by omega)]; rfl
          · rw [List.length_map, List.length_map, (putL u nm id).2 a, aF7, decide_eq_true rfl]; rfl
    cases hc : aLi (s.drop 1)
    · rw [hc] at p0
      refine aAj rfl (aA7 r1 (aA7 (by rw [r2]; rfl) (aA7 m0 ?_)))
      by_cases c43 : aB3 s = 43
      · refine aAc (decide_eq_true c43) (aA7 (decide_eq_true dR) ?_)
        have hb : aEz q s = none := by rw [p0, if_pos c43]; rfl
        cases aM3 RS
        · exact aAj rfl (bad hb)
        · exact aAc rfl (bad hb)
      · rw [if_neg c43] at p0
        refine aAj (decide_eq_false c43) ?_
        by_cases c45 : aB3 s = 45
        · rw [if_pos c45] at p0
          refine aAc (decide_eq_true c45) (aA7 m1 (aA7 big ?_))
          by_cases cp : aA4 q (s.drop 1) < 0
          · exact aAc (decide_eq_true cp) (bad (by rw [p0, decide_eq_false (show ¬ 0 ≤ aA4 q (s.drop 1) by omega)]; rfl))
          · refine aAj (decide_eq_false cp) (aA7 (decide_eq_true d1) ?_)
            have cp' : 0 ≤ aA4 q (s.drop 1) := by omega
            cases cn : aBf (s.drop 1)
            · exact aAj rfl (bad (by rw [p0, cn, Bool.and_false]; rfl))
            · refine aAc rfl (aA7 (delOk _ cp') ?_)
              rw [delT _ cp']
              have hp : aEz q s = some (aHa q (s.drop 1)) := by rw [p0, decide_eq_true cp', cn]; rfl
              refine aA7 ?_ (fin _ hp)
              rw [List.length_map, List.length_map, delLen _ cp', aF7, decide_eq_true rfl]; rfl
        · rw [if_neg c45] at p0
          refine aAj (decide_eq_false c45) ?_
          by_cases c62 : aB3 s = 62
          · rw [if_pos c62] at p0
            have hb : aEz q s = none := by rw [p0]; simp
            refine aAc (decide_eq_true c62) (aA7 big (aA7 big ?_))
            by_cases cp : aA4 q NM < 0
            · exact aAc (decide_eq_true cp) (bad hb)
            · refine aAj (decide_eq_false cp) (aA7 (decide_eq_true dN) ?_)
              cases aBf NM
              · exact aAj rfl (bad hb)
              · exact aAc rfl (aA7 (delOk _ (by omega)) (bad hb))
          · exact aAj (decide_eq_false c62) (bad (by rw [p0, if_neg c62]))
    · rw [hc] at p0
      refine aAc rfl (aA7 r1 (aA7 (by rw [r2]; rfl) (aA7 m0 ?_)))
      by_cases c43 : aB3 s = 43
      · rw [if_pos c43] at p0
        refine aAc (decide_eq_true c43) (aA7 (decide_eq_true dR) ?_)
        cases c1 : aM3 RS
        · exact aAj rfl (bad (by rw [p0, c1]; rfl))
        · refine aAc rfl (aA7 (decide_eq_true dN) ?_)
          cases c2 : aBf NM
          · exact aAj rfl (bad (by rw [p0, c1, c2]; rfl))
          · refine aAc rfl ?_
            have hp : aEz q s = some (aT1 q ⟨NM, aD8 RS⟩) := by rw [p0, c1, c2]; rfl
            have pt := put q NM (aD8 RS) hlt _ rfl hp
            simp only [Nat.zero_add] at pt ⊢
            exact pt
      · rw [if_neg c43] at p0
        refine aAj (decide_eq_false c43) ?_
        by_cases c45 : aB3 s = 45
        · rw [if_pos c45] at p0
          refine aAc (decide_eq_true c45) (aA7 m1 (aA7 big ?_))
          by_cases cp : aA4 q (s.drop 1) < 0
          · exact aAc (decide_eq_true cp) (bad (by rw [p0, decide_eq_false (show ¬ 0 ≤ aA4 q (s.drop 1) by omega)]; rfl))
          · refine aAj (decide_eq_false cp) (aA7 (decide_eq_true d1) ?_)
            have cp' : 0 ≤ aA4 q (s.drop 1) := by omega
            cases cn : aBf (s.drop 1)
            · exact aAj rfl (bad (by rw [p0, cn, Bool.and_false]; rfl))
            · refine aAc rfl (aA7 (delOk _ cp') ?_)
              rw [delT _ cp']
              have hp : aEz q s = some (aHa q (s.drop 1)) := by rw [p0, decide_eq_true cp', cn]; rfl
              refine aA7 ?_ (fin _ hp)
              rw [List.length_map, List.length_map, delLen _ cp', aF7, decide_eq_true rfl]; rfl
        · rw [if_neg c45] at p0
          refine aAj (decide_eq_false c45) ?_
          by_cases c62 : aB3 s = 62
          · rw [if_pos c62] at p0
            refine aAc (decide_eq_true c62) (aA7 big (aA7 big ?_))
            by_cases cp : aA4 q NM < 0
            · exact aAc (decide_eq_true cp) (bad (by rw [p0, decide_eq_false (show ¬ 0 ≤ aA4 q NM by omega)]; rfl))
            · have cp' : 0 ≤ aA4 q NM := by omega
              refine aAj (decide_eq_false cp) (aA7 (decide_eq_true dN) ?_)
              cases c2 : aBf NM
              · exact aAj rfl (bad (by rw [p0, c2]; simp))
              · refine aAc rfl (aA7 (delOk _ cp') (aA7 (decide_eq_true dR) ?_))
                cases c3 : aBf RS
                · exact aAj rfl (bad (by rw [p0, c3]; simp))
                · refine aAc rfl ?_
                  by_cases c4 : NM = RS
                  · exact aAc (by simpa using c4) (bad (by rw [p0, decide_eq_true c4]; simp))
                  · refine aAj (by simpa using c4) ?_
                    have hp : aEz q s = some (aT1 (aHa q NM) ⟨RS, aB4 q NM⟩) := by rw [p0, decide_eq_true cp', c2, c3, decide_eq_false c4]; rfl
                    have hN := delLen NM cp'
                    have hT : List.take ((aHa q NM).map eEn).length ((aHa q NM).map eEn) = (aHa q NM).map eEn := List.take_length
                    have hN2 : (q.map eEn).length - 1 = ((aHa q NM).map eEn).length := by rw [List.length_map, List.length_map]; omega
                    have pt := put (aHa q NM) RS (aB4 q NM) (by omega) _ rfl hp
                    simp only [Nat.zero_add, delT _ cp', hN2, hT, aJn] at pt ⊢
                    exact pt
          · exact aAj (decide_eq_false c62) (bad (by rw [p0, if_neg c62]))
  · cases h
noncomputable section
def aV7 (ns:List Nd) (es:List En):List (List UInt8)→List En→Bool
 |[],now=>aC3 ns now&&decide (now=es)
 |s::r,now=>aC3 ns now&&match aEz now s with | some l=>aV7 ns es r l | none=>false
end
theorem bLv (ns:List Nd):∀ (l:List En) (p:Option (List UInt8)),aIo ns l p=true→Srt l∧∀ q,p=some q→∀ e∈l,Op.bytesLess q e.name=true
 |[],p,_=>⟨List.Pairwise.nil,fun q _ e he=>by cases he⟩
 |e::r,p,h=>by
  unfold aIo at h
  simp only[Bool.and_eq_true]at h
  obtain⟨⟨⟨_,_⟩,h3⟩,h4⟩:=h
  obtain⟨i1,i2⟩:=bLv ns r (some e.name) h4
  have i3:=i2 e.name rfl
  refine⟨List.pairwise_cons.2 ⟨i3,i1⟩,fun q hq y hy=>?_⟩
  subst hq
  rcases List.mem_cons.1 hy with rfl | hy
  ·exact h3
  ·exact bM0 h3 (i3 y hy)
theorem bCt {ns:List Nd} {l:List En} (h:aC3 ns l=true):Srt l:=by
 unfold aC3 at h
 simp only[Bool.and_eq_true]at h
 exact (bLv ns l none h.1).1
theorem bLy (s:List UInt8):aIq s=if aC9 (s.drop 1)= -1 then -1 else aC9 (s.drop 1)+1:=bWt (s.drop 1) 1
theorem bBb (s:List UInt8):bNt s=decide (0≤aIq s):=by
 have rg:=bLo (s.drop 1)
 unfold bNt aLi
 rw[bLy]
 by_cases c:aC9 (s.drop 1)= -1
 ·rw[if_pos c,c]
 ·rw[if_neg c]
  have:0≤aC9 (s.drop 1):=by omega
  rw[decide_eq_true this,decide_eq_true (by omega)]
theorem bWl {s:List UInt8} (h:bNt s=true):pNm s=aDz s∧aNh s=aDy s:=by
 have rg:=bLo (s.drop 1)
 unfold bNt aLi at h
 have h:=of_decide_eq_true h
 have c:aIq s=aC9 (s.drop 1)+1:=by rw[bLy,if_neg (by omega)]
 unfold pNm aAd aNh aBg aDz aDy
 rw[c,if_neg (by omega),if_neg (by omega)]
 obtain⟨k,hk⟩:=Int.eq_ofNat_of_zero_le h
 rw[hk]
 have e:((k:Int)+1).toNat=k+1:=by omega
 rw[e,Int.toNat_natCast]
 constructor
 ·rw[List.drop_take];rfl
 ·rw[List.drop_drop];congr 1;omega
theorem bUe (l:List En) (s:List UInt8) (h:Srt l):aEz l s=if aBe l s then some (aEg l s)else none:=by
 unfold aEz
 by_cases h0:s=[]
 ·subst h0
  rfl
 rw[if_neg h0]
 have hne:aBf []=false:=by decide
 by_cases hl:2≤s.length
 ·by_cases c43:aB3 s=43
  ·have is:aDb s=true:=by unfold aDb;rw[decide_eq_true hl,decide_eq_true c43];rfl
   have n45:¬aB3 s=45:=by omega
   have n62:¬aB3 s=62:=by omega
   rw[if_pos c43]
   have gd:aDc s=(decide (0≤aIq s)&&(aM3 (aDy s)&&aBf (aDz s))):=by unfold aDc;rw[is,decide_eq_false n45,if_neg n62];simp
   cases hh:bNt s
   ·rw[bBb]at hh
    have:aBe l s=false:=by unfold aBe;rw[gd,hh];rfl
    rw[this];simp
   ·obtain⟨e1,e2⟩:=bWl hh
    rw[bBb]at hh
    have cn:¬aIq s<0:=by have:=of_decide_eq_true hh;omega
    have nm:aAq s=aDz s:=by unfold aAq;rw[if_pos is,if_neg n45,if_neg cn]
    have id:aOt s=aD8 (aDy s):=by unfold aOt;rw[is,decide_eq_true c43,hh];rfl
    have ft:aBe l s=(aM3 (aDy s)&&aBf (aDz s)):=by unfold aBe;rw[gd,hh,nm,decide_eq_true c43];cases aM3 (aDy s)<;>cases aBf (aDz s)<;>rfl
    have ds:aEg l s=aSp l ⟨aDz s,aD8 (aDy s)⟩:=by unfold aEg;simp only[if_pos c43,if_neg n45,if_neg n62,nm,id]
    rw[ft,ds,e1,e2,bQv l _ h,Bool.true_and]
  ·rw[if_neg c43]
   by_cases c45:aB3 s=45
   ·have is:aDb s=true:=by unfold aDb;rw[decide_eq_true hl,decide_eq_true c45];simp
    rw[if_pos c45]
    have nm:aAq s=s.drop 1:=by unfold aAq;rw[if_pos is,if_pos c45]
    have gd:aDc s=true:=by unfold aDc;rw[is,decide_eq_true c45];rfl
    have ft:aBe l s=(aBf (s.drop 1)&&decide (0≤aA4 l (s.drop 1))):=by unfold aBe aGn;rw[gd,nm,decide_eq_false c43];simp
    have ds:aEg l s=aDg l (s.drop 1):=by unfold aEg;simp only[if_pos c45,if_neg c43,nm]
    rw[ft,ds,Bool.and_comm]
    by_cases c:(aBf (s.drop 1)&&decide (0≤aA4 l (s.drop 1)))=true
    ·rw[if_pos c,if_pos c]
     simp only[Bool.and_eq_true,decide_eq_true_eq]at c
     rw[bLk l _ h c.2]
    ·rw[if_neg c,if_neg c]
   ·rw[if_neg c45]
    by_cases c62:aB3 s=62
    ·have is:aDb s=true:=by unfold aDb;rw[decide_eq_true hl,decide_eq_true c62];simp
     rw[if_pos c62]
     have gd:aDc s=(decide (0≤aIq s)&&(aBf (aDy s)&& !decide (aDz s=aDy s))):=by unfold aDc;rw[is,decide_eq_false c45,if_pos c62];simp
     cases hh:bNt s
     ·rw[bBb]at hh
      have:aBe l s=false:=by unfold aBe;rw[gd,hh];rfl
      rw[this];simp
     ·obtain⟨e1,e2⟩:=bWl hh
      rw[bBb]at hh
      have cn:¬aIq s<0:=by have:=of_decide_eq_true hh;omega
      have nm:aAq s=aDz s:=by unfold aAq;rw[if_pos is,if_neg c45,if_neg cn]
      have to:aNg s=aDy s:=by unfold aNg;rw[is,decide_eq_true c62,hh];rfl
      have ft:aBe l s=(aBf (aDy s)&& !decide (aDz s=aDy s)&&aBf (aDz s)&&decide (0≤aA4 l (aDz s))):=by unfold aBe aGn;rw[gd,hh,nm,decide_eq_false c43];simp
      have ds:aEg l s=aSp (aDg l (aDz s)) ⟨aDy s,aB4 l (aDz s)⟩:=by unfold aEg;simp only[if_pos c62,if_neg c43,if_neg c45,nm,to]
      rw[ft,ds,e1,e2]
      by_cases c:(aBf (aDy s)&& !decide (aDz s=aDy s)&&aBf (aDz s)&&decide (0≤aA4 l (aDz s)))=true
      ·rw[if_pos c]
       have c':=c
       simp only[Bool.and_eq_true,Bool.not_eq_true',decide_eq_true_eq,decide_eq_false_iff_not]at c'
       obtain⟨⟨⟨q1,q2⟩,q3⟩,q4⟩:=c'
       rw[if_pos (by simp[q1,q2,q3,q4]),bLk l _ h q4,bQv _ _ (bTz h)]
      ·rw[if_neg c,if_neg]
       intro hc
       apply c
       simp only[Bool.and_eq_true,Bool.not_eq_true',decide_eq_true_eq,decide_eq_false_iff_not]at hc ⊢
       exact⟨⟨⟨hc.1.2,hc.2⟩,hc.1.1.1.2⟩,hc.1.1.1.1⟩
    ·rw[if_neg c62]
     have is:aDb s=false:=by unfold aDb;rw[decide_eq_false c43,decide_eq_false c45,decide_eq_false c62];simp
     have:aBe l s=false:=by unfold aBe aDc;rw[is];rfl
     rw[this];rfl
 ·have is:aDb s=false:=by unfold aDb;rw[decide_eq_false hl];rfl
  have ft:aBe l s=false:=by unfold aBe aDc;rw[is];rfl
  have d1:s.drop 1=[]:=by rw[List.drop_eq_nil_iff];omega
  have p1:bNt s=false:=by unfold bNt;rw[d1];rfl
  rw[ft,d1,p1,hne]
  simp
theorem aUb (ss:List (List UInt8)) (k:Nat) (h:k≤ss.length):aP4 ss (k:Int)=k:=by
 unfold aP4 aHg
 split
 ·omega
 ·split<;>omega
theorem aRw (ns:List Nd) (es os:List En) (s:List UInt8) (r:List (List UInt8)) (k:Nat) (hk:k≤r.length):aFj ns es os (s::r) (k+1)=(aBe os s&&aFj ns es (aEg os s) r k):=by
 unfold aFj bWd sdL
 have e1:=aUb (s::r) (k+1) (by simp;omega)
 have e2:=aUb r k hk
 rw[e1,e2,List.take_succ_cons]
 have e3:aDs (s::r.take k) os=if aBe os s then aDs (r.take k) (aEg os s)else none:=rfl
 have e4:decide (k+1=(s::r).length)=decide (k=r.length):=by simp
 rw[e3,e4]
 cases aBe os s
 ·rfl
 ·simp
theorem aRv (ns:List Nd) (es os:List En) (ss:List (List UInt8)):aFj ns es os ss 0=(aC3 ns os&&(!decide (0=ss.length)||decide (os=es))):=by
 unfold aFj bWd sdL
 have e1:=aUb ss 0 (by omega)
 rw[e1]
 simp[aDs]
theorem bT2 {A:Type} {p q:A→Bool}:∀ (l:List A),(∀ x∈l,p x=q x)→l.all p=l.all q
 |[],_=>rfl
 |x::l,h=>by rw[List.all_cons,List.all_cons,h x List.mem_cons_self,bT2 l fun y hy=>h y (List.mem_cons_of_mem _ hy)]
theorem bLg (ns:List Nd) (es:List En):∀ (ss:List (List UInt8)) (os:List En),aV7 ns es ss os=(List.range (ss.length+1)).all (aFj ns es os ss)
 |[],os=>by
  show _=([0]:List Nat).all _
  simp only[List.all_cons,List.all_nil,Bool.and_true]
  rw[aRv]
  simp[aV7]
 |s::r,os=>by
  rw[List.range_succ_eq_map,List.all_cons,List.all_map,aRv]
  have e0:decide (0=(s::r).length)=false:=by simp
  rw[e0]
  simp only[Bool.not_false,Bool.true_or,Bool.and_true]
  show (aC3 ns os&&match aEz os s with | some l=>aV7 ns es r l | none=>false)=_
  cases c:aC3 ns os
  ·rfl
  ·rw[Bool.true_and,Bool.true_and,bUe os s (bCt c)]
   have ih:=bLg ns es r
   cases f:aBe os s
   ·simp only[Bool.false_eq_true,if_false]
    symm
    rw[List.length_cons,List.range_succ_eq_map,List.all_cons]
    have:=aRw ns es os s r 0 (by omega)
    rw[f,Bool.false_and]at this
    show (aFj ns es os (s::r) (0+1)&&_)=false
    rw[this];rfl
   ·simp only[if_true]
    rw[ih (aEg os s),List.length_cons]
    refine bT2 _ fun k hk=>?_
    have hk2:k≤r.length:=by have:=List.mem_range.1 hk;omega
    show _=aFj ns es os (s::r) (k+1)
    rw[aRw ns es os s r k hk2,f,Bool.true_and]
noncomputable section
def bYh (rows:List (List C)) (k:Int):Bool:=aAf kNd rows&&decide (nds rows=nds (mk mkN 3 k rows.length))
def bUr (rows:List (List C)) (k:Int):Bool:=aAf kEn rows&&decide (ens rows=ens (mk aFa 2 k rows.length))
def cA9 (rows:List (List C)) (k:Int):Bool:=aAf [.str] rows&&decide (aDa rows=aDa (mk mkS 1 k rows.length))
def aW4:Spec:=fun cs=>match cs with
 |[.sl rows,.int .i64 k]=>some (bYh rows k&&(decide (rows.length≤1048576)&&(decide (0≤k)&&decide (k≤1099511627776))),[.int .i64 (k+3*rows.length)])
 |_=>none
def aW5:Spec:=fun cs=>match cs with
 |[.sl rows,.int .i64 k]=>some (bUr rows k&&(decide (rows.length≤1048576)&&(decide (0≤k)&&decide (k≤1099511627776))),[.int .i64 (k+2*rows.length)])
 |_=>none
def bOu (ns es os ss:List (List C)) (k:Int):Bool:=bYh ns k&&bUr es (k+3*ns.length)&&bUr os (k+3*ns.length+2*es.length)&&cA9 ss (k+3*ns.length+2*es.length+2*os.length)
def aW6:Spec:=fun cs=>match cs with
 |[.sl ns,.sl es,.sl os,.sl ss,.int .i64 _,.int .i64 _,.int .i64 k]=>some (bOu ns es os ss k&&(aBd 1048576 ns es os ss&&(decide (0≤k)&&decide (k≤1073741824))),[.int .i64 (bGp k ns.length es.length os.length ss.length)])
 |_=>none
def aTf (r:List (List C)) (k i:Int):St:=st0 [(0,.l (.sl r)),(1,aB5 k),(5,aB5 i)]
def aTg (r:List (List C)) (k i:Int):St:=st0 [(0,.l (.sl r)),(1,aB5 k),(5,aB5 i)]
def aTr:Env:=mkE [(2,[0,1,5])] [(66,(sg [pI] [rS]),aDf)]
def aTs:Env:=mkE [(2,[0,1,5])] [(66,(sg [pI] [rS]),aDf)]
def bMd:Env:=mkE [] [(28,(sg [pSl 9,pI] [rI]),aPr),(49,(sg [pSl 66,pI] [rI]),aW4),(50,(sg [pSl 92,pI] [rI]),aW5)]
end
theorem bJb (H:List Pt→Nat→St→T (List C)) (r:List (List C)) (k:Int):(aAi aTr aAa (sg [pSl 66,pI] [rI]) Tryz.f49 H [C.sl r,C.int .i64 k]).eval=((H [Pt.r,Pt.l,Pt.r,Pt.b] 9223372036854775808 (aTf (r) (k) ((0:Int)))):T (List C)).eval:=aAh (by kernel_rfl)
theorem bBo (H:List Pt→Nat→St→T (List C)) (r:List (List C)) (k0:Int) (i:Int) (k:Nat):(aB7 aTr aAa (sg [pSl 66,pI] [rI]) Tryz.f49 H [Pt.r,Pt.l,Pt.r,Pt.b] k (aTf r k0 i)).eval=((.ask (decide (i<(↑r.length:Int))) (.must (decide ((0:Int)≤i)&&decide (i<(↑r.length:Int))&&decide ((r.getD i.toNat []).length=3)) (.must (decide (0+0<(r.getD i.toNat []).length)&&C.is (K.int .i64) ((r.getD i.toNat []).getD (0+0) (C.fn 0 []))&&true) (.ask (((r.getD i.toNat []).getD (0+0) (C.fn 0 [])).toInt != k0) (.ret [C.int .i64 (-1)]) (.must (decide ((0:Int)≤i)&&decide (i<(↑r.length:Int))&&decide ((r.getD i.toNat []).length=3)) (.must (decide (0+1<(r.getD i.toNat []).length)&&C.is K.str ((r.getD i.toNat []).getD (0+1) (C.fn 0 []))&&true) (.must (decide (IntKind.i64.wrap (k0+(1:Int))≤(4611686018427387904:Int))) (.ask (!((r.getD i.toNat []).getD (0+1) (C.fn 0 [])).toStr==aGk (IntKind.i64.wrap (k0+(1:Int)))) (.ret [C.int .i64 (-1)]) (.must (decide ((0:Int)≤i)&&decide (i<(↑r.length:Int))&&decide ((r.getD i.toNat []).length=3)) (.must (decide (0+2<(r.getD i.toNat []).length)&&C.is (K.int .i64) ((r.getD i.toNat []).getD (0+2) (C.fn 0 []))&&true) (.ask (((r.getD i.toNat []).getD (0+2) (C.fn 0 [])).toInt != IntKind.i64.wrap (IntKind.i64.wrap (k0+(1:Int))+(1:Int))) (.ret [C.int .i64 (-1)]) (H [Pt.r,Pt.l,Pt.r,Pt.b] k (aTf (r) (IntKind.i64.wrap (IntKind.i64.wrap (IntKind.i64.wrap (k0+(1:Int))+(1:Int))+(1:Int))) (IntKind.i64.wrap (i+(1:Int))))))))))))))) (.ret [C.int .i64 k0])):T (List C)).eval:=aAh (by kernel_rfl)
theorem bJd (H:List Pt→Nat→St→T (List C)) (r:List (List C)) (k:Int):(aAi aTs aAa (sg [pSl 92,pI] [rI]) Tryz.f50 H [C.sl r,C.int .i64 k]).eval=((H [Pt.r,Pt.l,Pt.r,Pt.b] 9223372036854775808 (aTg (r) (k) ((0:Int)))):T (List C)).eval:=aAh (by kernel_rfl)
theorem bBp (H:List Pt→Nat→St→T (List C)) (r:List (List C)) (k0:Int) (i:Int) (k:Nat):(aB7 aTs aAa (sg [pSl 92,pI] [rI]) Tryz.f50 H [Pt.r,Pt.l,Pt.r,Pt.b] k (aTg r k0 i)).eval=((.ask (decide (i<(↑r.length:Int))) (.must (decide ((0:Int)≤i)&&decide (i<(↑r.length:Int))&&decide ((r.getD i.toNat []).length=2)) (.must (decide (0+0<(r.getD i.toNat []).length)&&C.is K.str ((r.getD i.toNat []).getD (0+0) (C.fn 0 []))&&true) (.must (decide (k0≤(4611686018427387904:Int))) (.ask (!((r.getD i.toNat []).getD (0+0) (C.fn 0 [])).toStr==aGk k0) (.ret [C.int .i64 (-1)]) (.must (decide ((0:Int)≤i)&&decide (i<(↑r.length:Int))&&decide ((r.getD i.toNat []).length=2)) (.must (decide (0+1<(r.getD i.toNat []).length)&&C.is (K.int .i64) ((r.getD i.toNat []).getD (0+1) (C.fn 0 []))&&true) (.ask (((r.getD i.toNat []).getD (0+1) (C.fn 0 [])).toInt != IntKind.i64.wrap (k0+(1:Int))) (.ret [C.int .i64 (-1)]) (H [Pt.r,Pt.l,Pt.r,Pt.b] k (aTg (r) (IntKind.i64.wrap (IntKind.i64.wrap (k0+(1:Int))+(1:Int))) (IntKind.i64.wrap (i+(1:Int)))))))))))) (.ret [C.int .i64 k0])):T (List C)).eval:=aAh (by kernel_rfl)
theorem bJf (H:List Pt→Nat→St→T (List C)) (ns:List (List C)) (es:List (List C)) (os:List (List C)) (ss:List (List C)) (r:Int) (x:Int) (k:Int):(aAi bMd aAa (sg [aAy,pI] [rI]) Tryz.f13 H [C.sl ns,C.sl es,C.sl os,C.sl ss,C.int .i64 r,C.int .i64 x,C.int .i64 k]).eval=((.must (bYh ns k&&(decide (ns.length≤1048576)&&(decide ((0:Int)≤k)&&decide (k≤(1099511627776:Int))))) (.ask (decide (k+(3:Int)*(↑ns.length:Int)<(0:Int))) (.ret [C.int .i64 (-1)]) (.must (bUr es (k+(3:Int)*(↑ns.length:Int))&&(decide (es.length≤1048576)&&(decide ((0:Int)≤k+(3:Int)*(↑ns.length:Int))&&decide (k+(3:Int)*(↑ns.length:Int)≤(1099511627776:Int))))) (.ask (decide (k+(3:Int)*(↑ns.length:Int)+(2:Int)*(↑es.length:Int)<(0:Int))) (.ret [C.int .i64 (-1)]) (.must (bUr os (k+(3:Int)*(↑ns.length:Int)+(2:Int)*(↑es.length:Int))&&(decide (os.length≤1048576)&&(decide ((0:Int)≤k+(3:Int)*(↑ns.length:Int)+(2:Int)*(↑es.length:Int))&&decide (k+(3:Int)*(↑ns.length:Int)+(2:Int)*(↑es.length:Int)≤(1099511627776:Int))))) (.ask (decide (k+(3:Int)*(↑ns.length:Int)+(2:Int)*(↑es.length:Int)+(2:Int)*(↑os.length:Int)<(0:Int))) (.ret [C.int .i64 (-1)]) (.must (aAf [K.str] ss&&(decide (ss.length≤1073741824)&&(decide ((0:Int)≤k+(3:Int)*(↑ns.length:Int)+(2:Int)*(↑es.length:Int)+(2:Int)*(↑os.length:Int))&&decide (k+(3:Int)*(↑ns.length:Int)+(2:Int)*(↑es.length:Int)+(2:Int)*(↑os.length:Int)≤(1099511627776:Int))))) (.ask (decide (aNj (aDa ss) (k+(3:Int)*(↑ns.length:Int)+(2:Int)*(↑es.length:Int)+(2:Int)*(↑os.length:Int))<(0:Int))) (.ret [C.int .i64 (-1)]) (.ret [C.int .i64 (aNj (aDa ss) (k+(3:Int)*(↑ns.length:Int)+(2:Int)*(↑es.length:Int)+(2:Int)*(↑os.length:Int)))]))))))))):T (List C)).eval:=aAh (by kernel_rfl)
theorem bWp (k:Int) (n:Nat):aAf kNd (mk mkN 3 k n)=true:=aHb _ _ _ _ _ fun k=>rfl
theorem bWq (k:Int) (n:Nat):aAf kEn (mk aFa 2 k n)=true:=aHb _ _ _ _ _ fun k=>rfl
theorem bLm (k:Int) (n:Nat):aAf [.str] (mk mkS 1 k n)=true:=aHb _ _ _ _ _ fun k=>rfl
theorem bYg {rows:List (List C)} {k:Int} (h:bYh rows k=true):rows=mk mkN 3 k rows.length:=by
 simp only[bYh,Bool.and_eq_true,decide_eq_true_eq]at h
 have a:=aE6 h.1
 rw[h.2]at a
 exact a.trans (aE6 (bWp _ _)).symm
theorem bYj {rows:List (List C)} {k:Int} (h:bUr rows k=true):rows=mk aFa 2 k rows.length:=by
 simp only[bUr,Bool.and_eq_true,decide_eq_true_eq]at h
 have a:=aDi h.1
 rw[h.2]at a
 exact a.trans (aDi (bWq _ _)).symm
theorem bRa {rows:List (List C)} {k:Int} (h:cA9 rows k=true):rows=mk mkS 1 k rows.length:=by
 simp only[cA9,Bool.and_eq_true,decide_eq_true_eq]at h
 have a:=aEe h.1
 rw[h.2]at a
 exact a.trans (aEe (bLm _ _)).symm
theorem bYf (k:Int) (n:Nat):bYh (mk mkN 3 k n) k=true:=by
 simp only[bYh,bWp,aDn,decide_true,Bool.and_self]
theorem bYi (k:Int) (n:Nat):bUr (mk aFa 2 k n) k=true:=by
 simp only[bUr,bWq,aDn,decide_true,Bool.and_self]
theorem bYe (k:Int) (n:Nat):cA9 (mk mkS 1 k n) k=true:=by
 simp only[cA9,bLm,aDn,decide_true,Bool.and_self]
theorem bVh (k:Int) (a b c d:Nat):bOu (mk mkN 3 k a) (mk aFa 2 (k+3*a) b) (mk aFa 2 (k+3*a+2*b) c) (mk mkS 1 (k+3*a+2*b+2*c) d) k=true:=by
 simp only[bOu,aDn,bYf,bYi,bYe,Bool.and_self]
theorem bR9 (f:Int→List C) (s k:Int) (n i:Nat) (hi:i<n):(mk f s k n).getD i []=f (k+s*(i:Int)):=by
 simp[mk,List.getD_eq_getElem?_getD,hi]
theorem bJc (k:Int) (m:Nat) (hm:m≤1048576) (h0:0≤k) (h1:k≤1099511627776):∀ (n i:Nat),i≤m→m<i+n →
  (aBh aTr aAa (sg [pSl 66,pI] [rI]) Tryz.f49 [.r,.l,.r,.b] n (aTf (mk mkN 3 k m) (k+3*(i:Int)) i)).eval=some [.int .i64 (k+3*m)]:=by
 intro n
 induction n with
 |zero=>intro i a b;omega
 |succ n ih =>
  intro i a b
  rw[aAv _ _ _ _ _ _ _ (by kernel_rfl),bBo]
  by_cases hi:i<m
  ·have w:IntKind.i64.wrap ((i:Int)+1)=((i+1:Nat):Int):=by rw[aAg]<;>omega
   have w1:IntKind.i64.wrap (k+3*(i:Int)+1)=k+3*(i:Int)+1:=by rw[aAg]<;>omega
   have w2:IntKind.i64.wrap (k+3*(i:Int)+1+1)=k+3*(i:Int)+2:=by rw[aAg]<;>omega
   have w3:IntKind.i64.wrap (k+3*(i:Int)+2+1)=k+3*((i+1:Nat):Int):=by rw[aAg]<;>omega
   have e:=ih (i+1) (by omega) (by omega)
   have g:=bR9 mkN 3 k m i hi
   have b0:(decide ((0:Int)≤i)&&decide ((i:Int)<m))=true:=by rw[decide_eq_true (by omega),decide_eq_true (by omega)];rfl
   rw[aDn,Int.toNat_natCast,g,w,w1,w2,w3]
   simp only[aA0,aA2,decide_eq_true_eq,mkN,List.getD_cons_zero,List.getD_cons_succ,List.length_cons,List.length_nil,C.toInt,C.toStr,C.is,Nat.zero_add,Nat.reduceAdd,Nat.reduceLT,decide_true,beq_self_eq_true,bne_self_eq_false,Bool.not_true,Bool.and_self,Bool.and_true,Bool.true_and,Bool.false_eq_true,if_true,if_false,b0,show (i:Int)<m by omega,show k+3*(i:Int)+1≤4611686018427387904 by omega]
   exact e
  ·have e:i=m:=by omega
   subst e
   rw[aDn]
   exact aAj (decide_eq_false (by omega)) rfl
theorem bUz:aA8 Tryz.prog aTr:=aA6 (by simp[aD6])
theorem bFi:aAs Tryz.prog 49 (sg [pSl 66,pI] [rI]) aW4:=aA5 bUz aA9 Tryz.func49 (by kernel_rfl) fun cs outs hk h=>by
 unfold aW4 at h
 split at h
 ·simp only[Option.some.injEq,Prod.mk.injEq,Bool.and_eq_true,decide_eq_true_eq]at h
  obtain⟨⟨h1,h2,h3,h4⟩,rfl⟩:=h
  rename_i rows k
  rw[aAb,bJb]
  have lp:=bJc k rows.length h2 h3 h4 9223372036854775808 0 (by omega) (by omega)
  rw[←bYg h1,show k+3*((0:Nat):Int)=k by omega]at lp
  exact lp
 ·cases h
theorem bJe (k:Int) (m:Nat) (hm:m≤1048576) (h0:0≤k) (h1:k≤1099511627776):∀ (n i:Nat),i≤m→m<i+n →
  (aBh aTs aAa (sg [pSl 92,pI] [rI]) Tryz.f50 [.r,.l,.r,.b] n (aTg (mk aFa 2 k m) (k+2*(i:Int)) i)).eval=some [.int .i64 (k+2*m)]:=by
 intro n
 induction n with
 |zero=>intro i a b;omega
 |succ n ih =>
  intro i a b
  rw[aAv _ _ _ _ _ _ _ (by kernel_rfl),bBp]
  by_cases hi:i<m
  ·have w:IntKind.i64.wrap ((i:Int)+1)=((i+1:Nat):Int):=by rw[aAg]<;>omega
   have w1:IntKind.i64.wrap (k+2*(i:Int)+1)=k+2*(i:Int)+1:=by rw[aAg]<;>omega
   have w2:IntKind.i64.wrap (k+2*(i:Int)+1+1)=k+2*((i+1:Nat):Int):=by rw[aAg]<;>omega
   have e:=ih (i+1) (by omega) (by omega)
   have g:=bR9 aFa 2 k m i hi
   have b0:(decide ((0:Int)≤i)&&decide ((i:Int)<m))=true:=by rw[decide_eq_true (by omega),decide_eq_true (by omega)];rfl
   rw[aDn,Int.toNat_natCast,g,w,w1,w2]
   simp only[aA0,aA2,decide_eq_true_eq,aFa,List.getD_cons_zero,List.getD_cons_succ,List.length_cons,List.length_nil,C.toInt,C.toStr,C.is,Nat.zero_add,Nat.reduceAdd,Nat.reduceLT,decide_true,beq_self_eq_true,bne_self_eq_false,Bool.not_true,Bool.and_self,Bool.and_true,Bool.true_and,Bool.false_eq_true,if_true,if_false,b0,show (i:Int)<m by omega,show k+2*(i:Int)≤4611686018427387904 by omega]
   exact e
  ·have e:i=m:=by omega
   subst e
   rw[aDn]
   exact aAj (decide_eq_false (by omega)) rfl
theorem bV0:aA8 Tryz.prog aTs:=aA6 (by simp[aD6])
theorem bFj:aAs Tryz.prog 50 (sg [pSl 92,pI] [rI]) aW5:=aA5 bV0 aA9 Tryz.func50 (by kernel_rfl) fun cs outs hk h=>by
 unfold aW5 at h
 split at h
 ·simp only[Option.some.injEq,Prod.mk.injEq,Bool.and_eq_true,decide_eq_true_eq]at h
  obtain⟨⟨h1,h2,h3,h4⟩,rfl⟩:=h
  rename_i rows k
  rw[aAb,bJd]
  have lp:=bJe k rows.length h2 h3 h4 9223372036854775808 0 (by omega) (by omega)
  rw[←bYj h1,show k+2*((0:Nat):Int)=k by omega]at lp
  exact lp
 ·cases h
theorem bV1:aA8 Tryz.prog bMd:=aA6 (by simp[aS1,bFi,bFj])
theorem bFk:aAs Tryz.prog 13 (sg [aAy,pI] [rI]) aW6:=aA5 bV1 aA9 Tryz.func13 (by kernel_rfl) fun cs outs hk h=>by
 unfold aW6 at h
 split at h
 ·simp only[Option.some.injEq,Prod.mk.injEq,Bool.and_eq_true,decide_eq_true_eq]at h
  obtain⟨⟨h1,h2,h3,h4⟩,rfl⟩:=h
  rename_i ns es os ss r x k
  simp only[bOu,Bool.and_eq_true,decide_eq_true_eq]at h1
  obtain⟨⟨⟨a1,a2⟩,a3⟩,a4⟩:=h1
  simp only[aBd,Bool.and_eq_true,decide_eq_true_eq]at h2
  obtain⟨⟨⟨b1,b2⟩,b3⟩,b4⟩:=h2
  have hs:aNj (aDa ss) (k+3*ns.length+2*es.length+2*os.length)=k+3*ns.length+2*es.length+2*os.length+ss.length:=by
   have:=aZ9 (k+3*ns.length+2*es.length+2*os.length) ss.length
   rw[←bRa a4]at this
   exact this
  have rs:aAf [.str] ss=true:=by rw[bRa a4];exact bLm _ _
  have n1:¬(k+3*(ns.length:Int)<0):=by omega
  have n2:¬(k+3*(ns.length:Int)+2*(es.length:Int)<0):=by omega
  have n3:¬(k+3*(ns.length:Int)+2*(es.length:Int)+2*(os.length:Int)<0):=by omega
  have n4:¬(k+3*(ns.length:Int)+2*(es.length:Int)+2*(os.length:Int)+(ss.length:Int)<0):=by omega
  have b5:ss.length≤1073741824:=by omega
  have k1:k≤1099511627776:=by omega
  have k2:0≤k+3*(ns.length:Int)∧k+3*(ns.length:Int)≤1099511627776:=by omega
  have k3:0≤k+3*(ns.length:Int)+2*(es.length:Int)∧k+3*(ns.length:Int)+2*(es.length:Int)≤1099511627776:=by omega
  have k4:0≤k+3*(ns.length:Int)+2*(es.length:Int)+2*(os.length:Int)∧k+3*(ns.length:Int)+2*(es.length:Int)+2*(os.length:Int)≤1099511627776:=by omega
  rw[aAb,bJf]
  simp only[aA0,aA2,aA1,decide_eq_true_eq,a1,a2,a3,rs,hs,n1,n2,n3,n4,b1,b2,b3,b4,b5,h3,k1,k2.1,k2.2,k3.1,k3.2,k4.1,k4.2,decide_true,Bool.and_self,Bool.and_true,Bool.true_and,if_true,if_false,bGp]
 ·cases h
noncomputable section
def aWy:Env:=mkE [(3,[3,7,8,9])] []
def bD4:Spec:=fun cs=>match cs with
 |[.sl ns,.sl _,.sl _,.sl _,.int .i64 _,.int .i64 x]=>some (aRx ns&&inB x 1 1000000000,[.bool (aFn x (nds ns) none&&decide (ns.length≤64))])
 |_=>none
def aTu:Env:=mkE [(2,[1,6,7,8])] [(86,(sg [pI,pI,pI] [rB]),aDo)]
def aX4:Env:=mkE [(2,[1,2,7,8,9])] [(84,(sg [aAy,pI] [rI]),aE9),(100,(sg [pS] [rB]),aGv)]
def aLt:Env:=mkE [(6,[1,3,4])] [(86,(sg [pI,pI,pI] [rB]),aDo),(85,(sg [pI] [rB]),aCm),(81,(sg [pSl 92] [rSl 92]),aIr),(89,(sg [pSl 92,pSl 92] [rB]),aLz),(90,(sg [pSl 92,pS] [rSl 92,rB]),aVc),(44,(sg [aAy] [rI]),aHn),(87,(sg [aAy] [rB]),bD4),(88,(sg [aAy,pSl 92] [rB]),aFp)]
def aWr (ns:List (List C)) (sum n i:Int):St:=st0 [(3,aB5 sum),(7,.l (.sl ns)),(8,aB5 n),(9,aB5 i)]
def aQa (ns es os ss:List (List C)) (r x n i:Int):St:={slots:=[(1,.l (.ptr 0 0)),(6,.l (.sl ns)),(7,aB5 n),(8,aB5 i)],heap:=[(0,aYg ns es os ss r x)],next:=1,pins:=[]}
def aRo (ns es os ss:List (List C)) (r x:Int) (l:List (List C)) (n i:Int):St:={slots:=[(1,.l (.sl l)),(2,.l (.ptr 0 0)),(7,.l (.sl l)),(8,aB5 n),(9,aB5 i)],heap:=[(0,aYg ns es os ss r x)],next:=1,pins:=[]}
def aLr (ns es os ss:List (List C)) (r x:Int) (m:Nat) (o:List (List C)) (i:Int):St:={slots:=[(1,.l (.ptr 0 0)),(3,.l (.ref 1 0 m)),(4,aB5 i)],heap:=[(0,aYg ns es os ss r x),(1,.arr 2 o)],next:=2,pins:=[]}
def bTd:Env:=mkE [] [(82,(sg [pSl 9] [rSl 9]),aRj),(81,(sg [pSl 92] [rSl 92]),aIr),(80,(sg [pSl 66] [rSl 66]),aRk)]
end
theorem bOh (H:List Pt→Nat→St→T (List C)) (ns:List (List C)) (es:List (List C)) (os:List (List C)) (ss:List (List C)) (r:Int) (x:Int):(aAi aWy aAa (sg [aAy] [rI]) Tryz.f44 H [C.sl ns,C.sl es,C.sl os,C.sl ss,C.int .i64 r,C.int .i64 x]).eval=((H [Pt.r,Pt.r,Pt.l,Pt.r,Pt.b] 9223372036854775808 (aWr (ns) ((0:Int)) ((↑ns.length:Int)) ((0:Int)))):T (List C)).eval:=aAh (by kernel_rfl)
theorem bJw (H:List Pt→Nat→St→T (List C)) (ns:List (List C)) (es:List (List C)) (os:List (List C)) (ss:List (List C)) (r:Int) (x:Int):(aAi aTu aAa (sg [aAy] [rB]) Tryz.f87 H [C.sl ns,C.sl es,C.sl os,C.sl ss,C.int .i64 r,C.int .i64 x]).eval=((H [Pt.r,Pt.l,Pt.r,Pt.b] 9223372036854775808 (aQa (ns) (es) (os) (ss) (r) (x) ((↑ns.length:Int)) ((0:Int)))):T (List C)).eval:=aAh (by kernel_rfl)
theorem bOo (H:List Pt→Nat→St→T (List C)) (ns:List (List C)) (es:List (List C)) (os:List (List C)) (ss:List (List C)) (r:Int) (x:Int) (l:List (List C)):(aAi aX4 aAa (sg [aAy,pSl 92] [rB]) Tryz.f88 H [C.sl ns,C.sl es,C.sl os,C.sl ss,C.int .i64 r,C.int .i64 x,C.sl l]).eval=((H [Pt.r,Pt.l,Pt.r,Pt.b] 9223372036854775808 (aRo (ns) (es) (os) (ss) (r) (x) (l) ((↑l.length:Int)) ((0:Int)))):T (List C)).eval:=aAh (by kernel_rfl)
theorem bG3 (H:List Pt→Nat→St→T (List C)) (ns:List (List C)) (es:List (List C)) (os:List (List C)) (ss:List (List C)) (r:Int) (x:Int):(aAi aLt aAa (sg [aAy] [rB]) Tryz.f43 H [C.sl ns,C.sl es,C.sl os,C.sl ss,C.int .i64 r,C.int .i64 x]).eval=((.ask (inB r 0 1000000000) (.ask (inB x 1 1000000000) (.must (aRx ns&&inB x 1 1000000000) (.ask (aFn x (nds ns) none&&decide (ns.length≤64)) (.must (aRx ns) (.ask (decide (r<Int.ofNat (aCn (nds ns)))) (.ret [C.bool false]) (.must (aAf [K.str,K.int .i64] os&&decide (os.length≤1099511627776)) (.must ((true&&os.all fun row=>decide (row.length=2))&&true&&true&&true) (H [Pt.r,Pt.r,Pt.r,Pt.r,Pt.b] 9223372036854775808 (aLr (ns) (es) (os) (ss) (r) (x) (os.length) (os) ((0:Int)))))))) (.ret [C.bool false]))) (.ret [C.bool false])) (.ret [C.bool false])):T (List C)).eval:=aAh (by kernel_rfl)
theorem bOt (H:List Pt→Nat→St→T (List C)) (ns:List (List C)) (es:List (List C)) (os:List (List C)) (ss:List (List C)) (r:Int) (x:Int):(aAi bTd aAa (sg [aAy] [aKa]) Tryz.f41 H [C.sl ns,C.sl es,C.sl os,C.sl ss,C.int .i64 r,C.int .i64 x]).eval=((.must (aAf [K.int .i64,K.str,K.int .i64] ns&&decide (ns.length≤1099511627776)) (.must ((true&&ns.all fun row=>decide (row.length=3))&&true&&true&&true) (.must (aAf [K.str,K.int .i64] es&&decide (es.length≤1099511627776)) (.must ((true&&es.all fun row=>decide (row.length=2))&&true&&true&&true) (.must (aAf [K.str,K.int .i64] os&&decide (os.length≤1099511627776)) (.must ((true&&os.all fun row=>decide (row.length=2))&&true&&true&&true) (.must (aAf [K.str] ss&&decide (ss.length≤1099511627776)) (.must ((true&&ss.all fun row=>decide (row.length=1))&&true&&true&&true) (.must (decide (ns.length=ns.length)&&(false||ns.all fun r=>r.all C.flat)&&(decide (es.length=es.length)&&(false||es.all fun r=>r.all C.flat)&&(decide (os.length=os.length)&&(false||os.all fun r=>r.all C.flat)&&(decide (ss.length=ss.length)&&(false||ss.all fun r=>r.all C.flat)&&(true&&(false||true)&&(true&&(false||true)&&true)))))&&true&&true) (.ret [C.sl ns,C.sl es,C.sl os,C.sl ss,C.int .i64 r,C.int .i64 x])))))))))):T (List C)).eval:=aAh (by kernel_rfl)
theorem bFn (H:List Pt→Nat→St→T (List C)) (ns:List (List C)) (sum:Int) (n:Int) (i:Int) (k:Nat):(aB7 aWy aAa (sg [aAy] [rI]) Tryz.f44 H [Pt.r,Pt.r,Pt.l,Pt.r,Pt.b] k (aWr ns sum n i)).eval=((.ask (decide (i<n)) (.must (decide ((0:Int)≤i)&&decide (i<(↑ns.length:Int))&&decide ((ns.getD i.toNat []).length=3)) (.must (decide (0<(ns.getD i.toNat []).length)&&C.is (K.int .i64) ((ns.getD i.toNat []).getD 0 (C.fn 0 []))&&(decide (0+1<(ns.getD i.toNat []).length)&&C.is K.str ((ns.getD i.toNat []).getD (0+1) (C.fn 0 []))&&(decide (0+1+1<(ns.getD i.toNat []).length)&&C.is (K.int .i64) ((ns.getD i.toNat []).getD (0+1+1) (C.fn 0 []))&&true))) (H [Pt.r,Pt.r,Pt.l,Pt.r,Pt.b] k (aWr (ns) (IntKind.i64.wrap (sum+(↑((ns.getD i.toNat []).getD (0+1) (C.fn 0 [])).toStr.length:Int))) (n) (IntKind.i64.wrap (i+(1:Int))))))) (.ret [C.int .i64 sum])):T (List C)).eval:=aAh (by kernel_rfl)
theorem bC3 (H:List Pt→Nat→St→T (List C)) (ns:List (List C)) (es:List (List C)) (os:List (List C)) (ss:List (List C)) (r:Int) (x:Int) (n:Int) (i:Int) (k:Nat):(aB7 aTu aAa (sg [aAy] [rB]) Tryz.f87 H [Pt.r,Pt.l,Pt.r,Pt.b] k (aQa ns es os ss r x n i)).eval=((.ask (decide (i<n)) (.must (decide ((0:Int)≤i)&&decide (i<(↑ns.length:Int))&&decide ((ns.getD i.toNat []).length=3)) (.must (decide (0<(ns.getD i.toNat []).length)&&C.is (K.int .i64) ((ns.getD i.toNat []).getD 0 (C.fn 0 []))&&(decide (0+1<(ns.getD i.toNat []).length)&&C.is K.str ((ns.getD i.toNat []).getD (0+1) (C.fn 0 []))&&(decide (0+1+1<(ns.getD i.toNat []).length)&&C.is (K.int .i64) ((ns.getD i.toNat []).getD (0+1+1) (C.fn 0 []))&&true))) (.ask (decide ((0:Int)<i)) (.must (decide ((0:Int)≤IntKind.i64.wrap (i-(1:Int)))&&decide (IntKind.i64.wrap (i-(1:Int))<(↑ns.length:Int))&&decide ((ns.getD (IntKind.i64.wrap (i-(1:Int))).toNat []).length=3)) (.must (decide (0+0<(ns.getD (IntKind.i64.wrap (i-(1:Int))).toNat []).length)&&C.is (K.int .i64) ((ns.getD (IntKind.i64.wrap (i-(1:Int))).toNat []).getD (0+0) (C.fn 0 []))&&true) (.ask (decide (((ns.getD i.toNat []).getD 0 (C.fn 0 [])).toInt≤((ns.getD (IntKind.i64.wrap (i-(1:Int))).toNat []).getD (0+0) (C.fn 0 [])).toInt)) (.ret [C.bool false]) (.ask (inB ((ns.getD i.toNat []).getD 0 (C.fn 0 [])).toInt 1 (IntKind.i64.wrap (x-(1:Int)))) (.ask (inB ((ns.getD i.toNat []).getD (0+1+1) (C.fn 0 [])).toInt 0 (↑((ns.getD i.toNat []).getD (0+1) (C.fn 0 [])).toStr.length:Int)) (H [Pt.r,Pt.l,Pt.r,Pt.b] k (aQa (ns) (es) (os) (ss) (r) (x) (n) (IntKind.i64.wrap (i+(1:Int))))) (.ret [C.bool false])) (.ret [C.bool false]))))) (.ask (inB ((ns.getD i.toNat []).getD 0 (C.fn 0 [])).toInt 1 (IntKind.i64.wrap (x-(1:Int)))) (.ask (inB ((ns.getD i.toNat []).getD (0+1+1) (C.fn 0 [])).toInt 0 (↑((ns.getD i.toNat []).getD (0+1) (C.fn 0 [])).toStr.length:Int)) (H [Pt.r,Pt.l,Pt.r,Pt.b] k (aQa (ns) (es) (os) (ss) (r) (x) (n) (IntKind.i64.wrap (i+(1:Int))))) (.ret [C.bool false])) (.ret [C.bool false]))))) (.ask (decide ((↑ns.length:Int)≤(64:Int))) (.ret [C.bool true]) (.ret [C.bool false]))):T (List C)).eval:=aAh (by kernel_rfl)
theorem bG1 (H:List Pt→Nat→St→T (List C)) (ns:List (List C)) (es:List (List C)) (os:List (List C)) (ss:List (List C)) (r:Int) (x:Int) (l:List (List C)) (n:Int) (i:Int) (k:Nat):(aB7 aX4 aAa (sg [aAy,pSl 92] [rB]) Tryz.f88 H [Pt.r,Pt.l,Pt.r,Pt.b] k (aRo ns es os ss r x l n i)).eval=((.ask (decide (i<n)) (.must (decide ((0:Int)≤i)&&decide (i<(↑l.length:Int))&&decide ((l.getD i.toNat []).length=2)) (.must (decide (0<(l.getD i.toNat []).length)&&C.is K.str ((l.getD i.toNat []).getD 0 (C.fn 0 []))&&(decide (0+1<(l.getD i.toNat []).length)&&C.is (K.int .i64) ((l.getD i.toNat []).getD (0+1) (C.fn 0 []))&&true)) (.ask (decide ((0:Int)<i)) (.must (decide ((0:Int)≤IntKind.i64.wrap (i-(1:Int)))&&decide (IntKind.i64.wrap (i-(1:Int))<(↑l.length:Int))&&decide ((l.getD (IntKind.i64.wrap (i-(1:Int))).toNat []).length=2)) (.must (decide (0+0<(l.getD (IntKind.i64.wrap (i-(1:Int))).toNat []).length)&&C.is K.str ((l.getD (IntKind.i64.wrap (i-(1:Int))).toNat []).getD (0+0) (C.fn 0 []))&&true) (.ask (Op.bytesLess ((l.getD i.toNat []).getD 0 (C.fn 0 [])).toStr ((l.getD (IntKind.i64.wrap (i-(1:Int))).toNat []).getD (0+0) (C.fn 0 [])).toStr||((l.getD i.toNat []).getD 0 (C.fn 0 [])).toStr==((l.getD (IntKind.i64.wrap (i-(1:Int))).toNat []).getD (0+0) (C.fn 0 [])).toStr) (.ret [C.bool false]) (.must (decide (((l.getD i.toNat []).getD 0 (C.fn 0 [])).toStr.length≤281474976710656)) (.ask (aBf ((l.getD i.toNat []).getD 0 (C.fn 0 [])).toStr) (.must (decide (ns.length≤aHh)&&aAf [K.int .i64,K.str,K.int .i64] ns) (.ask (decide (aAt (nds ns) ((l.getD i.toNat []).getD (0+1) (C.fn 0 [])).toInt<(0:Int))) (.ret [C.bool false]) (H [Pt.r,Pt.l,Pt.r,Pt.b] k (aRo (ns) (es) (os) (ss) (r) (x) (l) (n) (IntKind.i64.wrap (i+(1:Int))))))) (.ret [C.bool false])))))) (.must (decide (((l.getD i.toNat []).getD 0 (C.fn 0 [])).toStr.length≤281474976710656)) (.ask (aBf ((l.getD i.toNat []).getD 0 (C.fn 0 [])).toStr) (.must (decide (ns.length≤aHh)&&aAf [K.int .i64,K.str,K.int .i64] ns) (.ask (decide (aAt (nds ns) ((l.getD i.toNat []).getD (0+1) (C.fn 0 [])).toInt<(0:Int))) (.ret [C.bool false]) (H [Pt.r,Pt.l,Pt.r,Pt.b] k (aRo (ns) (es) (os) (ss) (r) (x) (l) (n) (IntKind.i64.wrap (i+(1:Int))))))) (.ret [C.bool false])))))) (.ask (decide ((↑l.length:Int)≤(16:Int))) (.ret [C.bool true]) (.ret [C.bool false]))):T (List C)).eval:=aAh (by kernel_rfl)
theorem aYb (H:List Pt→Nat→St→T (List C)) (ns:List (List C)) (es:List (List C)) (os:List (List C)) (ss:List (List C)) (r:Int) (x:Int) (m2:Nat) (o:List (List C)) (i:Int) (k:Nat):(aB7 aLt aAa (sg [aAy] [rB]) Tryz.f43 H [Pt.r,Pt.r,Pt.r,Pt.r,Pt.b] k (aLr ns es os ss r x m2 o i)).eval=((.must (aRx ns&&aI7 (List.take m2 o)) (.ask (aC3 (nds ns) (ens (List.take m2 o))) (.ask (decide (i=(↑ss.length:Int))) (.must (aI7 (List.take m2 o)&&aI7 es) (.ask (decide (ens (List.take m2 o)=ens es)) (.ret [C.bool true]) (.ret [C.bool false]))) (.must (decide ((0:Int)≤i)&&decide (i<(↑ss.length:Int))&&decide ((ss.getD i.toNat []).length=1)) (.must (decide (0<(ss.getD i.toNat []).length)&&C.is K.str ((ss.getD i.toNat []).getD 0 (C.fn 0 []))&&true) (.must (aI7 (List.take m2 o)&&decide ((List.take m2 o).length<16777216)&&decide (((ss.getD i.toNat []).getD 0 (C.fn 0 [])).toStr.length≤16777216)) (.must ((true&&(aNu (List.take m2 o) ((ss.getD i.toNat []).getD 0 (C.fn 0 [])).toStr).all fun row=>decide (row.length=2))&&true&&(decide (0<1)&&true&&true&&true)&&true) (.ask (aZ0 (List.take m2 o) ((ss.getD i.toNat []).getD 0 (C.fn 0 [])).toStr) (H [Pt.r,Pt.r,Pt.r,Pt.r,Pt.b] k (aLr (ns) (es) (os) (ss) (r) (x) ((aNu (List.take m2 o) ((ss.getD i.toNat []).getD 0 (C.fn 0 [])).toStr).length) (aNu (List.take m2 o) ((ss.getD i.toNat []).getD 0 (C.fn 0 [])).toStr) (IntKind.i64.wrap (i+(1:Int))))) (.ret [C.bool false]))))))) (.ret [C.bool false]))):T (List C)).eval:=aAh (by kernel_rfl)
theorem bOi (l:List Nd) (hl:l.length≤16777216) (ht:∀ x∈l,x.text.length≤16777216):∀ (N i:Nat),i≤l.length→l.length<i+N →
  (aBh aWy aAa (sg [aAy] [rI]) Tryz.f44 [.r,.r,.l,.r,.b] N (aWr (l.map eNd) (aCn (l.take i)) l.length i)).eval=some [.int .i64 (aCn l)]:=by
 intro N
 induction N with
 |zero=>intro i h1 h2;omega
 |succ N ih =>
  intro i h1 h2
  rw[aAv _ _ _ _ _ _ _ (by kernel_rfl),bFn]
  by_cases hi:i<l.length
  ·have g:=aAx eNd l ⟨0,[],0⟩ i hi
   have e:=ih (i+1) (by omega) (by omega)
   have u:=aQn l i hi
   have u2:=aQm l (i+1)
   have u3:=bL1 l ht
   have w2:IntKind.i64.wrap ((i:Int)+1)=((i+1:Nat):Int):=by rw[aAg]<;>omega
   have w:IntKind.i64.wrap ((aCn (l.take i):Int)+((l.getD i ⟨0,[],0⟩).text.length:Int))=((aCn (l.take (i+1)):Nat):Int):=by rw[aAg]<;>omega
   rw[List.length_map,Int.toNat_natCast,g,w2]
   refine aAc (decide_eq_true (by omega)) (aA7 (at2 _ _ hi _ _ rfl) (aA7 rfl ?_))
   show (aBh aWy aAa (sg [aAy] [rI]) Tryz.f44 [.r,.r,.l,.r,.b] N (aWr (l.map eNd) (IntKind.i64.wrap ((aCn (l.take i):Int)+((l.getD i ⟨0,[],0⟩).text.length:Int))) l.length ((i+1:Nat):Int))).eval=_
   rw[w]
   exact e
  ·have e:i=l.length:=by omega
   subst e
   rw[List.take_length]
   exact aAj (decide_eq_false (by omega)) rfl
theorem bYs:aA8 Tryz.prog aWy:=aA6 (by simp[])
theorem aVp:aAs Tryz.prog 44 (sg [aAy] [rI]) aHn:=aA5 bYs aA9 Tryz.func44 (by kernel_rfl) fun cs outs hk h=>by
 unfold aHn at h
 split at h
 ·simp only[Option.some.injEq,Prod.mk.injEq]at h
  obtain⟨h1,rfl⟩:=h
  rename_i ns es os ss r x
  obtain⟨l,rfl,e,hl,ht⟩:=aI3 h1
  rw[e,aAb,bOh,List.length_map]
  exact bOi l hl ht 9223372036854775808 0 (by omega) (by omega)
 ·cases h
theorem bJx (l:List Nd) (es os ss:List (List C)) (r x:Int) (hx:1≤x∧x≤1000000000) (hl:l.length≤16777216):∀ (N i:Nat),i≤l.length→l.length<i+N →
  (aBh aTu aAa (sg [aAy] [rB]) Tryz.f87 [.r,.l,.r,.b] N (aQa (l.map eNd) es os ss r x l.length i)).eval=some [.bool (aFn x (l.drop i) (aXu l i)&&decide (l.length≤64))]:=by
 intro N
 induction N with
 |zero=>intro i h1 h2;omega
 |succ N ih =>
  intro i h1 h2
  rw[aAv _ _ _ _ _ _ _ (by kernel_rfl),bC3]
  by_cases hi:i<l.length
  ·have g:=aAx eNd l ⟨0,[],0⟩ i hi
   have w2:IntKind.i64.wrap ((i:Int)+1)=((i+1:Nat):Int):=by rw[aAg]<;>omega
   have w3:IntKind.i64.wrap (x-1)=x-1:=by rw[aAg]<;>omega
   have e:=ih (i+1) (by omega) (by omega)
   have pv:aXu l (i+1)=some (l.getD i ⟨0,[],0⟩).id:=by unfold aXu;rw[if_neg (by omega),Nat.add_sub_cancel]
   rw[pv]at e
   rw[List.length_map,Int.toNat_natCast,g,w2,w3,aBx l i ⟨0,[],0⟩ hi]
   have sp:∀ y q,aFn x (y::l.drop (i+1)) q=(inB y.id 1 (x-1)&&(match q with | none=>true | some q=>decide (q<y.id))&&inB y.sure 0 y.text.length&&aFn x (l.drop (i+1)) (some y.id)):=fun _ _=>rfl
   rw[sp]
   generalize l.getD i ⟨0,[],0⟩=y at e ⊢
   refine aAc (decide_eq_true (by omega)) (aA7 (at2 _ _ hi _ _ rfl) (aA7 rfl ?_))
   by_cases c3:i=0
   ·subst c3
    refine aAj rfl ?_
    show (T.ask (inB y.id 1 (x-1)) (T.ask (inB y.sure 0 (y.text.length:Int)) _ _) _).eval=some [C.bool (inB y.id 1 (x-1)&&true&&inB y.sure 0 (y.text.length:Int)&&_&&_)]
    cases c1:inB y.id 1 (x-1)
    ·exact aAj rfl rfl
    ·refine aAc rfl ?_
     cases c4:inB y.sure 0 (y.text.length:Int)
     ·exact aAj rfl rfl
     ·refine aAc rfl ?_
      simpa using e
   ·have hj:i-1<l.length:=by omega
    have w4:IntKind.i64.wrap ((i:Int)-1)=((i-1:Nat):Int):=by rw[aAg]<;>omega
    have g2:=aAx eNd l ⟨0,[],0⟩ (i-1) hj
    rw[w4,Int.toNat_natCast,g2]
    have pv2:aXu l i=some (l.getD (i-1) ⟨0,[],0⟩).id:=by unfold aXu;rw[if_neg c3]
    rw[pv2]
    generalize l.getD (i-1) ⟨0,[],0⟩=z
    refine aAc (decide_eq_true (by omega)) (aA7 (at2 _ _ hj _ _ rfl) (aA7 rfl ?_))
    show (T.ask (decide (y.id≤z.id)) _ (T.ask (inB y.id 1 (x-1)) (T.ask (inB y.sure 0 (y.text.length:Int)) _ _) _)).eval=some [C.bool (inB y.id 1 (x-1)&&decide (z.id<y.id)&&inB y.sure 0 (y.text.length:Int)&&_&&_)]
    by_cases c2:y.id≤z.id
    ·rw[decide_eq_false (show ¬z.id<y.id by omega)]
     refine aAc (decide_eq_true c2) ?_
     simp
     rfl
    ·rw[decide_eq_true (show z.id<y.id by omega)]
     refine aAj (decide_eq_false c2) ?_
     cases c1:inB y.id 1 (x-1)
     ·exact aAj rfl rfl
     ·refine aAc rfl ?_
      cases c4:inB y.sure 0 (y.text.length:Int)
      ·exact aAj rfl rfl
      ·refine aAc rfl ?_
       simpa using e
  ·have e:i=l.length:=by omega
   subst e
   rw[List.drop_length,List.length_map]
   refine aAj (decide_eq_false (by omega)) ?_
   show (T.ask (decide ((l.length:Int)≤64)) _ _).eval=some [C.bool (true&&decide (l.length≤64))]
   by_cases c:l.length≤64
   ·rw[decide_eq_true c]
    exact aAc (decide_eq_true (by omega)) rfl
   ·rw[decide_eq_false c]
    exact aAj (decide_eq_false (by omega)) rfl
theorem bVd:aA8 Tryz.prog aTu:=aA6 (by simp[aF4])
theorem bFs:aAs Tryz.prog 87 (sg [aAy] [rB]) bD4:=aA5 bVd aA9 Tryz.func87 (by kernel_rfl) fun cs outs hk h=>by
 unfold bD4 at h
 split at h
 ·simp only[Option.some.injEq,Prod.mk.injEq,Bool.and_eq_true,aBr]at h
  obtain⟨⟨h1,hx⟩,rfl⟩:=h
  rename_i ns es os ss r x
  obtain⟨l,rfl,e,hl,ht⟩:=aI3 h1
  rw[e,aAb,bJw,List.length_map]
  exact bJx l es os ss r x hx hl 9223372036854775808 0 (by omega) (by omega)
 ·cases h
theorem bYk (a b:List UInt8):(Op.bytesLess a b||a==b)= !Op.bytesLess b a:=by
 by_cases c:a=b
 ·subst c;rw[bM1];simp
 ·have:(a==b)=false:=by simpa using c
  rw[this,Bool.or_false]
  cases h:Op.bytesLess a b
  ·rw[cB1 h c];rfl
  ·rw[bZa h];rfl
theorem bOp (ns es os ss:List (List C)) (r x:Int) (l:List En) (hn:aRx ns=true) (hl:l.length≤16777216) (ht:∀ x∈l,x.name.length≤16777216):∀ (N i:Nat),i≤l.length→l.length<i+N →
  (aBh aX4 aAa (sg [aAy,pSl 92] [rB]) Tryz.f88 [.r,.l,.r,.b] N (aRo ns es os ss r x (l.map eEn) l.length i)).eval=some [.bool (aIo (nds ns) (l.drop i) (aV8 l i)&&decide (l.length≤16))]:=by
 intro N
 induction N with
 |zero=>intro i h1 h2;omega
 |succ N ih =>
  intro i h1 h2
  rw[aAv _ _ _ _ _ _ _ (by kernel_rfl),bG1]
  by_cases hi:i<l.length
  ·have g:=aAx eEn l ⟨[],0⟩ i hi
   have e:=ih (i+1) (by omega) (by omega)
   have w2:IntKind.i64.wrap ((i:Int)+1)=((i+1:Nat):Int):=by rw[aAg]<;>omega
   have hm:=ht _ (aJj (d:=⟨[],0⟩) hi)
   have pv:aV8 l (i+1)=some (l.getD i ⟨[],0⟩).name:=by unfold aV8;rw[if_neg (by omega),Nat.add_sub_cancel]
   rw[pv]at e
   rw[List.length_map,Int.toNat_natCast,g,w2,aBx l i ⟨[],0⟩ hi]
   have sp:∀ y q,aIo (nds ns) (y::l.drop (i+1)) q=(aBf y.name&&decide (0≤aAt (nds ns) y.id)&&(match q with | none=>true | some q=>Op.bytesLess q y.name)&&aIo (nds ns) (l.drop (i+1)) (some y.name)):=fun _ _=>rfl
   rw[sp]
   generalize l.getD i ⟨[],0⟩=y at hm e ⊢
   refine aAc (decide_eq_true (by omega)) (aA7 (at2 _ _ hi _ _ rfl) (aA7 rfl ?_))
   have nb:=bR5 hn
   have tl:∀ b:Bool,b=true→(T.must (decide (y.name.length≤281474976710656)) (T.ask (aBf y.name) (T.must (decide (ns.length≤aHh)&&aAf [K.int .i64,K.str,K.int .i64] ns) (T.ask (decide (aAt (nds ns) y.id<(0:Int))) (T.ret [C.bool false]) (aBh aX4 aAa (sg [aAy,pSl 92] [rB]) Tryz.f88 [.r,.l,.r,.b] N (aRo ns es os ss r x (l.map eEn) l.length ((i+1:Nat):Int))))) (T.ret [C.bool false]))).eval =
     some [C.bool (aBf y.name&&decide (0≤aAt (nds ns) y.id)&&b&&aIo (nds ns) (l.drop (i+1)) (some y.name)&&decide (l.length≤16))]:=fun b hb=>by
    subst hb
    refine aA7 (decide_eq_true (by omega)) ?_
    cases c1:aBf y.name
    ·exact aAj rfl rfl
    ·refine aAc rfl (aA7 nb ?_)
     by_cases c2:aAt (nds ns) y.id<0
     ·rw[decide_eq_false (show ¬0≤aAt (nds ns) y.id by omega)]
      exact aAc (decide_eq_true c2) rfl
     ·rw[decide_eq_true (show 0≤aAt (nds ns) y.id by omega)]
      refine aAj (decide_eq_false c2) ?_
      simpa using e
   by_cases c3:i=0
   ·subst c3
    exact aAj rfl (tl true rfl)
   ·have hj:i-1<l.length:=by omega
    have w3:IntKind.i64.wrap ((i:Int)-1)=((i-1:Nat):Int):=by rw[aAg]<;>omega
    have g2:=aAx eEn l ⟨[],0⟩ (i-1) hj
    rw[w3,Int.toNat_natCast,g2]
    have pv2:aV8 l i=some (l.getD (i-1) ⟨[],0⟩).name:=by unfold aV8;rw[if_neg c3]
    rw[pv2]
    generalize l.getD (i-1) ⟨[],0⟩=z
    refine aAc (decide_eq_true (by omega)) (aA7 (at2 _ _ hj _ _ rfl) (aA7 rfl ?_))
    have lq:=bYk y.name z.name
    show (T.ask (Op.bytesLess y.name z.name||y.name==z.name) _ _).eval=some [C.bool (aBf y.name&&decide (0≤aAt (nds ns) y.id)&&Op.bytesLess z.name y.name&&_&&_)]
    cases c4:Op.bytesLess z.name y.name
    ·rw[c4]at lq
     refine aAc lq ?_
     simp
     rfl
    ·rw[c4]at lq
     exact aAj lq (tl true rfl)
  ·have e:i=l.length:=by omega
   subst e
   rw[List.drop_length,List.length_map]
   refine aAj (decide_eq_false (by omega)) ?_
   show (T.ask (decide ((l.length:Int)≤16)) _ _).eval=some [C.bool (true&&decide (l.length≤16))]
   by_cases c:l.length≤16
   ·rw[decide_eq_true c]
    exact aAc (decide_eq_true (by omega)) rfl
   ·rw[decide_eq_false c]
    exact aAj (decide_eq_false (by omega)) rfl
theorem bYt:aA8 Tryz.prog aX4:=aA6 (by simp[aPf,aPq])
theorem bK2:aAs Tryz.prog 88 (sg [aAy,pSl 92] [rB]) aFp:=aA5 bYt aA9 Tryz.func88 (by kernel_rfl) fun cs outs hk h=>by
 unfold aFp at h
 split at h
 ·simp only[Option.some.injEq,Prod.mk.injEq,Bool.and_eq_true]at h
  obtain⟨⟨h1,h2⟩,rfl⟩:=h
  rename_i ns es os ss r x l0
  obtain⟨l,rfl,e,hl,ht⟩:=aEp h2
  rw[e,aAb,bOo,List.length_map]
  exact bOp ns es os ss r x l h1 hl ht 9223372036854775808 0 (by omega) (by omega)
 ·cases h
theorem bUf {l:List En} {e y:En} (h:y∈aT1 l e):y=e∨y∈l∨y.name.length=0∨∃ z∈l,y.name=z.name:=by
 unfold aT1 at h
 split at h
 ·rename_i hp
  rcases List.mem_or_eq_of_mem_set h with h | h
  ·exact .inr (.inl h)
  ·subst h
   by_cases hk:(aA4 l e.name).toNat<l.length
   ·exact .inr (.inr (.inr ⟨_,aJj (d:=⟨[],0⟩) hk,rfl⟩))
   ·refine .inr (.inr (.inl ?_))
    simp only[List.getD_eq_getElem?_getD,List.getElem?_eq_none (Nat.le_of_not_lt hk),Option.getD_none,List.length_nil]
 ·split at h
  ·rcases List.mem_append.1 h with h | h
   ·exact .inr (.inl h)
   ·exact .inl (by simpa using h)
  ·rcases List.mem_append.1 h with h | h
   ·rcases List.mem_append.1 h with h | h
    ·exact .inr (.inl (List.mem_of_mem_take h))
    ·exact .inl (by simpa using h)
   ·exact .inr (.inl (List.mem_of_mem_drop h))
theorem bQu {l:List En} {e:En} {B:Nat} (hl:∀ x∈l,x.name.length≤B) (he:e.name.length≤B):∀ y∈aT1 l e,y.name.length≤B:=fun y hy=>by
 rcases bUf hy with rfl | h | h | ⟨z,hz,h⟩
 ·exact he
 ·exact hl y h
 ·omega
 ·rw[h];exact hl z hz
theorem bBc {l:List En} {nm:List UInt8} {B:Nat} (hl:∀ x∈l,x.name.length≤B):(∀ y∈aHa l nm,y.name.length≤B)∧(aHa l nm).length≤l.length+1:=by
 unfold aHa
 refine⟨fun y hy=>?_,by simp;omega⟩
 rcases List.mem_append.1 hy with h | h
 ·exact hl y (List.mem_of_mem_take h)
 ·exact hl y (List.mem_of_mem_drop h)
theorem bUg {l:List En} {nm:List UInt8} (h:0≤aA4 l nm):(aHa l nm).length≤l.length:=by
 have rg:=aEo l nm
 unfold aHa
 simp only[List.length_append,List.length_take,List.length_drop]
 omega
theorem bUd {l l':List En} {s:List UInt8} {B:Nat} (h:aEz l s=some l') (hl:∀ x∈l,x.name.length≤B) (hs:s.length≤B):l'.length≤l.length+1∧∀ y∈l',y.name.length≤B:=by
 have n1:(pNm s).length≤B:=by unfold pNm aAd;split<;>simp only[List.length_take,List.length_drop]<;>omega
 have n2:(aNh s).length≤B:=by unfold aNh aBg;split<;>simp only[List.length_nil,List.length_drop]<;>omega
 unfold aEz at h
 split at h
 ·cases h
 ·split at h
  ·split at h
   ·obtain rfl:=Option.some.inj h
    exact⟨(bLj _ _).2,bQu hl n1⟩
   ·cases h
  ·split at h
   ·split at h
    ·obtain rfl:=Option.some.inj h
     exact⟨(bBc hl).2,(bBc hl).1⟩
    ·cases h
   ·split at h
    ·split at h
     ·rename_i hc
      obtain rfl:=Option.some.inj h
      simp only[Bool.and_eq_true,decide_eq_true_eq]at hc
      have d:=bUg hc.1.1.1.1
      exact⟨by have:=(bLj (aHa l (pNm s)) ⟨aNh s,aB4 l (pNm s)⟩).2;omega,bQu (bBc hl).1 n2⟩
     ·cases h
    ·cases h
theorem bG4 (ns es os:List (List C)) (t:List (List UInt8)) (r x:Int) (hn:aRx ns=true) (he:aI7 es=true) (hl:t.length≤16777216) (ht:∀ s∈t,s.length≤16777216):∀ (N i:Nat) (l:List En),i≤t.length→t.length<i+N→aI7 (l.map eEn)=true →
  (aBh aLt aAa (sg [aAy] [rB]) Tryz.f43 [.r,.r,.r,.r,.b] N (aLr ns es os (t.map aCd) r x l.length (l.map eEn) i)).eval=some [.bool (aV7 (nds ns) (ens es) (t.drop i) l)]:=by
 intro N
 induction N with
 |zero=>intro i l h1 h2;omega
 |succ N ih =>
  intro i l h1 h2 hb
  rw[aAv _ _ _ _ _ _ _ (by kernel_rfl),aYb]
  have tk:List.take l.length (l.map eEn)=l.map eEn:=by rw[List.take_of_length_le];simp
  rw[tk,aJn]
  refine aA7 (by rw[hn,hb];rfl) ?_
  by_cases hi:i<t.length
  ·have g:=aAx aCd t [] i hi
   have w2:IntKind.i64.wrap ((i:Int)+1)=((i+1:Nat):Int):=by rw[aAg]<;>omega
   have hs:=ht _ (aJj (d:=[]) hi)
   rw[List.length_map,Int.toNat_natCast,g,w2,aBx t i [] hi]
   generalize t.getD i []=s at hs ⊢
   show _=some [C.bool (aC3 (nds ns) l&&match aEz l s with | some l=>aV7 (nds ns) (ens es) (t.drop (i+1)) l | none=>false)]
   cases c1:aC3 (nds ns) l
   ·exact aAj rfl rfl
   ·have l16:l.length≤16:=by
     unfold aC3 at c1
     simp only[Bool.and_eq_true,decide_eq_true_eq]at c1
     exact c1.2
    have rw1:aNu (l.map eEn) s=((aEz l s).getD []).map eEn:=by unfold aNu;rw[aJn]
    have rw2:aZ0 (l.map eEn) s=(aEz l s).isSome:=by unfold aZ0;rw[aJn]
    refine aAc rfl (aAj (decide_eq_false (by omega)) (aA7 (at2 _ _ hi _ _ rfl) (aA7 rfl ?_)))
    show (T.must (aI7 (l.map eEn)&&decide ((l.map eEn).length<16777216)&&decide (s.length≤16777216)) (T.must ((true&&(aNu (l.map eEn) s).all fun row=>decide (row.length=2))&&true&&(decide (0<1)&&true&&true&&true)&&true) (T.ask (aZ0 (l.map eEn) s) (aBh aLt aAa (sg [aAy] [rB]) Tryz.f43 [.r,.r,.r,.r,.b] N (aLr ns es os (t.map aCd) r x (aNu (l.map eEn) s).length (aNu (l.map eEn) s) ((i+1:Nat):Int))) (T.ret [C.bool false])))).eval=_
    rw[rw1,rw2,List.length_map,List.length_map]
    refine aA7 (by rw[hb,decide_eq_true (by omega),decide_eq_true hs];rfl) (aA7 (by rw[en2];rfl) ?_)
    cases hp:aEz l s with
    |none=>exact aAj rfl rfl
    |some l' =>
     refine aAc rfl ?_
     obtain⟨q1,q2⟩:=bUd hp (aPz.1 hb).2 hs
     exact ih (i+1) l' (by omega) (by omega) (aPz.2 ⟨by omega,q2⟩)
  ·have e:i=t.length:=by omega
   subst e
   rw[List.drop_length,List.length_map]
   show _=some [C.bool (aC3 (nds ns) l&&decide (l=ens es))]
   cases c1:aC3 (nds ns) l
   ·exact aAj rfl rfl
   ·refine aAc rfl (aAc (decide_eq_true rfl) (aA7 (by rw[hb,he];rfl) ?_))
    by_cases c2:l=ens es
    ·rw[decide_eq_true c2]
     exact aAc rfl rfl
    ·rw[decide_eq_false c2]
     exact aAj rfl rfl
theorem bS2:aA8 Tryz.prog aLt:=aA6 (by simp[aF4,aCg,aLl,bSi,bJp,aVp,bFs,bK2])
theorem bCb:aAs Tryz.prog 43 (sg [aAy] [rB]) aH6:=aA5 bS2 aA9 Tryz.func43 (by kernel_rfl) fun cs outs hk h=>by
 unfold aH6 at h
 split at h
 ·simp only[Option.some.injEq,Prod.mk.injEq]at h
  obtain⟨hd,rfl⟩:=h
  rename_i ns es os ss r x
  obtain⟨d1,d2,d3⟩:=aEa.1 hd
  obtain⟨s1,s2,s3⟩:=aJ7.1 d3
  obtain⟨l,rfl,e,hl,hlt⟩:=aEp s1
  obtain⟨t,rfl,e2,hl2,ht2⟩:=aU9 s2
  rw[aAb,bG3]
  have dk:aK7 ns es (l.map eEn) (t.map aCd) r x=(inB r 0 1000000000&&inB x 1 1000000000&&(aFn x (nds ns) none&&decide ((nds ns).length≤64))&&decide ((aCn (nds ns):Int)≤r)&&aV7 (nds ns) (ens es) t l):=by
   unfold aK7 bCx
   rw[e,e2,bLg]
   cases inB r 0 1000000000<;>cases inB x 1 1000000000<;>cases aFn x (nds ns) none<;>cases decide ((nds ns).length≤64)<;>simp
  have nl:(nds ns).length=ns.length:=by unfold nds;rw[List.length_map]
  rw[dk,nl]
  have lp:=bG4 ns es (l.map eEn) t r x d1 d2 hl2 ht2 9223372036854775808 0 l (by omega) (by omega) s1
  rw[List.drop_zero]at lp
  rw[List.length_map]
  cases c1:inB r 0 1000000000
  ·exact aAj rfl rfl
  ·refine aAc rfl ?_
   cases c2:inB x 1 1000000000
   ·exact aAj rfl rfl
   ·refine aAc rfl (aA7 (by rw[d1];rfl) ?_)
    cases c3:(aFn x (nds ns) none&&decide (ns.length≤64))
    ·exact aAj rfl rfl
    ·refine aAc rfl (aA7 d1 ?_)
     by_cases c4:r<(aCn (nds ns):Int)
     ·rw[decide_eq_false (show ¬(aCn (nds ns):Int)≤r by omega)]
      exact aAc (decide_eq_true c4) rfl
     ·rw[decide_eq_true (show (aCn (nds ns):Int)≤r by omega)]
      refine aAj (decide_eq_false c4) (aA7 ?_ (aA7 ?_ ?_))
      ·rw[decide_eq_true (by omega),Bool.and_true];exact aM0 l
      ·rw[en2];rfl
      ·simpa using lp
 ·cases h
theorem bYu:aA8 Tryz.prog bTd:=aA6 (by simp[bGv,aLl,bGw])
theorem bK4:aAs Tryz.prog 41 (sg [aAy] [aKa]) aMl:=aA5 bYu aA9 Tryz.func41 (by kernel_rfl) fun cs outs hk h=>by
 unfold aMl at h
 split at h
 ·simp only[Option.some.injEq,Prod.mk.injEq]at h
  obtain⟨hd,rfl⟩:=h
  rename_i ns es os ss r x
  obtain⟨n3,e2,o2,s1,nf,ef,of',sf⟩:=aMi hd
  obtain⟨l1,l2,l3,l4,_⟩:=bGr hd
  obtain⟨d1,d2,d3⟩:=aEa.1 hd
  obtain⟨q1,q2,q3⟩:=aJ7.1 d3
  have k1:aAf [K.int .i64,K.str,K.int .i64] ns=true:=(aFz.1 d1).1
  have k2:aAf [K.str,K.int .i64] es=true:=(aGw.1 d2).1
  have k3:aAf [K.str,K.int .i64] os=true:=(aGw.1 q1).1
  have k4:aAf [K.str] ss=true:=(aJ6.1 q2).1
  have b1:ns.length≤1099511627776:=by omega
  have b2:es.length≤1099511627776:=by omega
  have b3:os.length≤1099511627776:=by omega
  have b4:ss.length≤1099511627776:=by omega
  rw[aAb,bOt]
  simp only[aA0,aA1,k1,k2,k3,k4,b1,b2,b3,b4,n3,e2,o2,s1,nf,ef,of',sf,decide_true,Bool.and_self,Bool.and_true,Bool.true_and,Bool.or_true,Bool.false_or,if_true]
 ·cases h
noncomputable section
def bPi (y:Nd) (t:List UInt8):Nd:=⟨y.id,t,t.length⟩
def cBj (ns es os ss:List (List C)) (r x:Int) (nm t:List UInt8):Bool:=cBm ns es os ss r x nm&&decide ((aCn (nds ns):Int)-((nds ns).getD (ndK ns es nm).toNat ⟨0,[],0⟩).text.length+t.length≤r)
def wtN (ns es os ss:List (List C)) (r x:Int) (nm t:List UInt8):List (List C):=if cBj ns es os ss r x nm t then ns.set (ndK ns es nm).toNat (eNd (bPi ((nds ns).getD (ndK ns es nm).toNat ⟨0,[],0⟩) t))else ns
def aRq:Spec:=fun cs=>match cs with
 |[.sl ns,.sl es,.sl os,.sl ss,.int .i64 r,.int .i64 x,.str nm,.str t]=>some (aQk ns es os ss&&decide (t.length≤dN),[.sl (wtN ns es os ss r x nm t),.sl es,.sl os,.sl ss,.int .i64 r,.int .i64 x])
 |_=>none
def bTc:Env:=mkE [] [(42,(sg [aAy,pS] [rI]),aM6),(44,(sg [aAy] [rI]),aHn),(43,(sg [aAy] [rB]),aH6),(41,(sg [aAy] [aKa]),aMl)]
def bT7:Env:=mkE [] [(37,(sg [pSl 92,pS] [rI]),aGh),(36,(sg [aAy,pI] [rI]),aE9),(33,(sg [aAy,pS] [rS,rB]),aE1),(35,(sg [aAy] [rI]),aHn),(34,(sg [aAy] [rB]),aH6),(32,(sg [aAy] [aKa]),aMl)]
end
theorem bOf (H:List Pt→Nat→St→T (List C)) (ns:List (List C)) (es:List (List C)) (os:List (List C)) (ss:List (List C)) (r:Int) (x:Int) (nm:List UInt8) (t:List UInt8):(aAi bTc aAa (sg [aAy,pS,pS] [aKa]) Tryz.f10 H [C.sl ns,C.sl es,C.sl os,C.sl ss,C.int .i64 r,C.int .i64 x,C.str nm,C.str t]).eval=((.must (aQk ns es os ss) (.must ((true&&ns.all fun row=>decide (row.length=3))&&((true&&es.all fun row=>decide (row.length=2))&&((true&&os.all fun row=>decide (row.length=2))&&((true&&ss.all fun row=>decide (row.length=1))&&(decide (0<1)&&true&&(decide (0<1)&&true&&true)))))&&true&&true) (.must (aZ4 ns es) (.must (aQk ns es os ss) (.ask (aK7 ns es os ss r x) (.ask (decide (aB1 (nds ns) (ens es) nm<(0:Int))) (.must (decide (ns.length=ns.length)&&(false||ns.all fun r=>r.all C.flat)&&(decide (es.length=es.length)&&(false||es.all fun r=>r.all C.flat)&&(decide (os.length=os.length)&&(false||os.all fun r=>r.all C.flat)&&(decide (ss.length=ss.length)&&(false||ss.all fun r=>r.all C.flat)&&(true&&(false||true)&&(true&&(false||true)&&true)))))&&true&&true) (.ret [C.sl ns,C.sl es,C.sl os,C.sl ss,C.int .i64 r,C.int .i64 x])) (.must (aRx ns) (.must (decide ((0:Int)≤aB1 (nds ns) (ens es) nm)&&decide (aB1 (nds ns) (ens es) nm<(↑ns.length:Int))&&decide ((ns.getD (aB1 (nds ns) (ens es) nm).toNat []).length=3)) (.must (decide (0+1<(ns.getD (aB1 (nds ns) (ens es) nm).toNat []).length)&&C.is K.str ((ns.getD (aB1 (nds ns) (ens es) nm).toNat []).getD (0+1) (C.fn 0 []))&&true) (.ask (decide (r<IntKind.i64.wrap (IntKind.i64.wrap (Int.ofNat (aCn (nds ns))-(↑((ns.getD (aB1 (nds ns) (ens es) nm).toNat []).getD (0+1) (C.fn 0 [])).toStr.length:Int))+(↑t.length:Int)))) (.must (decide (ns.length=ns.length)&&(false||ns.all fun r=>r.all C.flat)&&(decide (es.length=es.length)&&(false||es.all fun r=>r.all C.flat)&&(decide (os.length=os.length)&&(false||os.all fun r=>r.all C.flat)&&(decide (ss.length=ss.length)&&(false||ss.all fun r=>r.all C.flat)&&(true&&(false||true)&&(true&&(false||true)&&true)))))&&true&&true) (.ret [C.sl ns,C.sl es,C.sl os,C.sl ss,C.int .i64 r,C.int .i64 x])) (.must (decide ((0:Int)≤aB1 (nds ns) (ens es) nm)&&decide (aB1 (nds ns) (ens es) nm<(↑ns.length:Int))) (.must (decide (0+(aB1 (nds ns) (ens es) nm).toNat<ns.length)) (.must (decide ((0:Int)≤aB1 (nds ns) (ens es) nm)&&decide (aB1 (nds ns) (ens es) nm<(↑ns.length:Int))) (.must (decide (0+(aB1 (nds ns) (ens es) nm).toNat<(ns.set (0+(aB1 (nds ns) (ens es) nm).toNat) (((List.take (0+1) (ns.getD (0+(aB1 (nds ns) (ens es) nm).toNat) [])).append [C.str t]).append (List.drop (0+1+1) (ns.getD (0+(aB1 (nds ns) (ens es) nm).toNat) [])))).length)) (.must (decide (ns.length=((ns.set (0+(aB1 (nds ns) (ens es) nm).toNat) (((List.take (0+1) (ns.getD (0+(aB1 (nds ns) (ens es) nm).toNat) [])).append [C.str t]).append (List.drop (0+1+1) (ns.getD (0+(aB1 (nds ns) (ens es) nm).toNat) [])))).set (0+(aB1 (nds ns) (ens es) nm).toNat) (((List.take (0+2) ((ns.set (0+(aB1 (nds ns) (ens es) nm).toNat) (((List.take (0+1) (ns.getD (0+(aB1 (nds ns) (ens es) nm).toNat) [])).append [C.str t]).append (List.drop (0+1+1) (ns.getD (0+(aB1 (nds ns) (ens es) nm).toNat) [])))).getD (0+(aB1 (nds ns) (ens es) nm).toNat) [])).append [C.int .i64 (↑t.length:Int)]).append (List.drop (0+2+1) ((ns.set (0+(aB1 (nds ns) (ens es) nm).toNat) (((List.take (0+1) (ns.getD (0+(aB1 (nds ns) (ens es) nm).toNat) [])).append [C.str t]).append (List.drop (0+1+1) (ns.getD (0+(aB1 (nds ns) (ens es) nm).toNat) [])))).getD (0+(aB1 (nds ns) (ens es) nm).toNat) [])))).length)&&(false||((ns.set (0+(aB1 (nds ns) (ens es) nm).toNat) (((List.take (0+1) (ns.getD (0+(aB1 (nds ns) (ens es) nm).toNat) [])).append [C.str t]).append (List.drop (0+1+1) (ns.getD (0+(aB1 (nds ns) (ens es) nm).toNat) [])))).set (0+(aB1 (nds ns) (ens es) nm).toNat) (((List.take (0+2) ((ns.set (0+(aB1 (nds ns) (ens es) nm).toNat) (((List.take (0+1) (ns.getD (0+(aB1 (nds ns) (ens es) nm).toNat) [])).append [C.str t]).append (List.drop (0+1+1) (ns.getD (0+(aB1 (nds ns) (ens es) nm).toNat) [])))).getD (0+(aB1 (nds ns) (ens es) nm).toNat) [])).append [C.int .i64 (↑t.length:Int)]).append (List.drop (0+2+1) ((ns.set (0+(aB1 (nds ns) (ens es) nm).toNat) (((List.take (0+1) (ns.getD (0+(aB1 (nds ns) (ens es) nm).toNat) [])).append [C.str t]).append (List.drop (0+1+1) (ns.getD (0+(aB1 (nds ns) (ens es) nm).toNat) [])))).getD (0+(aB1 (nds ns) (ens es) nm).toNat) [])))).all fun r=>r.all C.flat)&&(decide (es.length=es.length)&&(false||es.all fun r=>r.all C.flat)&&(decide (os.length=os.length)&&(false||os.all fun r=>r.all C.flat)&&(decide (ss.length=ss.length)&&(false||ss.all fun r=>r.all C.flat)&&(true&&(false||true)&&(true&&(false||true)&&true)))))&&true&&true) (.ret [C.sl ((ns.set (0+(aB1 (nds ns) (ens es) nm).toNat) (((List.take (0+1) (ns.getD (0+(aB1 (nds ns) (ens es) nm).toNat) [])).append [C.str t]).append (List.drop (0+1+1) (ns.getD (0+(aB1 (nds ns) (ens es) nm).toNat) [])))).set (0+(aB1 (nds ns) (ens es) nm).toNat) (((List.take (0+2) ((ns.set (0+(aB1 (nds ns) (ens es) nm).toNat) (((List.take (0+1) (ns.getD (0+(aB1 (nds ns) (ens es) nm).toNat) [])).append [C.str t]).append (List.drop (0+1+1) (ns.getD (0+(aB1 (nds ns) (ens es) nm).toNat) [])))).getD (0+(aB1 (nds ns) (ens es) nm).toNat) [])).append [C.int .i64 (↑t.length:Int)]).append (List.drop (0+2+1) ((ns.set (0+(aB1 (nds ns) (ens es) nm).toNat) (((List.take (0+1) (ns.getD (0+(aB1 (nds ns) (ens es) nm).toNat) [])).append [C.str t]).append (List.drop (0+1+1) (ns.getD (0+(aB1 (nds ns) (ens es) nm).toNat) [])))).getD (0+(aB1 (nds ns) (ens es) nm).toNat) [])))),C.sl es,C.sl os,C.sl ss,C.int .i64 r,C.int .i64 x]))))))))))) (.must (decide (ns.length=ns.length)&&(false||ns.all fun r=>r.all C.flat)&&(decide (es.length=es.length)&&(false||es.all fun r=>r.all C.flat)&&(decide (os.length=os.length)&&(false||os.all fun r=>r.all C.flat)&&(decide (ss.length=ss.length)&&(false||ss.all fun r=>r.all C.flat)&&(true&&(false||true)&&(true&&(false||true)&&true)))))&&true&&true) (.ret [C.sl ns,C.sl es,C.sl os,C.sl ss,C.int .i64 r,C.int .i64 x]))))))):T (List C)).eval:=aAh (by kernel_rfl)
theorem bN0 (H:List Pt→Nat→St→T (List C)) (ns:List (List C)) (es:List (List C)) (os:List (List C)) (ss:List (List C)) (r:Int) (x:Int) (nm:List UInt8) (t:List UInt8):(aAi bT7 aAa (sg [aAy,pS,pS] [aKa]) Tryz.f8 H [C.sl ns,C.sl es,C.sl os,C.sl ss,C.int .i64 r,C.int .i64 x,C.str nm,C.str t]).eval=((.must (aQk ns es os ss) (.must ((true&&ns.all fun row=>decide (row.length=3))&&((true&&es.all fun row=>decide (row.length=2))&&((true&&os.all fun row=>decide (row.length=2))&&((true&&ss.all fun row=>decide (row.length=1))&&(decide (0<1)&&true&&(decide (0<1)&&true&&true)))))&&true&&true) (.must (aZ4 (List.take ns.length ns) (List.take es.length es)) (.ask (aW8 (nds (List.take ns.length ns)) (ens (List.take es.length es)) nm) (.must (aQk (List.take ns.length ns) (List.take es.length es) (List.take os.length os) (List.take ss.length ss)) (.ask (aK7 (List.take ns.length ns) (List.take es.length es) (List.take os.length os) (List.take ss.length ss) r x) (.must (aRx (List.take ns.length ns)) (.ask (decide (IntKind.i64.wrap (r-Int.ofNat (aCn (nds (List.take ns.length ns))))<IntKind.i64.wrap ((↑t.length:Int)-(↑(aGb (nds (List.take ns.length ns)) (ens (List.take es.length es)) nm).length:Int)))) (.must (decide (ns.length=ns.length)&&(false||ns.all fun r=>r.all C.flat)&&(decide (es.length=es.length)&&(false||es.all fun r=>r.all C.flat)&&(decide (os.length=os.length)&&(false||os.all fun r=>r.all C.flat)&&(decide (ss.length=ss.length)&&(false||ss.all fun r=>r.all C.flat)&&(true&&(false||true)&&(true&&(false||true)&&true)))))&&true&&true) (.ret [C.sl ns,C.sl es,C.sl os,C.sl ss,C.int .i64 r,C.int .i64 x])) (.must (decide ((List.take es.length es).length≤aHh)&&aAf [K.str,K.int .i64] (List.take es.length es)) (.must (decide ((List.take ns.length ns).length≤aHh)&&aAf [K.int .i64,K.str,K.int .i64] (List.take ns.length ns)) (.must (decide ((0:Int)≤aAt (nds (List.take ns.length ns)) (aB4 (ens (List.take es.length es)) nm))&&decide (aAt (nds (List.take ns.length ns)) (aB4 (ens (List.take es.length es)) nm)<(↑ns.length:Int))) (.must (decide (0+(aAt (nds (List.take ns.length ns)) (aB4 (ens (List.take es.length es)) nm)).toNat<ns.length)) (.must (decide ((0:Int)≤aAt (nds (List.take ns.length ns)) (aB4 (ens (List.take es.length es)) nm))&&decide (aAt (nds (List.take ns.length ns)) (aB4 (ens (List.take es.length es)) nm)<(↑ns.length:Int))) (.must (decide (0+(aAt (nds (List.take ns.length ns)) (aB4 (ens (List.take es.length es)) nm)).toNat<(ns.set (0+(aAt (nds (List.take ns.length ns)) (aB4 (ens (List.take es.length es)) nm)).toNat) (((List.take (0+1) (ns.getD (0+(aAt (nds (List.take ns.length ns)) (aB4 (ens (List.take es.length es)) nm)).toNat) [])).append [C.str t]).append (List.drop (0+1+1) (ns.getD (0+(aAt (nds (List.take ns.length ns)) (aB4 (ens (List.take es.length es)) nm)).toNat) [])))).length)) (.must (decide (ns.length=((ns.set (0+(aAt (nds (List.take ns.length ns)) (aB4 (ens (List.take es.length es)) nm)).toNat) (((List.take (0+1) (ns.getD (0+(aAt (nds (List.take ns.length ns)) (aB4 (ens (List.take es.length es)) nm)).toNat) [])).append [C.str t]).append (List.drop (0+1+1) (ns.getD (0+(aAt (nds (List.take ns.length ns)) (aB4 (ens (List.take es.length es)) nm)).toNat) [])))).set (0+(aAt (nds (List.take ns.length ns)) (aB4 (ens (List.take es.length es)) nm)).toNat) (((List.take (0+2) ((ns.set (0+(aAt (nds (List.take ns.length ns)) (aB4 (ens (List.take es.length es)) nm)).toNat) (((List.take (0+1) (ns.getD (0+(aAt (nds (List.take ns.length ns)) (aB4 (ens (List.take es.length es)) nm)).toNat) [])).append [C.str t]).append (List.drop (0+1+1) (ns.getD (0+(aAt (nds (List.take ns.length ns)) (aB4 (ens (List.take es.length es)) nm)).toNat) [])))).getD (0+(aAt (nds (List.take ns.length ns)) (aB4 (ens (List.take es.length es)) nm)).toNat) [])).append [C.int .i64 (↑t.length:Int)]).append (List.drop (0+2+1) ((ns.set (0+(aAt (nds (List.take ns.length ns)) (aB4 (ens (List.take es.length es)) nm)).toNat) (((List.take (0+1) (ns.getD (0+(aAt (nds (List.take ns.length ns)) (aB4 (ens (List.take es.length es)) nm)).toNat) [])).append [C.str t]).append (List.drop (0+1+1) (ns.getD (0+(aAt (nds (List.take ns.length ns)) (aB4 (ens (List.take es.length es)) nm)).toNat) [])))).getD (0+(aAt (nds (List.take ns.length ns)) (aB4 (ens (List.take es.length es)) nm)).toNat) [])))).length)&&(false||((ns.set (0+(aAt (nds (List.take ns.length ns)) (aB4 (ens (List.take es.length es)) nm)).toNat) (((List.take (0+1) (ns.getD (0+(aAt (nds (List.take ns.length ns)) (aB4 (ens (List.take es.length es)) nm)).toNat) [])).append [C.str t]).append (List.drop (0+1+1) (ns.getD (0+(aAt (nds (List.take ns.length ns)) (aB4 (ens (List.take es.length es)) nm)).toNat) [])))).set (0+(aAt (nds (List.take ns.length ns)) (aB4 (ens (List.take es.length es)) nm)).toNat) (((List.take (0+2) ((ns.set (0+(aAt (nds (List.take ns.length ns)) (aB4 (ens (List.take es.length es)) nm)).toNat) (((List.take (0+1) (ns.getD (0+(aAt (nds (List.take ns.length ns)) (aB4 (ens (List.take es.length es)) nm)).toNat) [])).append [C.str t]).append (List.drop (0+1+1) (ns.getD (0+(aAt (nds (List.take ns.length ns)) (aB4 (ens (List.take es.length es)) nm)).toNat) [])))).getD (0+(aAt (nds (List.take ns.length ns)) (aB4 (ens (List.take es.length es)) nm)).toNat) [])).append [C.int .i64 (↑t.length:Int)]).append (List.drop (0+2+1) ((ns.set (0+(aAt (nds (List.take ns.length ns)) (aB4 (ens (List.take es.length es)) nm)).toNat) (((List.take (0+1) (ns.getD (0+(aAt (nds (List.take ns.length ns)) (aB4 (ens (List.take es.length es)) nm)).toNat) [])).append [C.str t]).append (List.drop (0+1+1) (ns.getD (0+(aAt (nds (List.take ns.length ns)) (aB4 (ens (List.take es.length es)) nm)).toNat) [])))).getD (0+(aAt (nds (List.take ns.length ns)) (aB4 (ens (List.take es.length es)) nm)).toNat) [])))).all fun r=>r.all C.flat)&&(decide (es.length=es.length)&&(false||es.all fun r=>r.all C.flat)&&(decide (os.length=os.length)&&(false||os.all fun r=>r.all C.flat)&&(decide (ss.length=ss.length)&&(false||ss.all fun r=>r.all C.flat)&&(true&&(false||true)&&(true&&(false||true)&&true)))))&&true&&true) (.ret [C.sl ((ns.set (0+(aAt (nds (List.take ns.length ns)) (aB4 (ens (List.take es.length es)) nm)).toNat) (((List.take (0+1) (ns.getD (0+(aAt (nds (List.take ns.length ns)) (aB4 (ens (List.take es.length es)) nm)).toNat) [])).append [C.str t]).append (List.drop (0+1+1) (ns.getD (0+(aAt (nds (List.take ns.length ns)) (aB4 (ens (List.take es.length es)) nm)).toNat) [])))).set (0+(aAt (nds (List.take ns.length ns)) (aB4 (ens (List.take es.length es)) nm)).toNat) (((List.take (0+2) ((ns.set (0+(aAt (nds (List.take ns.length ns)) (aB4 (ens (List.take es.length es)) nm)).toNat) (((List.take (0+1) (ns.getD (0+(aAt (nds (List.take ns.length ns)) (aB4 (ens (List.take es.length es)) nm)).toNat) [])).append [C.str t]).append (List.drop (0+1+1) (ns.getD (0+(aAt (nds (List.take ns.length ns)) (aB4 (ens (List.take es.length es)) nm)).toNat) [])))).getD (0+(aAt (nds (List.take ns.length ns)) (aB4 (ens (List.take es.length es)) nm)).toNat) [])).append [C.int .i64 (↑t.length:Int)]).append (List.drop (0+2+1) ((ns.set (0+(aAt (nds (List.take ns.length ns)) (aB4 (ens (List.take es.length es)) nm)).toNat) (((List.take (0+1) (ns.getD (0+(aAt (nds (List.take ns.length ns)) (aB4 (ens (List.take es.length es)) nm)).toNat) [])).append [C.str t]).append (List.drop (0+1+1) (ns.getD (0+(aAt (nds (List.take ns.length ns)) (aB4 (ens (List.take es.length es)) nm)).toNat) [])))).getD (0+(aAt (nds (List.take ns.length ns)) (aB4 (ens (List.take es.length es)) nm)).toNat) [])))),C.sl es,C.sl os,C.sl ss,C.int .i64 r,C.int .i64 x])))))))))) (.must (decide (ns.length=ns.length)&&(false||ns.all fun r=>r.all C.flat)&&(decide (es.length=es.length)&&(false||es.all fun r=>r.all C.flat)&&(decide (os.length=os.length)&&(false||os.all fun r=>r.all C.flat)&&(decide (ss.length=ss.length)&&(false||ss.all fun r=>r.all C.flat)&&(true&&(false||true)&&(true&&(false||true)&&true)))))&&true&&true) (.ret [C.sl ns,C.sl es,C.sl os,C.sl ss,C.int .i64 r,C.int .i64 x])))) (.must (decide (ns.length=ns.length)&&(false||ns.all fun r=>r.all C.flat)&&(decide (es.length=es.length)&&(false||es.all fun r=>r.all C.flat)&&(decide (os.length=os.length)&&(false||os.all fun r=>r.all C.flat)&&(decide (ss.length=ss.length)&&(false||ss.all fun r=>r.all C.flat)&&(true&&(false||true)&&(true&&(false||true)&&true)))))&&true&&true) (.ret [C.sl ns,C.sl es,C.sl os,C.sl ss,C.int .i64 r,C.int .i64 x])))))):T (List C)).eval:=aAh (by kernel_rfl)
theorem bF7 (ns es:List (List C)) (nm:List UInt8):aB1 (nds ns) (ens es) nm=if aGn (ens es) nm then aAt (nds ns) (aB4 (ens es) nm)else -1:=by
 unfold aB1 aGn
 by_cases c:aA4 (ens es) nm<0
 ·rw[if_pos c,decide_eq_false (by omega)];rfl
 ·rw[if_neg c,decide_eq_true (by omega)];rfl
theorem bLl {ns es os ss:List (List C)} (hd:aQk ns es os ss=true):aZ4 ns es=true:=by
 obtain⟨d1,d2,_⟩:=aEa.1 hd
 have a:=cA7 d1
 have b:=cAr d2
 simp only[Bool.and_eq_true]at a b
 unfold aZ4
 rw[a.1,b.1]
 show (true&&aAf kNd ns&&aAf kEn es)=true
 have a2:aAf kNd ns=true:=a.2
 have b2:aAf kEn es=true:=b.2
 rw[a2,b2];rfl
theorem bWc (l:List Nd) (k:Nat) (hk:k<l.length) (t:List UInt8) (n:Int) :
  ((l.map eNd).set k (((List.take 1 ((l.map eNd).getD k [])).append [C.str t]).append (List.drop 2 ((l.map eNd).getD k [])))).set k
   (((List.take 2 (((l.map eNd).set k (((List.take 1 ((l.map eNd).getD k [])).append [C.str t]).append (List.drop 2 ((l.map eNd).getD k [])))).getD k [])).append [C.int .i64 n]).append
    (List.drop 3 (((l.map eNd).set k (((List.take 1 ((l.map eNd).getD k [])).append [C.str t]).append (List.drop 2 ((l.map eNd).getD k [])))).getD k []))) =
   (l.set k ⟨(l.getD k ⟨0,[],0⟩).id,t,n⟩).map eNd:=by
 rw[aAx eNd l ⟨0,[],0⟩ k hk]
 generalize l.getD k ⟨0,[],0⟩=y
 have e1:((List.take 1 (eNd y)).append [C.str t]).append (List.drop 2 (eNd y))=eNd ⟨y.id,t,y.sure⟩:=rfl
 rw[e1,aM9,aAx eNd (l.set k ⟨y.id,t,y.sure⟩) ⟨0,[],0⟩ k (by rw[List.length_set];exact hk),aJi _ _ _ _ hk]
 have e2:((List.take 2 (eNd ⟨y.id,t,y.sure⟩)).append [C.int .i64 n]).append (List.drop 3 (eNd ⟨y.id,t,y.sure⟩))=eNd ⟨y.id,t,n⟩:=rfl
 rw[e2,aM9,List.set_set]
theorem bYr:aA8 Tryz.prog bTc:=aA6 (by simp[aPg,aVp,bCb,bK4])
theorem aVo:aAs Tryz.prog 10 (sg [aAy,pS,pS] [aKa]) aRq:=aA5 bYr aA9 Tryz.func10 (by kernel_rfl) fun cs outs hk h=>by
 unfold aRq at h
 split at h
 ·simp only[Option.some.injEq,Prod.mk.injEq,Bool.and_eq_true,decide_eq_true_eq]at h
  obtain⟨⟨hd,hm⟩,rfl⟩:=h
  rename_i ns es os ss r x nm t
  obtain⟨d1,d2,d3⟩:=aEa.1 hd
  obtain⟨l,rfl,e,hl,ht⟩:=aI3 d1
  obtain⟨n3,e2,o2,s1,nf,ef,of',sf⟩:=aMi hd
  have tl:t.length≤16777216:=hm
  have ne:=bLl hd
  have ix:=bF7 (l.map eNd) es nm
  rw[aAb,bOf]
  unfold wtN cBj cBm ndK
  rw[ix]
  cases c1:aK7 (l.map eNd) es os ss r x
  ·simp only[aA0,aA2,aA1,decide_true,Bool.and_self,Bool.and_true,Bool.true_and,Bool.or_true,Bool.false_or,if_true,Nat.reduceLT,hd,ne,n3,e2,o2,s1,nf,ef,of',sf,c1,Bool.false_and,Bool.false_eq_true,if_false]
  ·cases c2:aGn (ens es) nm
   ·simp only[aA0,aA2,aA1,decide_true,Bool.and_self,Bool.and_true,Bool.true_and,Bool.or_true,Bool.false_or,if_true,Nat.reduceLT,hd,ne,n3,e2,o2,s1,nf,ef,of',sf,c1,c2,Bool.false_and,Bool.and_false,Bool.false_eq_true,if_false,show ((-1:Int)<0)=True from by decide]
   ·obtain⟨k1,k2⟩:=bWn hd c1 c2
    obtain⟨_,_,f3,_,f5,_⟩:=aLh hd c1
    rw[aGj]at k1 k2 f5
    rw[List.length_map]at k2
    obtain⟨k,hk⟩:=Int.eq_ofNat_of_zero_le k1
    have hkl:k<l.length:=by omega
    have g:=aAx eNd l ⟨0,[],0⟩ k hkl
    have un:=bDj hkl
    have tx:=ht _ (aJj (d:=⟨0,[],0⟩) hkl)
    have st:=bWc l k hkl t t.length
    have ms:(l.map eNd).set k (eNd (bPi (l.getD k ⟨0,[],0⟩) t))=(l.set k ⟨(l.getD k ⟨0,[],0⟩).id,t,t.length⟩).map eNd:=aM9 l k _
    have w:IntKind.i64.wrap (IntKind.i64.wrap (Int.ofNat (aCn l)-((l.getD k ⟨0,[],0⟩).text.length:Int))+(t.length:Int))=(aCn l:Int)-(l.getD k ⟨0,[],0⟩).text.length+t.length:=by
     show IntKind.i64.wrap (IntKind.i64.wrap ((aCn l:Int)-((l.getD k ⟨0,[],0⟩).text.length:Int))+(t.length:Int))=_
     have w1:IntKind.i64.wrap ((aCn l:Int)-((l.getD k ⟨0,[],0⟩).text.length:Int))=(aCn l:Int)-((l.getD k ⟨0,[],0⟩).text.length:Int):=by rw[aAg]<;>omega
     rw[w1,aAg]<;>omega
    have m0:¬((k:Int)<0):=by omega
    have m1:(0:Int)≤k:=by omega
    have m2:(k:Int)<l.length:=by omega
    simp only[Nat.zero_add,Nat.reduceAdd,aGj,hk,if_true,Int.toNat_natCast,List.length_map]at st ⊢
    rw[st]
    simp only[aA0,aA2,aA1,decide_true,Bool.and_self,Bool.and_true,Bool.true_and,Bool.or_true,Bool.false_or,if_true,Nat.reduceLT,hd,ne,n3,e2,o2,s1,nf,ef,of',sf,c1,d1,m0,m1,m2,hkl,g,List.length_set,List.length_map,aMg,List.getD_cons_succ,List.getD_cons_zero,C.toStr,C.is,List.length_cons,List.length_nil,Nat.reduceAdd,decide_eq_true_eq,if_false,w,ms,Bool.false_eq_true]
    by_cases c3:r<(aCn l:Int)-(l.getD k ⟨0,[],0⟩).text.length+t.length
    ·have c4:¬((aCn l:Int)-(l.getD k ⟨0,[],0⟩).text.length+t.length≤r):=by omega
     simp only[c3,c4,if_true,if_false,decide_false,Bool.false_eq_true]
    ·have c4:(aCn l:Int)-(l.getD k ⟨0,[],0⟩).text.length+t.length≤r:=by omega
     simp only[c3,c4,if_true,if_false,decide_true]
 ·cases h
theorem bXp:aA8 Tryz.prog bT7:=aA6 (by simp[aLg,aJ9,aKs,aUk,bB1,bIf])
theorem aUj:aAs Tryz.prog 8 (sg [aAy,pS,pS] [aKa]) aRq:=aA5 bXp aA9 Tryz.func8 (by kernel_rfl) fun cs outs hk h=>by
 unfold aRq at h
 split at h
 ·simp only[Option.some.injEq,Prod.mk.injEq,Bool.and_eq_true,decide_eq_true_eq]at h
  obtain⟨⟨hd,hm⟩,rfl⟩:=h
  rename_i ns es os ss r x nm t
  obtain⟨d1,d2,d3⟩:=aEa.1 hd
  obtain⟨l,rfl,e,hl,ht⟩:=aI3 d1
  obtain⟨n3,e2,o2,s1,nf,ef,of',sf⟩:=aMi hd
  have tl:t.length≤16777216:=hm
  have ne:=bLl hd
  have ix:=bF7 (l.map eNd) es nm
  have big:=cAr d2
  have big2:=cA7 d1
  rw[List.length_map]at big2
  have hn:aW8 (nds (l.map eNd)) (ens es) nm=decide (0≤if aGn (ens es) nm then aAt (nds (l.map eNd)) (aB4 (ens es) nm)else -1):=by unfold aW8;rw[ix]
  have tx0:∀ k,aB1 (nds (l.map eNd)) (ens es) nm=((k:Nat):Int)→aGb (nds (l.map eNd)) (ens es) nm=(l.getD k ⟨0,[],0⟩).text:=fun k hk=>by unfold aGb bYc;rw[hk,if_neg (by omega),Int.toNat_natCast,aGj]
  rw[aAb,bN0]
  unfold wtN cBj cBm ndK
  simp only[List.take_length]
  rw[hn]
  rw[ix]at tx0
  cases c1:aK7 (l.map eNd) es os ss r x
  ·cases c5:decide (0≤if aGn (ens es) nm then aAt (nds (l.map eNd)) (aB4 (ens es) nm)else -1)<;>simp only[aA0,aA2,aA1,decide_true,Bool.and_self,Bool.and_true,Bool.true_and,Bool.or_true,Bool.false_or,if_true,Nat.reduceLT,hd,ne,n3,e2,o2,s1,nf,ef,of',sf,c1,Bool.false_and,Bool.false_eq_true,if_false]
  ·cases c2:aGn (ens es) nm
   ·simp only[aA0,aA2,aA1,decide_true,Bool.and_self,Bool.and_true,Bool.true_and,Bool.or_true,Bool.false_or,if_true,Nat.reduceLT,hd,ne,n3,e2,o2,s1,nf,ef,of',sf,c1,c2,Bool.false_and,Bool.and_false,Bool.false_eq_true,if_false,show decide ((0:Int)≤ -1)=false from by decide]
   ·obtain⟨k1,k2⟩:=bWn hd c1 c2
    obtain⟨_,_,f3,_,f5,_⟩:=aLh hd c1
    rw[aGj]at k1 k2 f5
    rw[List.length_map]at k2
    obtain⟨k,hk⟩:=Int.eq_ofNat_of_zero_le k1
    have hkl:k<l.length:=by omega
    have un:=bDj hkl
    have tx:=ht _ (aJj (d:=⟨0,[],0⟩) hkl)
    have st:=bWc l k hkl t t.length
    have ms:(l.map eNd).set k (eNd (bPi (l.getD k ⟨0,[],0⟩) t))=(l.set k ⟨(l.getD k ⟨0,[],0⟩).id,t,t.length⟩).map eNd:=aM9 l k _
    have ntx:=tx0 k (by rw[c2,if_pos rfl,aGj,hk])
    have w1:IntKind.i64.wrap (r-Int.ofNat (aCn l))=r-aCn l:=by
     show IntKind.i64.wrap (r-(aCn l:Int))=_
     rw[aAg]<;>omega
    have w2:IntKind.i64.wrap ((t.length:Int)-((l.getD k ⟨0,[],0⟩).text.length:Int))=(t.length:Int)-(l.getD k ⟨0,[],0⟩).text.length:=by rw[aAg]<;>omega
    have m0:decide ((0:Int)≤(k:Int))=true:=decide_eq_true (by omega)
    have m2:(k:Int)<l.length:=by omega
    have tkl:List.take l.length (l.map eNd)=l.map eNd:=by rw[List.take_of_length_le];simp
    rw[aGj]at ntx
    simp only[Nat.zero_add,Nat.reduceAdd,aGj,hk,if_true,Int.toNat_natCast,List.length_map,tkl]at st ⊢
    rw[st]
    simp only[aA0,aA2,aA1,decide_true,Bool.and_self,Bool.and_true,Bool.true_and,Bool.or_true,Bool.false_or,if_true,Nat.reduceLT,hd,ne,n3,e2,o2,s1,nf,ef,of',sf,c1,d1,m0,m2,hkl,big,big2,ntx,List.length_set,List.length_map,aMg,decide_eq_true_eq,if_false,w1,w2,ms,Bool.false_eq_true]
    by_cases c3:r-(aCn l:Int)<(t.length:Int)-(l.getD k ⟨0,[],0⟩).text.length
    ·have c4:¬((aCn l:Int)-(l.getD k ⟨0,[],0⟩).text.length+t.length≤r):=by omega
     simp only[c3,c4,if_true,if_false,decide_false,Bool.false_eq_true]
    ·have c4:(aCn l:Int)-(l.getD k ⟨0,[],0⟩).text.length+t.length≤r:=by omega
     simp only[c3,c4,if_true,if_false,decide_true]
 ·cases h
noncomputable section
def bHp:Spec:=fun cs=>match cs with
 |[.sl ns,.sl es,.sl os,.sl ss,.int .i64 _,.int .i64 _,.str _,.str _]=>some (aJg ns es os ss,[.bool true])
 |_=>none
def bTa:Env:=mkE [] [(7,(sg [aK1,pI] [rI]),aLy),(9,(sg [aK1] [aKa]),aLv),(11,(sg [aAy,aAy] [rB]),aMh),(12,(sg [bLi,pI] [rI]),aPj),(13,(sg [aAy,pI] [rI]),aW6),(10,(sg [aAy,pS,pS] [aKa]),aRq),(8,(sg [aAy,pS,pS] [aKa]),aRq)]
end
theorem bO4 (H:List Pt→Nat→St→T (List C)) (ns:List (List C)) (es:List (List C)) (os:List (List C)) (ss:List (List C)) (r:Int) (x:Int) (nm:List UInt8) (t:List UInt8):(aAi bTa aAa (sg [aK1,pS,pS] [rB]) Tryz.f3 H [C.sl ns,C.sl es,C.sl os,C.sl ss,C.int .i64 r,C.int .i64 x,C.str nm,C.str t]).eval=((.ask (decide ((1048576:Int)<(↑nm.length:Int))) (.ret [C.bool true]) (.ask (decide ((1048576:Int)<(↑t.length:Int))) (.ret [C.bool true]) (.must (decide ((0:Int)≤(1048576:Int))&&decide ((1048576:Int)≤(1048576:Int))&&(aBd 281474976710656 ns es os ss&&aBa ns es os ss&&aF8 ns es os ss)) (.ask (decide (aNn (nds ns) (ens es) (ens os) (aDa ss) 1048576<(0:Int))) (.ret [C.bool true]) (.must (aBd 1048576 ns es os ss&&aBa ns es os ss) (.must ((true&&ns.all fun row=>decide (row.length=3))&&((true&&es.all fun row=>decide (row.length=2))&&((true&&os.all fun row=>decide (row.length=2))&&((true&&ss.all fun row=>decide (row.length=1))&&(decide (0<1)&&true&&(decide (0<1)&&true&&true)))))&&true&&true) (.must (aQk (List.take ns.length ns) (List.take es.length es) (List.take os.length os) (List.take ss.length ss)&&decide (t.length≤16777216)) (.must ((true&&(wtN (List.take ns.length ns) (List.take es.length es) (List.take os.length os) (List.take ss.length ss) r x nm t).all fun row=>decide (row.length=3))&&((true&&(List.take es.length es).all fun row=>decide (row.length=2))&&((true&&(List.take os.length os).all fun row=>decide (row.length=2))&&((true&&(List.take ss.length ss).all fun row=>decide (row.length=1))&&(decide (0<1)&&true&&(decide (0<1)&&true&&true)))))&&true&&true) (.must (aBd 1048576 ns es os ss&&aBa ns es os ss) (.must ((true&&ns.all fun row=>decide (row.length=3))&&((true&&es.all fun row=>decide (row.length=2))&&((true&&os.all fun row=>decide (row.length=2))&&((true&&ss.all fun row=>decide (row.length=1))&&(decide (0<1)&&true&&(decide (0<1)&&true&&true)))))&&true&&true) (.must (aQk (List.take ns.length ns) (List.take es.length es) (List.take os.length os) (List.take ss.length ss)&&decide (t.length≤16777216)) (.must ((true&&(wtN (List.take ns.length ns) (List.take es.length es) (List.take os.length os) (List.take ss.length ss) r x nm t).all fun row=>decide (row.length=3))&&((true&&(List.take es.length es).all fun row=>decide (row.length=2))&&((true&&(List.take os.length os).all fun row=>decide (row.length=2))&&((true&&(List.take ss.length ss).all fun row=>decide (row.length=1))&&(decide (0<1)&&true&&(decide (0<1)&&true&&true)))))&&true&&true) (.must (aBd 1048576 (List.take (wtN (List.take ns.length ns) (List.take es.length es) (List.take os.length os) (List.take ss.length ss) r x nm t).length (wtN (List.take ns.length ns) (List.take es.length es) (List.take os.length os) (List.take ss.length ss) r x nm t)) (List.take (List.take es.length es).length (List.take es.length es)) (List.take (List.take os.length os).length (List.take os.length os)) (List.take (List.take ss.length ss).length (List.take ss.length ss))&&aBa (List.take (wtN (List.take ns.length ns) (List.take es.length es) (List.take os.length os) (List.take ss.length ss) r x nm t).length (wtN (List.take ns.length ns) (List.take es.length es) (List.take os.length os) (List.take ss.length ss) r x nm t)) (List.take (List.take es.length es).length (List.take es.length es)) (List.take (List.take os.length os).length (List.take os.length os)) (List.take (List.take ss.length ss).length (List.take ss.length ss))&&aBa (List.take (wtN (List.take ns.length ns) (List.take es.length es) (List.take os.length os) (List.take ss.length ss) r x nm t).length (wtN (List.take ns.length ns) (List.take es.length es) (List.take os.length os) (List.take ss.length ss) r x nm t)) (List.take (List.take es.length es).length (List.take es.length es)) (List.take (List.take os.length os).length (List.take os.length os)) (List.take (List.take ss.length ss).length (List.take ss.length ss))) (.ask (bVq (List.take (wtN (List.take ns.length ns) (List.take es.length es) (List.take os.length os) (List.take ss.length ss) r x nm t).length (wtN (List.take ns.length ns) (List.take es.length es) (List.take os.length os) (List.take ss.length ss) r x nm t)) (List.take (List.take es.length es).length (List.take es.length es)) (List.take (List.take os.length os).length (List.take os.length os)) (List.take (List.take ss.length ss).length (List.take ss.length ss)) r x (List.take (wtN (List.take ns.length ns) (List.take es.length es) (List.take os.length os) (List.take ss.length ss) r x nm t).length (wtN (List.take ns.length ns) (List.take es.length es) (List.take os.length os) (List.take ss.length ss) r x nm t)) (List.take (List.take es.length es).length (List.take es.length es)) (List.take (List.take os.length os).length (List.take os.length os)) (List.take (List.take ss.length ss).length (List.take ss.length ss)) r x) (.must (aBd 1048576 ns es os ss&&aBa ns es os ss) (.must ((true&&ns.all fun row=>decide (row.length=3))&&((true&&es.all fun row=>decide (row.length=2))&&((true&&os.all fun row=>decide (row.length=2))&&((true&&ss.all fun row=>decide (row.length=1))&&(decide (0<1)&&true&&(decide (0<1)&&true&&true)))))&&true&&true) (.must (aBd 1048576 (List.take ns.length ns) (List.take es.length es) (List.take os.length os) (List.take ss.length ss)&&aBa (List.take ns.length ns) (List.take es.length es) (List.take os.length os) (List.take ss.length ss)&&aBa (List.take ns.length ns) (List.take es.length es) (List.take os.length os) (List.take ss.length ss)) (.ask (bVq (List.take ns.length ns) (List.take es.length es) (List.take os.length os) (List.take ss.length ss) r x (List.take ns.length ns) (List.take es.length es) (List.take os.length os) (List.take ss.length ss) r x) (.must (true&&(true&&(true&&(true&&(true&&(true&&(true&&true))))))&&(decide (ns.length=ns.length)&&(decide (es.length=es.length)&&(decide (os.length=os.length)&&(decide (ss.length=ss.length)&&true)))&&true)) (.must (aBa ns es os ss&&(aBd 1048576 ns es os ss&&(decide ((0:Int)≤(1:Int))&&decide ((1:Int)≤(1073741824:Int))))) (.must (decide (0<1)&&true&&true&&true&&((decide ((mk mkN 3 1 ns.length).length=ns.length)&&(mk mkN 3 1 ns.length).all fun row=>decide (row.length=3))&&((decide ((mk aFa 2 ((1:Int)+(3:Int)*(↑ns.length:Int)) es.length).length=es.length)&&(mk aFa 2 ((1:Int)+(3:Int)*(↑ns.length:Int)) es.length).all fun row=>decide (row.length=2))&&((decide ((mk aFa 2 ((1:Int)+(3:Int)*(↑ns.length:Int)+(2:Int)*(↑es.length:Int)) os.length).length=os.length)&&(mk aFa 2 ((1:Int)+(3:Int)*(↑ns.length:Int)+(2:Int)*(↑es.length:Int)) os.length).all fun row=>decide (row.length=2))&&((decide ((mk mkS 1 ((1:Int)+(3:Int)*(↑ns.length:Int)+(2:Int)*(↑es.length:Int)+(2:Int)*(↑os.length:Int)) ss.length).length=ss.length)&&(mk mkS 1 ((1:Int)+(3:Int)*(↑ns.length:Int)+(2:Int)*(↑es.length:Int)+(2:Int)*(↑os.length:Int)) ss.length).all fun row=>decide (row.length=1))&&true)))&&true)) (.must (aBd 1048576 (List.take (wtN (List.take ns.length ns) (List.take es.length es) (List.take os.length os) (List.take ss.length ss) r x nm t).length (wtN (List.take ns.length ns) (List.take es.length es) (List.take os.length os) (List.take ss.length ss) r x nm t)) (List.take (List.take es.length es).length (List.take es.length es)) (List.take (List.take os.length os).length (List.take os.length os)) (List.take (List.take ss.length ss).length (List.take ss.length ss))&&aBa (List.take (wtN (List.take ns.length ns) (List.take es.length es) (List.take os.length os) (List.take ss.length ss) r x nm t).length (wtN (List.take ns.length ns) (List.take es.length es) (List.take os.length os) (List.take ss.length ss) r x nm t)) (List.take (List.take es.length es).length (List.take es.length es)) (List.take (List.take os.length os).length (List.take os.length os)) (List.take (List.take ss.length ss).length (List.take ss.length ss))&&aBa (List.take (wtN (List.take ns.length ns) (List.take es.length es) (List.take os.length os) (List.take ss.length ss) r x nm t).length (wtN (List.take ns.length ns) (List.take es.length es) (List.take os.length os) (List.take ss.length ss) r x nm t)) (List.take (List.take es.length es).length (List.take es.length es)) (List.take (List.take os.length os).length (List.take os.length os)) (List.take (List.take ss.length ss).length (List.take ss.length ss))) (.ask (bVq (List.take (wtN (List.take ns.length ns) (List.take es.length es) (List.take os.length os) (List.take ss.length ss) r x nm t).length (wtN (List.take ns.length ns) (List.take es.length es) (List.take os.length os) (List.take ss.length ss) r x nm t)) (List.take (List.take es.length es).length (List.take es.length es)) (List.take (List.take os.length os).length (List.take os.length os)) (List.take (List.take ss.length ss).length (List.take ss.length ss)) r x (List.take (wtN (List.take ns.length ns) (List.take es.length es) (List.take os.length os) (List.take ss.length ss) r x nm t).length (wtN (List.take ns.length ns) (List.take es.length es) (List.take os.length os) (List.take ss.length ss) r x nm t)) (List.take (List.take es.length es).length (List.take es.length es)) (List.take (List.take os.length os).length (List.take os.length os)) (List.take (List.take ss.length ss).length (List.take ss.length ss)) r x) (.must (true&&(true&&(true&&(true&&(true&&(true&&(true&&true))))))&&(decide ((wtN (List.take ns.length ns) (List.take es.length es) (List.take os.length os) (List.take ss.length ss) r x nm t).length=(wtN (List.take ns.length ns) (List.take es.length es) (List.take os.length os) (List.take ss.length ss) r x nm t).length)&&(decide ((List.take es.length es).length=(List.take es.length es).length)&&(decide ((List.take os.length os).length=(List.take os.length os).length)&&(decide ((List.take ss.length ss).length=(List.take ss.length ss).length)&&true)))&&true)) (.must (aBa (wtN (List.take ns.length ns) (List.take es.length es) (List.take os.length os) (List.take ss.length ss) r x nm t) (List.take es.length es) (List.take os.length os) (List.take ss.length ss)&&(aBd 1048576 (wtN (List.take ns.length ns) (List.take es.length es) (List.take os.length os) (List.take ss.length ss) r x nm t) (List.take es.length es) (List.take os.length os) (List.take ss.length ss)&&(decide ((0:Int)≤(1:Int))&&decide ((1:Int)≤(1073741824:Int))))) (.must (decide (0<1)&&true&&true&&true&&((decide ((mk mkN 3 1 (wtN (List.take ns.length ns) (List.take es.length es) (List.take os.length os) (List.take ss.length ss) r x nm t).length).length=(wtN (List.take ns.length ns) (List.take es.length es) (List.take os.length os) (List.take ss.length ss) r x nm t).length)&&(mk mkN 3 1 (wtN (List.take ns.length ns) (List.take es.length es) (List.take os.length os) (List.take ss.length ss) r x nm t).length).all fun row=>decide (row.length=3))&&((decide ((mk aFa 2 ((1:Int)+(3:Int)*(↑(wtN (List.take ns.length ns) (List.take es.length es) (List.take os.length os) (List.take ss.length ss) r x nm t).length:Int)) (List.take es.length es).length).length=(List.take es.length es).length)&&(mk aFa 2 ((1:Int)+(3:Int)*(↑(wtN (List.take ns.length ns) (List.take es.length es) (List.take os.length os) (List.take ss.length ss) r x nm t).length:Int)) (List.take es.length es).length).all fun row=>decide (row.length=2))&&((decide ((mk aFa 2 ((1:Int)+(3:Int)*(↑(wtN (List.take ns.length ns) (List.take es.length es) (List.take os.length os) (List.take ss.length ss) r x nm t).length:Int)+(2:Int)*(↑(List.take es.length es).length:Int)) (List.take os.length os).length).length=(List.take os.length os).length)&&(mk aFa 2 ((1:Int)+(3:Int)*(↑(wtN (List.take ns.length ns) (List.take es.length es) (List.take os.length os) (List.take ss.length ss) r x nm t).length:Int)+(2:Int)*(↑(List.take es.length es).length:Int)) (List.take os.length os).length).all fun row=>decide (row.length=2))&&((decide ((mk mkS 1 ((1:Int)+(3:Int)*(↑(wtN (List.take ns.length ns) (List.take es.length es) (List.take os.length os) (List.take ss.length ss) r x nm t).length:Int)+(2:Int)*(↑(List.take es.length es).length:Int)+(2:Int)*(↑(List.take os.length os).length:Int)) (List.take ss.length ss).length).length=(List.take ss.length ss).length)&&(mk mkS 1 ((1:Int)+(3:Int)*(↑(wtN (List.take ns.length ns) (List.take es.length es) (List.take os.length os) (List.take ss.length ss) r x nm t).length:Int)+(2:Int)*(↑(List.take es.length es).length:Int)+(2:Int)*(↑(List.take os.length os).length:Int)) (List.take ss.length ss).length).all fun row=>decide (row.length=1))&&true)))&&true)) (.must (bOu (List.take (wtN (List.take ns.length ns) (List.take es.length es) (List.take os.length os) (List.take ss.length ss) r x nm t).length (mk mkN 3 1 (wtN (List.take ns.length ns) (List.take es.length es) (List.take os.length os) (List.take ss.length ss) r x nm t).length)) (List.take (List.take es.length es).length (mk aFa 2 ((1:Int)+(3:Int)*(↑(wtN (List.take ns.length ns) (List.take es.length es) (List.take os.length os) (List.take ss.length ss) r x nm t).length:Int)) (List.take es.length es).length)) (List.take (List.take os.length os).length (mk aFa 2 ((1:Int)+(3:Int)*(↑(wtN (List.take ns.length ns) (List.take es.length es) (List.take os.length os) (List.take ss.length ss) r x nm t).length:Int)+(2:Int)*(↑(List.take es.length es).length:Int)) (List.take os.length os).length)) (List.take (List.take ss.length ss).length (mk mkS 1 ((1:Int)+(3:Int)*(↑(wtN (List.take ns.length ns) (List.take es.length es) (List.take os.length os) (List.take ss.length ss) r x nm t).length:Int)+(2:Int)*(↑(List.take es.length es).length:Int)+(2:Int)*(↑(List.take os.length os).length:Int)) (List.take ss.length ss).length)) (1:Int)&&(aBd 1048576 (List.take (wtN (List.take ns.length ns) (List.take es.length es) (List.take os.length os) (List.take ss.length ss) r x nm t).length (mk mkN 3 1 (wtN (List.take ns.length ns) (List.take es.length es) (List.take os.length os) (List.take ss.length ss) r x nm t).length)) (List.take (List.take es.length es).length (mk aFa 2 ((1:Int)+(3:Int)*(↑(wtN (List.take ns.length ns) (List.take es.length es) (List.take os.length os) (List.take ss.length ss) r x nm t).length:Int)) (List.take es.length es).length)) (List.take (List.take os.length os).length (mk aFa 2 ((1:Int)+(3:Int)*(↑(wtN (List.take ns.length ns) (List.take es.length es) (List.take os.length os) (List.take ss.length ss) r x nm t).length:Int)+(2:Int)*(↑(List.take es.length es).length:Int)) (List.take os.length os).length)) (List.take (List.take ss.length ss).length (mk mkS 1 ((1:Int)+(3:Int)*(↑(wtN (List.take ns.length ns) (List.take es.length es) (List.take os.length os) (List.take ss.length ss) r x nm t).length:Int)+(2:Int)*(↑(List.take es.length es).length:Int)+(2:Int)*(↑(List.take os.length os).length:Int)) (List.take ss.length ss).length))&&(decide ((0:Int)≤(1:Int))&&decide ((1:Int)≤(1073741824:Int))))) (.ask (bGp 1 (List.take (wtN (List.take ns.length ns) (List.take es.length es) (List.take os.length os) (List.take ss.length ss) r x nm t).length (mk mkN 3 1 (wtN (List.take ns.length ns) (List.take es.length es) (List.take os.length os) (List.take ss.length ss) r x nm t).length)).length (List.take (List.take es.length es).length (mk aFa 2 ((1:Int)+(3:Int)*(↑(wtN (List.take ns.length ns) (List.take es.length es) (List.take os.length os) (List.take ss.length ss) r x nm t).length:Int)) (List.take es.length es).length)).length (List.take (List.take os.length os).length (mk aFa 2 ((1:Int)+(3:Int)*(↑(wtN (List.take ns.length ns) (List.take es.length es) (List.take os.length os) (List.take ss.length ss) r x nm t).length:Int)+(2:Int)*(↑(List.take es.length es).length:Int)) (List.take os.length os).length)).length (List.take (List.take ss.length ss).length (mk mkS 1 ((1:Int)+(3:Int)*(↑(wtN (List.take ns.length ns) (List.take es.length es) (List.take os.length os) (List.take ss.length ss) r x nm t).length:Int)+(2:Int)*(↑(List.take es.length es).length:Int)+(2:Int)*(↑(List.take os.length os).length:Int)) (List.take ss.length ss).length)).length != bGp 1 (wtN (List.take ns.length ns) (List.take es.length es) (List.take os.length os) (List.take ss.length ss) r x nm t).length (List.take es.length es).length (List.take os.length os).length (List.take ss.length ss).length) (.ret [C.bool false]) (.must (aBd 1048576 ns es os ss&&aBa ns es os ss) (.must ((true&&ns.all fun row=>decide (row.length=3))&&((true&&es.all fun row=>decide (row.length=2))&&((true&&os.all fun row=>decide (row.length=2))&&((true&&ss.all fun row=>decide (row.length=1))&&(decide (0<1)&&true&&(decide (0<1)&&true&&true)))))&&true&&true) (.must (aQk (List.take ns.length ns) (List.take es.length es) (List.take os.length os) (List.take ss.length ss)&&decide (t.length≤16777216)) (.must ((true&&(wtN (List.take ns.length ns) (List.take es.length es) (List.take os.length os) (List.take ss.length ss) r x nm t).all fun row=>decide (row.length=3))&&((true&&(List.take es.length es).all fun row=>decide (row.length=2))&&((true&&(List.take os.length os).all fun row=>decide (row.length=2))&&((true&&(List.take ss.length ss).all fun row=>decide (row.length=1))&&(decide (0<1)&&true&&(decide (0<1)&&true&&true)))))&&true&&true) (.must (aBd 1048576 (List.take (wtN (List.take ns.length ns) (List.take es.length es) (List.take os.length os) (List.take ss.length ss) r x nm t).length (wtN (List.take ns.length ns) (List.take es.length es) (List.take os.length os) (List.take ss.length ss) r x nm t)) (List.take (List.take es.length es).length (List.take es.length es)) (List.take (List.take os.length os).length (List.take os.length os)) (List.take (List.take ss.length ss).length (List.take ss.length ss))&&aBa (List.take (wtN (List.take ns.length ns) (List.take es.length es) (List.take os.length os) (List.take ss.length ss) r x nm t).length (wtN (List.take ns.length ns) (List.take es.length es) (List.take os.length os) (List.take ss.length ss) r x nm t)) (List.take (List.take es.length es).length (List.take es.length es)) (List.take (List.take os.length os).length (List.take os.length os)) (List.take (List.take ss.length ss).length (List.take ss.length ss))&&aBa (List.take (wtN (List.take ns.length ns) (List.take es.length es) (List.take os.length os) (List.take ss.length ss) r x nm t).length (wtN (List.take ns.length ns) (List.take es.length es) (List.take os.length os) (List.take ss.length ss) r x nm t)) (List.take (List.take es.length es).length (List.take es.length es)) (List.take (List.take os.length os).length (List.take os.length os)) (List.take (List.take ss.length ss).length (List.take ss.length ss))) (.ask (bVq (List.take (wtN (List.take ns.length ns) (List.take es.length es) (List.take os.length os) (List.take ss.length ss) r x nm t).length (wtN (List.take ns.length ns) (List.take es.length es) (List.take os.length os) (List.take ss.length ss) r x nm t)) (List.take (List.take es.length es).length (List.take es.length es)) (List.take (List.take os.length os).length (List.take os.length os)) (List.take (List.take ss.length ss).length (List.take ss.length ss)) r x (List.take (wtN (List.take ns.length ns) (List.take es.length es) (List.take os.length os) (List.take ss.length ss) r x nm t).length (wtN (List.take ns.length ns) (List.take es.length es) (List.take os.length os) (List.take ss.length ss) r x nm t)) (List.take (List.take es.length es).length (List.take es.length es)) (List.take (List.take os.length os).length (List.take os.length os)) (List.take (List.take ss.length ss).length (List.take ss.length ss)) r x) (.must (bOu (List.take (wtN (List.take ns.length ns) (List.take es.length es) (List.take os.length os) (List.take ss.length ss) r x nm t).length (mk mkN 3 1 (wtN (List.take ns.length ns) (List.take es.length es) (List.take os.length os) (List.take ss.length ss) r x nm t).length)) (List.take (List.take es.length es).length (mk aFa 2 ((1:Int)+(3:Int)*(↑(wtN (List.take ns.length ns) (List.take es.length es) (List.take os.length os) (List.take ss.length ss) r x nm t).length:Int)) (List.take es.length es).length)) (List.take (List.take os.length os).length (mk aFa 2 ((1:Int)+(3:Int)*(↑(wtN (List.take ns.length ns) (List.take es.length es) (List.take os.length os) (List.take ss.length ss) r x nm t).length:Int)+(2:Int)*(↑(List.take es.length es).length:Int)) (List.take os.length os).length)) (List.take (List.take ss.length ss).length (mk mkS 1 ((1:Int)+(3:Int)*(↑(wtN (List.take ns.length ns) (List.take es.length es) (List.take os.length os) (List.take ss.length ss) r x nm t).length:Int)+(2:Int)*(↑(List.take es.length es).length:Int)+(2:Int)*(↑(List.take os.length os).length:Int)) (List.take ss.length ss).length)) (1:Int)&&(aBd 1048576 (List.take (wtN (List.take ns.length ns) (List.take es.length es) (List.take os.length os) (List.take ss.length ss) r x nm t).length (mk mkN 3 1 (wtN (List.take ns.length ns) (List.take es.length es) (List.take os.length os) (List.take ss.length ss) r x nm t).length)) (List.take (List.take es.length es).length (mk aFa 2 ((1:Int)+(3:Int)*(↑(wtN (List.take ns.length ns) (List.take es.length es) (List.take os.length os) (List.take ss.length ss) r x nm t).length:Int)) (List.take es.length es).length)) (List.take (List.take os.length os).length (mk aFa 2 ((1:Int)+(3:Int)*(↑(wtN (List.take ns.length ns) (List.take es.length es) (List.take os.length os) (List.take ss.length ss) r x nm t).length:Int)+(2:Int)*(↑(List.take es.length es).length:Int)) (List.take os.length os).length)) (List.take (List.take ss.length ss).length (mk mkS 1 ((1:Int)+(3:Int)*(↑(wtN (List.take ns.length ns) (List.take es.length es) (List.take os.length os) (List.take ss.length ss) r x nm t).length:Int)+(2:Int)*(↑(List.take es.length es).length:Int)+(2:Int)*(↑(List.take os.length os).length:Int)) (List.take ss.length ss).length))&&(decide ((0:Int)≤(1:Int))&&decide ((1:Int)≤(1073741824:Int))))) (.ask (bGp 1 (List.take (wtN (List.take ns.length ns) (List.take es.length es) (List.take os.length os) (List.take ss.length ss) r x nm t).length (mk mkN 3 1 (wtN (List.take ns.length ns) (List.take es.length es) (List.take os.length os) (List.take ss.length ss) r x nm t).length)).length (List.take (List.take es.length es).length (mk aFa 2 ((1:Int)+(3:Int)*(↑(wtN (List.take ns.length ns) (List.take es.length es) (List.take os.length os) (List.take ss.length ss) r x nm t).length:Int)) (List.take es.length es).length)).length (List.take (List.take os.length os).length (mk aFa 2 ((1:Int)+(3:Int)*(↑(wtN (List.take ns.length ns) (List.take es.length es) (List.take os.length os) (List.take ss.length ss) r x nm t).length:Int)+(2:Int)*(↑(List.take es.length es).length:Int)) (List.take os.length os).length)).length (List.take (List.take ss.length ss).length (mk mkS 1 ((1:Int)+(3:Int)*(↑(wtN (List.take ns.length ns) (List.take es.length es) (List.take os.length os) (List.take ss.length ss) r x nm t).length:Int)+(2:Int)*(↑(List.take es.length es).length:Int)+(2:Int)*(↑(List.take os.length os).length:Int)) (List.take ss.length ss).length)).length != bGp 1 (wtN (List.take ns.length ns) (List.take es.length es) (List.take os.length os) (List.take ss.length ss) r x nm t).length (List.take es.length es).length (List.take os.length os).length (List.take ss.length ss).length) (.ret [C.bool false]) (.ret [C.bool true]))) (.ret [C.bool false])))))))))))) (.ret [C.bool false])))))) (.ret [C.bool false]))))) (.ret [C.bool false]))))))))))))))):T (List C)).eval:=aAh (by kernel_rfl)
theorem bWb (f:Int→List C) (s k:Int) (n:Nat):List.take n (mk f s k n)=mk f s k n:=by rw[List.take_of_length_le];rw[aDn];exact Nat.le_refl _
theorem cC8 (k:Int) (n:Nat):((mk mkN 3 k n).all fun r=>decide (r.length=3))=true:=aHb _ _ _ _ _ fun k=>rfl
theorem cC9 (k:Int) (n:Nat):((mk aFa 2 k n).all fun r=>decide (r.length=2))=true:=aHb _ _ _ _ _ fun k=>rfl
theorem cC7 (k:Int) (n:Nat):((mk mkS 1 k n).all fun r=>decide (r.length=1))=true:=aHb _ _ _ _ _ fun k=>rfl
theorem bGq {ns es os ss:List (List C)} (hl:aJg ns es os ss=true) (h:¬aNn (nds ns) (ens es) (ens os) (aDa ss) 1048576<0):aQk ns es os ss=true:=by
 obtain⟨_,q2,_,q4,_⟩:=aQt hl h
 obtain⟨k1,k2,k3,k4⟩:=aDh.1 q2
 obtain⟨l1,l2,l3,l4⟩:=aD3.1 q4
 obtain⟨_,_,_,_,a5,a6,a7,a8,_⟩:=aRu _ _ _ _ h
 refine aEa.2 ⟨aFz.2 ⟨k1,by omega,fun x hx=>?_⟩,aGw.2 ⟨k2,by omega,fun x hx=>?_⟩,aJ7.2 ⟨aGw.2 ⟨k3,by omega,fun x hx=>?_⟩,aJ6.2 ⟨k4,by omega,fun x hx=>?_⟩,by omega⟩⟩
 ·have:=a5 x hx;omega
 ·have:=a6 x hx;omega
 ·have:=a7 x hx;omega
 ·have:=a8 x hx;omega
theorem bKw {ns es os ss:List (List C)} (r x:Int) (nm t:List UInt8) (hd:aQk ns es os ss=true) (ht:t.length≤16777216):aRx (wtN ns es os ss r x nm t)=true∧(wtN ns es os ss r x nm t).length=ns.length:=by
 obtain⟨d1,_⟩:=aEa.1 hd
 unfold wtN
 split
 ·obtain⟨l,rfl,e,hl,hlt⟩:=aI3 d1
  rw[aM9]
  exact⟨bZr d1 ht,by simp⟩
 ·exact⟨d1,rfl⟩
theorem bYl:aA8 Tryz.prog bTa:=aA6 (by simp[aP3,aRt,aS7,aS0,bFk,aVo,aUj])
theorem bJ0:aAs Tryz.prog 3 (sg [aK1,pS,pS] [rB]) bHp:=aA5 bYl aA9 Tryz.func3 (by kernel_rfl) fun cs outs hk h=>by
 unfold bHp at h
 split at h
 ·simp only[Option.some.injEq,Prod.mk.injEq]at h
  obtain⟨hl,rfl⟩:=h
  rename_i ns es os ss r x nm t
  rw[aAb,bO4]
  have hl':=hl
  unfold aJg at hl'
  simp only[Bool.and_eq_true]at hl'
  obtain⟨⟨g1,g2⟩,g3⟩:=hl'
  have d0:decide ((0:Int)≤1048576)=true:=by decide
  have d1:decide ((1048576:Int)≤1048576)=true:=by decide
  have d2:decide (0<1)=true:=by decide
  by_cases z1:(1048576:Int)<nm.length
  ·exact aAc (decide_eq_true z1) rfl
  refine aAj (decide_eq_false z1) ?_
  by_cases z2:(1048576:Int)<t.length
  ·exact aAc (decide_eq_true z2) rfl
  refine aAj (decide_eq_false z2) ?_
  have tl:t.length≤16777216:=by omega
  simp only[aA0,aA2,aA1,d0,d1,d2,g1,g2,g3,Bool.and_self,if_true,decide_eq_true_eq]
  by_cases hs:aNn (nds ns) (ens es) (ens os) (aDa ss) 1048576<0
  ·simp only[hs,if_true]
  ·obtain⟨_,_,_,q4,_⟩:=aQt hl hs
   obtain⟨r1,r2,r3,r4⟩:=bGo g2
   have hd:=bGq hl hs
   obtain⟨w1,w2⟩:=bKw r x nm t hd tl
   simp only[hs,if_false,List.take_length]
   generalize wtN ns es os ss r x nm t=W at w1 w2 ⊢
   obtain⟨k1,k2,k3,k4⟩:=aDh.1 g2
   obtain⟨l1,l2,l3,l4⟩:=aD3.1 q4
   have gW:aBa W es os ss=true:=aDh.2 ⟨(aFz.1 w1).1,k2,k3,k4⟩
   have qW:aBd 1048576 W es os ss=true:=aD3.2 ⟨by omega,l2,l3,l4⟩
   have rW:=bLn w1
   have d3:decide ((0:Int)≤1)=true:=by decide
   have d4:decide ((1:Int)≤1073741824)=true:=by decide
   have hm:=bVh 1 W.length es.length os.length ss.length
   have qm:∀ (a b c:Int),aBd 1048576 (mk mkN 3 1 W.length) (mk aFa 2 a es.length) (mk aFa 2 b os.length) (mk mkS 1 c ss.length)=true:=fun a b c=>aD3.2 ⟨by rw[aDn];omega,by rw[aDn];exact l2,by rw[aDn];exact l3,by rw[aDn];exact l4⟩
   simp only[hd,tl,g2,gW,q4,qW,qm,r1,r2,r3,r4,rW,d3,d4,bWb,aDn,cC8,cC9,cC7,hm,bGl,bne_self_eq_false,decide_true,Bool.and_self,Bool.and_true,Bool.true_and,Bool.false_eq_true,if_true,if_false]
 ·cases h
noncomputable section
def bP4 (ns es os ss:List (List C)) (r x base:Int) (t:List UInt8):List (List UInt8):=aD0 (aEh (nds (wtN ns es os ss r x (aB9 base) t)) (ens es))
def aBb (ns es os ss:List (List C)) (r x base:Int) (t:List UInt8):List (List C):=(bP4 ns es os ss r x base t).map aCd
def aZh:Spec:=fun cs=>match cs with
 |[.sl ns,.sl es,.sl os,.sl ss,.int .i64 r,.int .i64 x,.int .i64 base,.str t]=>some (aQk ns es os ss&&(aSx ns es&&decide (t.length≤1048576)),[.sl (aBb ns es os ss r x base t)])
 |_=>none
def bX9:Env:=mkE [] [(70,(sg [pI] [rS]),aKn),(69,(sg [aAy] [rSl 9]),aIc),(10,(sg [aAy,pS,pS] [aKa]),aRq)]
def bX3:Env:=mkE [] [(68,(sg [pI] [rS]),aKn),(67,(sg [aAy] [rSl 9]),aIc),(8,(sg [aAy,pS,pS] [aKa]),aRq)]
def bSs:Spec:=fun cs=>match cs with
 |[.sl ns,.sl es,.sl os,.sl ss,.int .i64 _,.int .i64 _,.int .i64 _,.str _]=>some (aJg ns es os ss,[.bool true])
 |_=>none
def bX7:Env:=mkE [] [(26,(sg [pSl 9,pSl 9] [rB]),aPy),(7,(sg [aK1,pI] [rI]),aLy),(9,(sg [aK1] [aKa]),aLv),(11,(sg [aAy,aAy] [rB]),aMh),(27,(sg [pWS,pI] [rI]),aPi),(28,(sg [pSl 9,pI] [rI]),aPr),(12,(sg [bLi,pI] [rI]),aPj),(25,(sg [aAy,pI,pS] [rSl 9]),aZh),(24,(sg [aAy,pI,pS] [rSl 9]),aZh)]
end
theorem bS4 (H:List Pt→Nat→St→T (List C)) (ns:List (List C)) (es:List (List C)) (os:List (List C)) (ss:List (List C)) (r:Int) (x:Int) (b:Int) (t:List UInt8):(aAi bX9 aAa (sg [aAy,pI,pS] [rSl 9]) Tryz.f25 H [C.sl ns,C.sl es,C.sl os,C.sl ss,C.int .i64 r,C.int .i64 x,C.int .i64 b,C.str t]).eval=((.must (aQk ns es os ss&&decide (t.length≤16777216)) (.must ((true&&(wtN ns es os ss r x (aB9 b) t).all fun row=>decide (row.length=3))&&((true&&es.all fun row=>decide (row.length=2))&&((true&&os.all fun row=>decide (row.length=2))&&((true&&ss.all fun row=>decide (row.length=1))&&(decide (0<1)&&true&&(decide (0<1)&&true&&true)))))&&true&&true) (.must (aSx (List.take (wtN ns es os ss r x (aB9 b) t).length (wtN ns es os ss r x (aB9 b) t)) (List.take es.length es)) (.must ((true&&(List.map aCd (aD0 (aEh (nds (List.take (wtN ns es os ss r x (aB9 b) t).length (wtN ns es os ss r x (aB9 b) t))) (ens (List.take es.length es))))).all fun row=>decide (row.length=1))&&true&&true&&true) (.must (decide ((List.map aCd (aD0 (aEh (nds (List.take (wtN ns es os ss r x (aB9 b) t).length (wtN ns es os ss r x (aB9 b) t))) (ens (List.take es.length es))))).length=(List.map aCd (aD0 (aEh (nds (List.take (wtN ns es os ss r x (aB9 b) t).length (wtN ns es os ss r x (aB9 b) t))) (ens (List.take es.length es))))).length)&&(false||(List.map aCd (aD0 (aEh (nds (List.take (wtN ns es os ss r x (aB9 b) t).length (wtN ns es os ss r x (aB9 b) t))) (ens (List.take es.length es))))).all fun r=>r.all C.flat)&&true&&true&&true) (.ret [C.sl (List.map aCd (aD0 (aEh (nds (List.take (wtN ns es os ss r x (aB9 b) t).length (wtN ns es os ss r x (aB9 b) t))) (ens (List.take es.length es)))))])))))):T (List C)).eval:=aAh (by kernel_rfl)
theorem bQf (H:List Pt→Nat→St→T (List C)) (ns:List (List C)) (es:List (List C)) (os:List (List C)) (ss:List (List C)) (r:Int) (x:Int) (b:Int) (t:List UInt8):(aAi bX3 aAa (sg [aAy,pI,pS] [rSl 9]) Tryz.f24 H [C.sl ns,C.sl es,C.sl os,C.sl ss,C.int .i64 r,C.int .i64 x,C.int .i64 b,C.str t]).eval=((.must (aQk ns es os ss&&decide (t.length≤16777216)) (.must ((true&&(wtN ns es os ss r x (aB9 b) t).all fun row=>decide (row.length=3))&&((true&&es.all fun row=>decide (row.length=2))&&((true&&os.all fun row=>decide (row.length=2))&&((true&&ss.all fun row=>decide (row.length=1))&&(decide (0<1)&&true&&(decide (0<1)&&true&&true)))))&&true&&true) (.must (aSx (List.take (wtN ns es os ss r x (aB9 b) t).length (wtN ns es os ss r x (aB9 b) t)) (List.take es.length es)) (.must ((true&&(List.map aCd (aD0 (aEh (nds (List.take (wtN ns es os ss r x (aB9 b) t).length (wtN ns es os ss r x (aB9 b) t))) (ens (List.take es.length es))))).all fun row=>decide (row.length=1))&&true&&true&&true) (.must (decide ((List.map aCd (aD0 (aEh (nds (List.take (wtN ns es os ss r x (aB9 b) t).length (wtN ns es os ss r x (aB9 b) t))) (ens (List.take es.length es))))).length=(List.map aCd (aD0 (aEh (nds (List.take (wtN ns es os ss r x (aB9 b) t).length (wtN ns es os ss r x (aB9 b) t))) (ens (List.take es.length es))))).length)&&(false||(List.map aCd (aD0 (aEh (nds (List.take (wtN ns es os ss r x (aB9 b) t).length (wtN ns es os ss r x (aB9 b) t))) (ens (List.take es.length es))))).all fun r=>r.all C.flat)&&true&&true&&true) (.ret [C.sl (List.map aCd (aD0 (aEh (nds (List.take (wtN ns es os ss r x (aB9 b) t).length (wtN ns es os ss r x (aB9 b) t))) (ens (List.take es.length es)))))])))))):T (List C)).eval:=aAh (by kernel_rfl)
theorem bRe (H:List Pt→Nat→St→T (List C)) (ns:List (List C)) (es:List (List C)) (os:List (List C)) (ss:List (List C)) (r:Int) (x:Int) (b:Int) (t:List UInt8):(aAi bX7 aAa (sg [aK1,pI,pS] [rB]) Tryz.f6 H [C.sl ns,C.sl es,C.sl os,C.sl ss,C.int .i64 r,C.int .i64 x,C.int .i64 b,C.str t]).eval=((.ask (decide ((1048576:Int)<(↑t.length:Int))) (.ret [C.bool true]) (.must (decide ((0:Int)≤(1048576:Int))&&decide ((1048576:Int)≤(1048576:Int))&&(aBd 281474976710656 ns es os ss&&aBa ns es os ss&&aF8 ns es os ss)) (.ask (decide (aNn (nds ns) (ens es) (ens os) (aDa ss) 1048576<(0:Int))) (.ret [C.bool true]) (.must (aBd 1048576 ns es os ss&&aBa ns es os ss) (.must ((true&&ns.all fun row=>decide (row.length=3))&&((true&&es.all fun row=>decide (row.length=2))&&((true&&os.all fun row=>decide (row.length=2))&&((true&&ss.all fun row=>decide (row.length=1))&&(decide (0<1)&&true&&(decide (0<1)&&true&&true)))))&&true&&true) (.must (aQk (List.take ns.length ns) (List.take es.length es) (List.take os.length os) (List.take ss.length ss)&&(aSx (List.take ns.length ns) (List.take es.length es)&&decide (t.length≤1048576))) (.must ((true&&(aBb (List.take ns.length ns) (List.take es.length es) (List.take os.length os) (List.take ss.length ss) r x b t).all fun row=>decide (row.length=1))&&true&&true&&true) (.must (aBd 1048576 ns es os ss&&aBa ns es os ss) (.must ((true&&ns.all fun row=>decide (row.length=3))&&((true&&es.all fun row=>decide (row.length=2))&&((true&&os.all fun row=>decide (row.length=2))&&((true&&ss.all fun row=>decide (row.length=1))&&(decide (0<1)&&true&&(decide (0<1)&&true&&true)))))&&true&&true) (.must (aQk (List.take ns.length ns) (List.take es.length es) (List.take os.length os) (List.take ss.length ss)&&(aSx (List.take ns.length ns) (List.take es.length es)&&decide (t.length≤1048576))) (.must ((true&&(aBb (List.take ns.length ns) (List.take es.length es) (List.take os.length os) (List.take ss.length ss) r x b t).all fun row=>decide (row.length=1))&&true&&true&&true) (.must (decide ((List.take (aBb (List.take ns.length ns) (List.take es.length es) (List.take os.length os) (List.take ss.length ss) r x b t).length (aBb (List.take ns.length ns) (List.take es.length es) (List.take os.length os) (List.take ss.length ss) r x b t)).length≤1073741824)&&(aAf [K.str] (List.take (aBb (List.take ns.length ns) (List.take es.length es) (List.take os.length os) (List.take ss.length ss) r x b t).length (aBb (List.take ns.length ns) (List.take es.length es) (List.take os.length os) (List.take ss.length ss) r x b t))&&aAf [K.str] (List.take (aBb (List.take ns.length ns) (List.take es.length es) (List.take os.length os) (List.take ss.length ss) r x b t).length (aBb (List.take ns.length ns) (List.take es.length es) (List.take os.length os) (List.take ss.length ss) r x b t)))) (.ask (decide (aDa (List.take (aBb (List.take ns.length ns) (List.take es.length es) (List.take os.length os) (List.take ss.length ss) r x b t).length (aBb (List.take ns.length ns) (List.take es.length es) (List.take os.length os) (List.take ss.length ss) r x b t))=aDa (List.take (aBb (List.take ns.length ns) (List.take es.length es) (List.take os.length os) (List.take ss.length ss) r x b t).length (aBb (List.take ns.length ns) (List.take es.length es) (List.take os.length os) (List.take ss.length ss) r x b t)))) (.must (aBd 1048576 ns es os ss&&aBa ns es os ss) (.must ((true&&ns.all fun row=>decide (row.length=3))&&((true&&es.all fun row=>decide (row.length=2))&&((true&&os.all fun row=>decide (row.length=2))&&((true&&ss.all fun row=>decide (row.length=1))&&(decide (0<1)&&true&&(decide (0<1)&&true&&true)))))&&true&&true) (.must (aBd 1048576 (List.take ns.length ns) (List.take es.length es) (List.take os.length os) (List.take ss.length ss)&&aBa (List.take ns.length ns) (List.take es.length es) (List.take os.length os) (List.take ss.length ss)&&aBa (List.take ns.length ns) (List.take es.length es) (List.take os.length os) (List.take ss.length ss)) (.ask (bVq (List.take ns.length ns) (List.take es.length es) (List.take os.length os) (List.take ss.length ss) r x (List.take ns.length ns) (List.take es.length es) (List.take os.length os) (List.take ss.length ss) r x) (.must (true&&(true&&(true&&(true&&(true&&(true&&(true&&true))))))&&(decide (ns.length=ns.length)&&(decide (es.length=es.length)&&(decide (os.length=os.length)&&(decide (ss.length=ss.length)&&true)))&&true)) (.must (aBa ns es os ss&&(aBd 1048576 ns es os ss&&(decide ((0:Int)≤(1:Int))&&decide ((1:Int)≤(1073741824:Int))))) (.must (decide (0<1)&&true&&true&&true&&((decide ((mk mkN 3 1 ns.length).length=ns.length)&&(mk mkN 3 1 ns.length).all fun row=>decide (row.length=3))&&((decide ((mk aFa 2 ((1:Int)+(3:Int)*(↑ns.length:Int)) es.length).length=es.length)&&(mk aFa 2 ((1:Int)+(3:Int)*(↑ns.length:Int)) es.length).all fun row=>decide (row.length=2))&&((decide ((mk aFa 2 ((1:Int)+(3:Int)*(↑ns.length:Int)+(2:Int)*(↑es.length:Int)) os.length).length=os.length)&&(mk aFa 2 ((1:Int)+(3:Int)*(↑ns.length:Int)+(2:Int)*(↑es.length:Int)) os.length).all fun row=>decide (row.length=2))&&((decide ((mk mkS 1 ((1:Int)+(3:Int)*(↑ns.length:Int)+(2:Int)*(↑es.length:Int)+(2:Int)*(↑os.length:Int)) ss.length).length=ss.length)&&(mk mkS 1 ((1:Int)+(3:Int)*(↑ns.length:Int)+(2:Int)*(↑es.length:Int)+(2:Int)*(↑os.length:Int)) ss.length).all fun row=>decide (row.length=1))&&true)))&&true)) (.must (decide ((List.take (aBb (List.take ns.length ns) (List.take es.length es) (List.take os.length os) (List.take ss.length ss) r x b t).length (aBb (List.take ns.length ns) (List.take es.length es) (List.take os.length os) (List.take ss.length ss) r x b t)).length≤1073741824)&&(aAf [K.str] (List.take (aBb (List.take ns.length ns) (List.take es.length es) (List.take os.length os) (List.take ss.length ss) r x b t).length (aBb (List.take ns.length ns) (List.take es.length es) (List.take os.length os) (List.take ss.length ss) r x b t))&&aAf [K.str] (List.take (aBb (List.take ns.length ns) (List.take es.length es) (List.take os.length os) (List.take ss.length ss) r x b t).length (aBb (List.take ns.length ns) (List.take es.length es) (List.take os.length os) (List.take ss.length ss) r x b t)))) (.ask (decide (aDa (List.take (aBb (List.take ns.length ns) (List.take es.length es) (List.take os.length os) (List.take ss.length ss) r x b t).length (aBb (List.take ns.length ns) (List.take es.length es) (List.take os.length os) (List.take ss.length ss) r x b t))=aDa (List.take (aBb (List.take ns.length ns) (List.take es.length es) (List.take os.length os) (List.take ss.length ss) r x b t).length (aBb (List.take ns.length ns) (List.take es.length es) (List.take os.length os) (List.take ss.length ss) r x b t)))) (.must (true&&(true&&true)&&(decide ((aBb (List.take ns.length ns) (List.take es.length es) (List.take os.length os) (List.take ss.length ss) r x b t).length=(aBb (List.take ns.length ns) (List.take es.length es) (List.take os.length os) (List.take ss.length ss) r x b t).length)&&true&&true)) (.must (aAf [K.str] (aBb (List.take ns.length ns) (List.take es.length es) (List.take os.length os) (List.take ss.length ss) r x b t)&&(decide ((aBb (List.take ns.length ns) (List.take es.length es) (List.take os.length os) (List.take ss.length ss) r x b t).length≤1073741824)&&(decide ((0:Int)≤(1:Int))&&decide ((1:Int)≤(1099511627776:Int))))) (.must (decide (0<1)&&true&&true&&true&&((decide ((mk mkS 1 1 (aBb (List.take ns.length ns) (List.take es.length es) (List.take os.length os) (List.take ss.length ss) r x b t).length).length=(aBb (List.take ns.length ns) (List.take es.length es) (List.take os.length os) (List.take ss.length ss) r x b t).length)&&(mk mkS 1 1 (aBb (List.take ns.length ns) (List.take es.length es) (List.take os.length os) (List.take ss.length ss) r x b t).length).all fun row=>decide (row.length=1))&&true&&true)) (.must (aAf [K.str] (List.take (aBb (List.take ns.length ns) (List.take es.length es) (List.take os.length os) (List.take ss.length ss) r x b t).length (mk mkS 1 1 (aBb (List.take ns.length ns) (List.take es.length es) (List.take os.length os) (List.take ss.length ss) r x b t).length))&&(decide ((List.take (aBb (List.take ns.length ns) (List.take es.length es) (List.take os.length os) (List.take ss.length ss) r x b t).length (mk mkS 1 1 (aBb (List.take ns.length ns) (List.take es.length es) (List.take os.length os) (List.take ss.length ss) r x b t).length)).length≤1073741824)&&(decide ((0:Int)≤(1:Int))&&decide ((1:Int)≤(1099511627776:Int))))) (.ask (decide (aNj (aDa (List.take (aBb (List.take ns.length ns) (List.take es.length es) (List.take os.length os) (List.take ss.length ss) r x b t).length (mk mkS 1 1 (aBb (List.take ns.length ns) (List.take es.length es) (List.take os.length os) (List.take ss.length ss) r x b t).length))) (1:Int)<(0:Int))) (.ret [C.bool false]) (.ask (aNj (aDa (List.take (aBb (List.take ns.length ns) (List.take es.length es) (List.take os.length os) (List.take ss.length ss) r x b t).length (mk mkS 1 1 (aBb (List.take ns.length ns) (List.take es.length es) (List.take os.length os) (List.take ss.length ss) r x b t).length))) (1:Int) != Int.ofNat (1+(aBb (List.take ns.length ns) (List.take es.length es) (List.take os.length os) (List.take ss.length ss) r x b t).length)) (.ret [C.bool false]) (.must (aBd 1048576 ns es os ss&&aBa ns es os ss) (.must ((true&&ns.all fun row=>decide (row.length=3))&&((true&&es.all fun row=>decide (row.length=2))&&((true&&os.all fun row=>decide (row.length=2))&&((true&&ss.all fun row=>decide (row.length=1))&&(decide (0<1)&&true&&(decide (0<1)&&true&&true)))))&&true&&true) (.must (aQk (List.take ns.length ns) (List.take es.length es) (List.take os.length os) (List.take ss.length ss)&&(aSx (List.take ns.length ns) (List.take es.length es)&&decide (t.length≤1048576))) (.must ((true&&(aBb (List.take ns.length ns) (List.take es.length es) (List.take os.length os) (List.take ss.length ss) r x b t).all fun row=>decide (row.length=1))&&true&&true&&true) (.must (decide ((List.take (aBb (List.take ns.length ns) (List.take es.length es) (List.take os.length os) (List.take ss.length ss) r x b t).length (aBb (List.take ns.length ns) (List.take es.length es) (List.take os.length os) (List.take ss.length ss) r x b t)).length≤1073741824)&&(aAf [K.str] (List.take (aBb (List.take ns.length ns) (List.take es.length es) (List.take os.length os) (List.take ss.length ss) r x b t).length (aBb (List.take ns.length ns) (List.take es.length es) (List.take os.length os) (List.take ss.length ss) r x b t))&&aAf [K.str] (List.take (aBb (List.take ns.length ns) (List.take es.length es) (List.take os.length os) (List.take ss.length ss) r x b t).length (aBb (List.take ns.length ns) (List.take es.length es) (List.take os.length os) (List.take ss.length ss) r x b t)))) (.ask (decide (aDa (List.take (aBb (List.take ns.length ns) (List.take es.length es) (List.take os.length os) (List.take ss.length ss) r x b t).length (aBb (List.take ns.length ns) (List.take es.length es) (List.take os.length os) (List.take ss.length ss) r x b t))=aDa (List.take (aBb (List.take ns.length ns) (List.take es.length es) (List.take os.length os) (List.take ss.length ss) r x b t).length (aBb (List.take ns.length ns) (List.take es.length es) (List.take os.length os) (List.take ss.length ss) r x b t)))) (.must (aAf [K.str] (List.take (aBb (List.take ns.length ns) (List.take es.length es) (List.take os.length os) (List.take ss.length ss) r x b t).length (mk mkS 1 1 (aBb (List.take ns.length ns) (List.take es.length es) (List.take os.length os) (List.take ss.length ss) r x b t).length))&&(decide ((List.take (aBb (List.take ns.length ns) (List.take es.length es) (List.take os.length os) (List.take ss.length ss) r x b t).length (mk mkS 1 1 (aBb (List.take ns.length ns) (List.take es.length es) (List.take os.length os) (List.take ss.length ss) r x b t).length)).length≤1073741824)&&(decide ((0:Int)≤(1:Int))&&decide ((1:Int)≤(1099511627776:Int))))) (.ask (decide (aNj (aDa (List.take (aBb (List.take ns.length ns) (List.take es.length es) (List.take os.length os) (List.take ss.length ss) r x b t).length (mk mkS 1 1 (aBb (List.take ns.length ns) (List.take es.length es) (List.take os.length os) (List.take ss.length ss) r x b t).length))) (1:Int)<(0:Int))) (.ret [C.bool false]) (.ask (aNj (aDa (List.take (aBb (List.take ns.length ns) (List.take es.length es) (List.take os.length os) (List.take ss.length ss) r x b t).length (mk mkS 1 1 (aBb (List.take ns.length ns) (List.take es.length es) (List.take os.length os) (List.take ss.length ss) r x b t).length))) (1:Int) != Int.ofNat (1+(aBb (List.take ns.length ns) (List.take es.length es) (List.take os.length os) (List.take ss.length ss) r x b t).length)) (.ret [C.bool false]) (.ret [C.bool true])))) (.ret [C.bool false]))))))))))))) (.ret [C.bool false])))))) (.ret [C.bool false]))))) (.ret [C.bool false])))))))))))))):T (List C)).eval:=aAh (by kernel_rfl)
theorem bKn {ns es os ss:List (List C)} (r x:Int) (nm t:List UInt8) (hd:aQk ns es os ss=true) (hk:aSx ns es=true) (ht:t.length≤1048576):aSx (wtN ns es os ss r x nm t) es=true:=by
 obtain⟨w1,w2⟩:=bKw r x nm t hd (by omega)
 obtain⟨d1,d2,_⟩:=aEa.1 hd
 have hk':=hk
 unfold aSx at hk ⊢
 simp only[Bool.and_eq_true,List.all_eq_true,decide_eq_true_eq]at hk ⊢
 refine⟨?_,?_⟩
 ·obtain⟨a1,a2,a3,a4⟩:=aM7.1 hk.1
  exact aM7.2 ⟨by rw[w2];exact a1,a2,(aFz.1 w1).1,a4⟩
 ·obtain⟨l,rfl,e,hl,hlt⟩:=aI3 d1
  unfold wtN
  split
  ·rw[aM9,aGj]
   intro y hy
   rw[aGj]at hk
   rcases List.mem_or_eq_of_mem_set hy with hy | rfl
   ·exact hk.2 y hy
   ·exact ht
  ·exact hk.2
theorem cAy {ns es:List (List C)} (h:aSx ns es=true):(aD0 (aEh (nds ns) (ens es))).length≤16777216:=by
 have h1:=aMb (aEh (nds ns) (ens es)) (aZo h)
 have h2:=aFr (nds ns) (ens es) 16 0 0
 unfold aEh at h1
 unfold aEh
 omega
theorem bZ3 (l:List (List UInt8)):((l.map aCd).all fun row=>decide (row.length=1))=true:=by simp
theorem cAl:aA8 Tryz.prog bX9:=aA6 (by simp[aHr,bFq,aVo])
theorem bOs:aAs Tryz.prog 25 (sg [aAy,pI,pS] [rSl 9]) aZh:=aA5 cAl aA9 Tryz.func25 (by kernel_rfl) fun cs outs hk h=>by
 unfold aZh at h
 split at h
 ·simp only[Option.some.injEq,Prod.mk.injEq,Bool.and_eq_true,decide_eq_true_eq]at h
  obtain⟨⟨hd,hkd,ht⟩,rfl⟩:=h
  rename_i ns es os ss r x b t
  have tl:t.length≤16777216:=by omega
  obtain⟨n3,e2,o2,s1,nf,ef,of',sf⟩:=aMi hd
  have dk:=bKn r x (aB9 b) t hd hkd ht
  obtain⟨w1,w2⟩:=bKw r x (aB9 b) t hd tl
  have rW:=bLn w1
  rw[aAb,bS4]
  unfold aBb bP4
  simp only[List.take_length,aA0,aA1,hd,tl,rW,e2,o2,s1,dk,bZ3,aEf,decide_true,Bool.and_self,Bool.and_true,Bool.true_and,Bool.or_true,Bool.false_or,if_true,Nat.reduceLT]
 ·cases h
theorem bZv:aA8 Tryz.prog bX3:=aA6 (by simp[aHp,bE2,aUj])
theorem bNk:aAs Tryz.prog 24 (sg [aAy,pI,pS] [rSl 9]) aZh:=aA5 bZv aA9 Tryz.func24 (by kernel_rfl) fun cs outs hk h=>by
 unfold aZh at h
 split at h
 ·simp only[Option.some.injEq,Prod.mk.injEq,Bool.and_eq_true,decide_eq_true_eq]at h
  obtain⟨⟨hd,hkd,ht⟩,rfl⟩:=h
  rename_i ns es os ss r x b t
  have tl:t.length≤16777216:=by omega
  obtain⟨n3,e2,o2,s1,nf,ef,of',sf⟩:=aMi hd
  have dk:=bKn r x (aB9 b) t hd hkd ht
  obtain⟨w1,w2⟩:=bKw r x (aB9 b) t hd tl
  have rW:=bLn w1
  rw[aAb,bQf]
  unfold aBb bP4
  simp only[List.take_length,aA0,aA1,hd,tl,rW,e2,o2,s1,dk,bZ3,aEf,decide_true,Bool.and_self,Bool.and_true,Bool.true_and,Bool.or_true,Bool.false_or,if_true,Nat.reduceLT]
 ·cases h
theorem cAb:aA8 Tryz.prog bX7:=aA6 (by simp[aLe,aP3,aRt,aS7,aRz,aS1,aS0,bOs,bNk])
theorem bO5:aAs Tryz.prog 6 (sg [aK1,pI,pS] [rB]) bSs:=aA5 cAb aA9 Tryz.func6 (by kernel_rfl) fun cs outs hk h=>by
 unfold bSs at h
 split at h
 ·simp only[Option.some.injEq,Prod.mk.injEq]at h
  obtain⟨hl,rfl⟩:=h
  rename_i ns es os ss r x b t
  rw[aAb,bRe]
  have hl':=hl
  unfold aJg at hl'
  simp only[Bool.and_eq_true]at hl'
  obtain⟨⟨g1,g2⟩,g3⟩:=hl'
  have d0:decide ((0:Int)≤1048576)=true:=by decide
  have d1:decide ((1048576:Int)≤1048576)=true:=by decide
  have d2:decide (0<1)=true:=by decide
  by_cases z2:(1048576:Int)<t.length
  ·exact aAc (decide_eq_true z2) rfl
  refine aAj (decide_eq_false z2) ?_
  have tl:t.length≤1048576:=by omega
  simp only[aA0,aA2,aA1,d0,d1,d2,g1,g2,g3,Bool.and_self,if_true,decide_eq_true_eq]
  by_cases hs:aNn (nds ns) (ens es) (ens os) (aDa ss) 1048576<0
  ·simp only[hs,if_true]
  ·obtain⟨_,_,_,q4,q5⟩:=aQt hl hs
   obtain⟨r1,r2,r3,r4⟩:=bGo g2
   have hd:=bGq hl hs
   have ml:=cAy (bKn r x (aB9 b) t hd q5 tl)
   have dm:aBb ns es os ss r x b t=(bP4 ns es os ss r x b t).map aCd:=rfl
   have ml:(bP4 ns es os ss r x b t).length≤16777216:=ml
   simp only[hs,if_false,List.take_length,dm]
   generalize bP4 ns es os ss r x b t=m at ml ⊢
   have m1:decide ((m.map aCd).length≤1073741824)=true:=by simp;omega
   have d3:decide ((0:Int)≤1)=true:=by decide
   have d4:decide ((1:Int)≤1073741824)=true:=by decide
   have d5:decide ((1:Int)≤1099511627776)=true:=by decide
   have y1:¬((1:Int)+((m.map aCd).length:Int)<0):=by omega
   have y2:((1:Int)+((m.map aCd).length:Int) != Int.ofNat (1+(m.map aCd).length))=false:=by simp
   simp only[hd,tl,g2,q4,q5,r1,r2,r3,r4,d3,d4,d5,m1,y1,y2,bZ3,aV6,bWb,bLm,aDn,cC8,cC9,cC7,aZ9,bGl,bne_self_eq_false,decide_true,Bool.and_self,Bool.and_true,Bool.true_and,Bool.false_eq_true,if_true,if_false]
 ·cases h
end Go.Proofs.YtigodjkegcibhaaGreatDoor.V
