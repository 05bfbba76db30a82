-- where a printed function lies: written by gprint.py, a program of this session
import Derived.Test.YtcheinjlgojepaaDoorP19
